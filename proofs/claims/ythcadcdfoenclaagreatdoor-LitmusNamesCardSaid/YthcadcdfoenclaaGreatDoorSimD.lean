/- A machine that runs closed calls of the program by the kernel: one operation of the machine, and that the model does the same; memos of calls. No condition. -/
import Derived.Test.YthcadcdfoenclaaGreatDoorSimC
namespace Go.Proofs.YthcadcdfoenclaaGreatDoor.Sim
open Go Go.RowKit

section
inductive ARes where
  | val (v : Value) (A : AMem)
  | skip (A : AMem)
  | enter (f : FuncId) (args : List Value)
  | defer (d : Deferred)
  | recover
  | panic (v : Value)
  | round (l : Nat) (L : ALoop) (vars : List (Option Value)) (over : List (Nat × Value))
  | branch (rs : List (Value × AMem))

noncomputable def aeval (N : Nat) (vars : List (Option Value)) (over : List (Nat × Value)) (x : Operand) : Option Value :=
  match x with
  | .tmp t => tget vars over t
  | .const v => (match closedB v with | true => some v | false => none)
  | .global g => (match Nat.blt g N with | true => some (.pointer (some ⟨g, 0, none⟩)) | false => none)
  | .func f => some (.func (.func f) #[] #[])

def RhoRel (μ : Mu) (ev : Operand → Option Value) (ρ : Operand → Value) : Prop := ∀ x v, ev x = some v → VRel μ v (ρ x)
def GRel (μ : Mu) (N : Nat) (ν : Mu) : Prop := (∀ g, g < N → μ g = some ⟨g, 0, none, 0⟩) ∧ Mu.Le ν μ

noncomputable def evL (ev : Operand → Option Value) (xs : List Operand) : Option (List Value) :=
  List.rec (motive := fun _ => Option (List Value)) (some []) (fun x _ r => match ev x, r with | some v, some l => some (v :: l) | _, _ => none) xs
theorem evL_cons (ev : Operand → Option Value) (x : Operand) (xs : List Operand) : evL ev (x :: xs) = match ev x, evL ev xs with | some v, some l => some (v :: l) | _, _ => none := rfl
theorem evL_ok {μ : Mu} {ev : Operand → Option Value} {ρ : Operand → Value} (h : RhoRel μ ev ρ) : ∀ {xs : List Operand} {vs : List Value}, evL ev xs = some vs → VsRel μ vs (xs.map ρ) := by
  intro xs
  induction xs with
  | nil => intro vs h; injection h with h; subst h; exact .nil
  | cons x xs ih =>
    intro vs hv
    rw [evL_cons] at hv
    split at hv
    · rename_i v l hx hl
      injection hv with hv; subst hv
      exact .cons (h x v hx) (ih hl)
    · cases hv
noncomputable def evP (ev : Operand → Option Value) (xs : List (Nat × Operand)) : Option (List (Nat × Value)) :=
  List.rec (motive := fun _ => Option (List (Nat × Value))) (some []) (fun x _ r => match ev x.2, r with | some v, some l => some ((x.1, v) :: l) | _, _ => none) xs
theorem evP_cons (ev : Operand → Option Value) (x : Nat × Operand) (xs : List (Nat × Operand)) : evP ev (x :: xs) = match ev x.2, evP ev xs with | some v, some l => some ((x.1, v) :: l) | _, _ => none := rfl
theorem evP_ok {μ : Mu} {ev : Operand → Option Value} {ρ : Operand → Value} (h : RhoRel μ ev ρ) : ∀ {xs : List (Nat × Operand)} {vs : List (Nat × Value)}, evP ev xs = some vs → PartsRel μ vs (xs.map fun (i, x) => (i, ρ x)) := by
  intro xs
  induction xs with
  | nil => intro vs h; injection h with h; subst h; exact .nil
  | cons x xs ih =>
    intro vs hv
    rw [evP_cons] at hv
    split at hv
    · rename_i v l hx hl
      injection hv with hv; subst hv
      exact .cons ⟨rfl, h _ v hx⟩ (ih hl)
    · cases hv
def evO (ev : Operand → Option Value) (x : Option Operand) : Option (Option Value) :=
  match x with
  | none => some none
  | some x => (match ev x with | some v => some (some v) | none => none)
theorem evO_ok {μ : Mu} {ev : Operand → Option Value} {ρ : Operand → Value} (h : RhoRel μ ev ρ) {x : Option Operand} {v : Option Value} (hv : evO ev x = some v) : OptRel μ v (x.map ρ) := by
  unfold evO at hv
  split at hv
  · injection hv with hv; subst hv; trivial
  · split at hv
    · rename_i w hw
      injection hv with hv; subst hv
      exact h _ _ hw
    · cases hv

noncomputable def tsets (ps : List Tmp) (vs : List Value) (st : List (Option Value) × List (Nat × Value)) (nt : Nat) : Option (List (Option Value) × List (Nat × Value)) :=
  match ps, vs with
  | [], [] => some st
  | p :: ps, v :: vs => (match Nat.blt p nt with | true => tsets ps vs (tset st.1 st.2 p v) nt | false => none)
  | _, _ => none

noncomputable def rFunc (T : Tab) (A : AMem) (f : Value) (args : List Value) : Option ARes :=
  match f with
  | .func (.func fid) ⟨first⟩ ⟨captured⟩ => (match T.fn.get fid with
      | some _ => some (.enter fid (app (app first args) captured))
      | none => (match T.ext.get fid with | some k => (match extR A k (app (app first args) captured) with | some r => some (.val r.1 r.2) | none => none) | none => none))
  | .func (.yield l) ⟨[]⟩ ⟨[]⟩ =>
    (match A.heap.get l with
      | some (.loop L) => (match tsets L.params args (L.vars, L.over) L.nt with | some (vs, ov) => some (.round l L vs ov) | none => none)
      | _ => none)
  | _ => none
noncomputable def rInvoke (T : Tab) (recv : Value) (name : String) (args : List Value) : Option ARes :=
  match recv with
  | .iface t v =>
    (match T.meth.get t with
      | some l => (match methOf l name with | some f => (match T.fn.get f with | some _ => some (.enter f (v :: args)) | none => none) | none => none)
      | none => none)
  | _ => none
def rv (r : Option (Value × AMem)) : Option ARes := match r with | some (v, A) => some (.val v A) | none => none
def rp (A : AMem) (r : Option Value) : Option ARes := match r with | some v => some (.val v A) | none => none
def ru (r : Option AMem) : Option ARes := match r with | some A => some (.skip A) | none => none
noncomputable def opClear (T : Tab) (A : AMem) (ats : List TypeId) (x : Value) : Option (Value × AMem) :=
  match ats, x with
  | t :: _, .map (some r) => (match T.ty.get t, A.heap.get r with | some _, some (.map _ cl) => some (.tuple ⟨[]⟩, aset A r (.map [] cl)) | _, _ => none)
  | t :: _, .map none => (match T.ty.get t with | some _ => some (.tuple ⟨[]⟩, A) | _ => none)
  | t :: _, .slice _ 0 _ => (match T.ty.get t with | some _ => some (.tuple ⟨[]⟩, A) | _ => none)
  | t :: _, .slice (some ⟨b, off, none⟩) n _ =>
    (match T.ty.get t with
      | some { desc := .slice el, .. } => (match T.ty.get el with | some te => (match astore A b off (reps te.zero.cells.toList n) with | some A' => some (.tuple ⟨[]⟩, A') | none => none) | none => none)
      | _ => none)
  | _, _ => none
noncomputable def rBuiltin (T : Tab) (A : AMem) (b : Builtin) (ats : List TypeId) (args : List Value) : Option ARes :=
  match b, args with
  | .append, [s, x] => (match x with | .int k n => rv (opAppendZ T A ats s (.int k n)) | x => rv (opAppend T A ats s x))
  | .len, [x] => rp A (opLen T A ats x)
  | .cap, [x] => rp A (opCap T A ats x)
  | .copy, [d, s] => rv (opCopy T A ats d s)
  | .min, xs => rp A (opMinMax false xs)
  | .max, xs => rp A (opMinMax true xs)
  | .clear, [x] => rv (opClear T A ats x)
  | .unsafeSliceData, [x] => rp A (opSliceData x)
  | .unsafeString, [p, n] => rv (opUStr T A ats p n)
  | .recover, _ => some .recover
  | _, _ => none
noncomputable def rCall (T : Tab) (A : AMem) (ev : Operand → Option Value) (c : Call) : Option ARes :=
  match evL ev c.args.toList with
  | some args =>
    match c.callee with
    | .builtin b => rBuiltin T A b c.argTypes.toList args
    | .value f => (match ev f with | some fv => rFunc T A fv args | none => none)
    | .invoke recv name => (match ev recv with | some x => rInvoke T x name args | none => none)
  | none => none
noncomputable def rDefer (ev : Operand → Option Value) (c : Call) : Option ARes :=
  match evL ev c.args.toList, c.callee with
  | some args, .value f =>
    (match ev f with
      | some (.func (.func fid) ⟨first⟩ captured) => some (.defer { target := .fn (.func fid) captured, args := ⟨app first args⟩ })
      | _ => none)
  | _, _ => none

noncomputable def rPanic (x : Value) : Option ARes := match x with | .iface t v => some (.panic (.iface t v)) | _ => none
def rNil (A : AMem) (x : Value) : Option ARes :=
  match x with
  | .pointer (some a) => some (.val (.pointer (some a)) A)
  | .func (.func f) a b => some (.val (.func (.func f) a b) A)
  | .func (.yield l) a b => some (.val (.func (.yield l) a b) A)
  | .iface t v => some (.val (.iface t v) A)
  | _ => none
noncomputable def rFunV (A : AMem) (fn : Fn) (first captured : List Value) : Option ARes :=
  match fn with
  | .func f => some (.val (.func (.func f) ⟨first⟩ ⟨captured⟩) A)
  | _ => none
def rPick (A : AMem) (c a b : Option Value) : Option ARes := match c with | some (.bool true) => rp A a | some (.bool false) => rp A b | _ => none

noncomputable def aoBox (A : AMem) (ev : Operand → Option Value) (x : Operand) : Option ARes := match ev x with | some v => rv (opBox A v) | none => none
noncomputable def aoBuild (T : Tab) (A : AMem) (ev : Operand → Option Value) (t : TypeId) (ps : Array (Nat × Operand)) : Option ARes := match evP ev ps.toList with | some l => rp A (opBuild T t l) | none => none
noncomputable def aoBuildSlice (T : Tab) (A : AMem) (ev : Operand → Option Value) (t : TypeId) (n : Nat) (ps : Array (Nat × Operand)) : Option ARes := match evP ev ps.toList with | some l => rv (opBuildSlice T A t n l) | none => none
noncomputable def aoLoad (T : Tab) (A : AMem) (ev : Operand → Option Value) (t : TypeId) (a : Operand) : Option ARes := match ev a with | some v => rv (opLoad T A t v) | none => none
noncomputable def aoStore (T : Tab) (A : AMem) (ev : Operand → Option Value) (t : TypeId) (a : Operand) (x : Operand) : Option ARes := match ev a, ev x with | some v, some u => ru (opStore T A t v u) | _, _ => none
noncomputable def aoNilCheck (A : AMem) (ev : Operand → Option Value) (x : Operand) : Option ARes := match ev x with | some v => rNil A v | none => none
noncomputable def aoBinOp (T : Tab) (A : AMem) (ev : Operand → Option Value) (op : BinOp) (t : TypeId) (x : Operand) (y : Operand) : Option ARes := match ev x, ev y with | some v, some u => rp A (opBin T A op t x y v u) | _, _ => none
noncomputable def aoUnOp (A : AMem) (ev : Operand → Option Value) (op : UnOp) (x : Operand) : Option ARes := match ev x with | some v => rp A (opUn op v) | none => none
noncomputable def aoConvert (T : Tab) (A : AMem) (ev : Operand → Option Value) (s : TypeId) (d : TypeId) (x : Operand) : Option ARes := match ev x with | some v => rv (opConvert T A s d v) | none => none
noncomputable def aoMakeInterface (T : Tab) (A : AMem) (ev : Operand → Option Value) (t : TypeId) (x : Operand) : Option ARes := match ev x with | some v => rp A (opIface T t v) | none => none
noncomputable def aoMakeFunc (A : AMem) (ev : Operand → Option Value) (fn : Fn) (first : Array Operand) (captured : Array Operand) : Option ARes := match evL ev first.toList, evL ev captured.toList with | some a, some b => rFunV A fn a b | _, _ => none
noncomputable def aoMakeMap (T : Tab) (A : AMem) (ev : Operand → Option Value) (t : TypeId) (r : Option Operand) : Option ARes := match evO ev r with | some h => rv (opMakeMap T A t h) | none => none
noncomputable def aoMakeSlice (T : Tab) (A : AMem) (ev : Operand → Option Value) (t : TypeId) (l : Operand) (c : Operand) : Option ARes := match ev l, ev c with | some v, some u => rv (opMakeSliceX T A t v u) | _, _ => none
noncomputable def aoSlice (T : Tab) (A : AMem) (ev : Operand → Option Value) (t : TypeId) (x : Operand) (lo : Option Operand) (hi : Option Operand) : Option ARes := match ev x, evO ev lo, evO ev hi with | some v, some l, some h => rp A (opSlice T A t v l h) | _, _, _ => none
noncomputable def aoSlice3 (T : Tab) (A : AMem) (ev : Operand → Option Value) (t : TypeId) (x : Operand) (lo : Option Operand) (hi : Operand) (mx : Operand) : Option ARes := match ev x, evO ev lo, ev hi, ev mx with | some v, some l, some h, some m => rp A (opSlice3 T A t v l h m) | _, _, _, _ => none
noncomputable def aoFieldAddr (T : Tab) (A : AMem) (ev : Operand → Option Value) (t : TypeId) (x : Operand) (f : Nat) : Option ARes := match ev x with | some v => rp A (opFieldAddr T t v f) | none => none
noncomputable def aoField (T : Tab) (A : AMem) (ev : Operand → Option Value) (t : TypeId) (x : Operand) (f : Nat) : Option ARes := match ev x with | some v => rp A (opField T t v f) | none => none
noncomputable def aoIndexAddr (T : Tab) (A : AMem) (ev : Operand → Option Value) (t : TypeId) (x : Operand) (i : Operand) : Option ARes := match ev x, ev i with | some v, some u => rp A (opIndexAddr T t v u) | _, _ => none
noncomputable def aoIndex (T : Tab) (A : AMem) (ev : Operand → Option Value) (t : TypeId) (x : Operand) (i : Operand) : Option ARes := match ev x, ev i with | some v, some u => rp A (opIndex T t v u) | _, _ => none
noncomputable def aoLookup (T : Tab) (A : AMem) (ev : Operand → Option Value) (t : TypeId) (x : Operand) (i : Operand) (ok : Bool) : Option ARes := match ev x, ev i with | some v, some u => rp A (opLookupX T A t v u ok) | _, _ => none
noncomputable def aoMapUpdate (T : Tab) (A : AMem) (ev : Operand → Option Value) (t : TypeId) (m : Operand) (k : Operand) (x : Operand) : Option ARes := match ev m, ev k, ev x with | some v, some u, some z => ru (opMapUpdateX T A t v u z) | _, _, _ => none
noncomputable def aoMapEntry (T : Tab) (A : AMem) (ev : Operand → Option Value) (t : TypeId) (m : Operand) (k : Operand) : Option ARes := match ev m, ev k with | some v, some u => rv (opMapEntry T A t v u) | _, _ => none
noncomputable def aoEntryStore (A : AMem) (ev : Operand → Option Value) (m : Operand) (s : Operand) (x : Operand) : Option ARes := match ev m, ev s, ev x with | some v, some u, some z => ru (opEntryStore A v u z) | _, _, _ => none
noncomputable def aoRange (T : Tab) (A : AMem) (ev : Operand → Option Value) (t : TypeId) (x : Operand) : Option ARes := match ev x with | some v => rv (opRange T A t v) | none => none
noncomputable def aoNext (A : AMem) (ev : Operand → Option Value) (it : Operand) : Option ARes := match ev it with | some v => rv (opNextStr A v) | none => none
noncomputable def aoNextMap (A : AMem) (ev : Operand → Option Value) (it : Operand) : Option ARes := match ev it with | some v => (match opNextMap A v with | some rs => some (.branch rs) | none => none) | none => none
noncomputable def aoEntry (A : AMem) (ev : Operand → Option Value) (it : Operand) : Option ARes := match ev it with | some v => rp A (opEntry A v) | none => none
noncomputable def aoTypeAssert (T : Tab) (A : AMem) (ev : Operand → Option Value) (x : Operand) (t : TypeId) (ok : Bool) : Option ARes := match ev x with | some v => rp A (opAssert T v t ok) | none => none
noncomputable def aoExtract (A : AMem) (ev : Operand → Option Value) (x : Operand) (i : Nat) : Option ARes := match ev x with | some v => rp A (opExtract v i) | none => none
noncomputable def aoPanic (ev : Operand → Option Value) (x : Operand) : Option ARes := match ev x with | some v => rPanic v | none => none
noncomputable def aop (T : Tab) (A : AMem) (ev : Operand → Option Value) (o : Op) : Option ARes :=
  match o with
  | .move x | .assign x => rp A (ev x)
  | .pick c a b => rPick A (ev c) (ev a) (ev b)
  | .alloc t => rv (opAlloc T A t)
  | .box _ x => aoBox A ev x
  | .build t ps => aoBuild T A ev t ps
  | .buildSlice t n ps => aoBuildSlice T A ev t n ps
  | .load t a => aoLoad T A ev t a
  | .store t a x => aoStore T A ev t a x
  | .nilCheck x => aoNilCheck A ev x
  | .binOp op t x y _ => aoBinOp T A ev op t x y
  | .unOp op _ x => aoUnOp A ev op x
  | .convert s d x => aoConvert T A ev s d x
  | .makeInterface t x => aoMakeInterface T A ev t x
  | .makeFunc fn first captured => aoMakeFunc A ev fn first captured
  | .makeMap t r => aoMakeMap T A ev t r
  | .makeSlice t l c => aoMakeSlice T A ev t l c
  | .slice t x lo hi none => aoSlice T A ev t x lo hi
  | .slice t x lo (some hi) (some mx) => aoSlice3 T A ev t x lo hi mx
  | .fieldAddr t x f => aoFieldAddr T A ev t x f
  | .field t x f => aoField T A ev t x f
  | .indexAddr t x i => aoIndexAddr T A ev t x i
  | .index t x i => aoIndex T A ev t x i
  | .lookup t x i ok => aoLookup T A ev t x i ok
  | .mapUpdate t m k x | .insert t m k x => aoMapUpdate T A ev t m k x
  | .mapEntry t m k => aoMapEntry T A ev t m k
  | .entryStore _ m s x => aoEntryStore A ev m s x
  | .range t x => aoRange T A ev t x
  | .next it true => aoNext A ev it
  | .next it false => aoNextMap A ev it
  | .entry it => aoEntry A ev it
  | .typeAssert x _ t ok => aoTypeAssert T A ev x t ok
  | .extract x i => aoExtract A ev x i
  | .call c => rCall T A ev c
  | .defer c => rDefer ev c
  | .panic x => aoPanic ev x
  | _ => none

noncomputable def alop (T : Tab) (ev : Operand → Option Value) (o : Op) : Option (AObj × (Nat → Value)) :=
  match o with
  | .alloc t => alAlloc T t
  | .box _ x => (match ev x with | some v => alBox v | none => none)
  | .buildSlice t n ps => (match evP ev ps.toList with | some l => alBuildSlice T t n l | none => none)
  | .makeMap t r => (match evO ev r with | some h => alMakeMap T t h | none => none)
  | .makeSlice t l c => (match ev l, ev c with | some v, some u => alMakeSlice T t v u | _, _ => none)
  | _ => none

def NextVal (P : Program) (μ : Mu) (B : Nat) (A : AMem) (w : World) (s : Sem Next) (v : Value) (A' : AMem) : Prop :=
  ∃ v' w' μ', s.run P w = .ok (.value v') w' ∧ Mu.Ext A.next μ μ' ∧ MRel μ' B A' w'.heap ∧ VRel μ' v v' ∧ Below B w w' ∧ Keep μ A A'

def ResOk (P : Program) (T : Tab) (μ : Mu) (B : Nat) (A : AMem) (w : World) (s : Sem Next) : ARes → Prop
  | .val v A' => NextVal P μ B A w s v A'
  | .skip A' => ∃ w', s.run P w = .ok .skip w' ∧ MRel μ B A' w'.heap ∧ Below B w w' ∧ Keep μ A A'
  | .enter f args => ∃ args' : Array Value, s.run P w = .ok (.enter f args') w ∧ VsRel μ args args'.toList ∧ ∃ a, T.fn.get f = some a
  | .defer d => ∃ d', s.run P w = .ok (.defer d') w ∧ DefRel μ d d'
  | .recover => s.run P w = .ok .recover w
  | .panic v => ∃ v', s.run P w = .halt (.panic v') w ∧ VRel μ v v'
  | .round l L vars over => ∃ (e : Ent) (tm : Array Value), μ l = some e ∧ A.heap.get l = some (.loop L) ∧ s.run P w = .ok (.round e.blk L.fn tm L.assign L.body) w ∧ TRel μ L.nt vars over tm
  | .branch rs => ∃ r ∈ rs, NextVal P μ B A w s r.1 r.2

section
variable {P : Program} {T : Tab} {μ : Mu} {B : Nat} {A : AMem} {w : World}

theorem rv_ok {r : Option (Value × AMem)} {x : ARes} (h : rv r = some x) {s : Sem Value} (hs : ∀ y, r = some y → Ok P μ B A w s y.1 y.2) : ResOk P T μ B A w (do pure (.value (← s))) x := by
  unfold rv at h
  split at h
  · injection h with h; subst h
    obtain ⟨v', w', μ', h1, h2⟩ := hs _ rfl
    exact ⟨v', w', μ', by simp [h1], h2⟩
  · cases h
theorem rp_ok (R : MRel μ B A w.heap) {r : Option Value} {x : ARes} (h : rp A r = some x) {s : Sem Value} (hs : ∀ y, r = some y → ∃ v', s.run P w = .ok v' w ∧ VRel μ y v') : ResOk P T μ B A w (do pure (.value (← s))) x := by
  unfold rp at h
  split at h
  · injection h with h; subst h
    obtain ⟨v', h1, h2⟩ := hs _ rfl
    exact ⟨v', w, μ, by simp [h1], Mu.Ext.refl _ μ, R, h2, Below.refl _ _, Keep.refl _ _⟩
  · cases h
theorem ru_ok {r : Option AMem} {x : ARes} (h : ru r = some x) {s : Sem Unit} (hs : ∀ y, r = some y → ∃ w', s.run P w = .ok () w' ∧ MRel μ B y w'.heap ∧ Below B w w' ∧ Keep μ A y) : ResOk P T μ B A w (do s; pure .skip) x := by
  unfold ru at h
  split at h
  · injection h with h; subst h
    obtain ⟨w', h1, h2⟩ := hs _ rfl
    exact ⟨w', by simp [h1], h2⟩
  · cases h

theorem tsets_ok : ∀ {ps : List Tmp} {vs vs' : List Value} {st r : List (Option Value) × List (Nat × Value)} {nt : Nat} {tm : Array Value}, VsRel μ vs vs' → tsets ps vs st nt = some r → TRel μ nt st.1 st.2 tm →
    ps.length = vs'.length ∧ TRel μ nt r.1 r.2 ((ps.zip vs').foldl (fun tmps (p : Tmp × Value) => tmps.setIfInBounds p.1 p.2) tm) := by
  intro ps
  induction ps with
  | nil =>
    intro vs vs' st r nt tm hv h ht
    cases vs with
    | nil => simp only [tsets] at h; injection h with h; subst h; rw [hv.nil_left]; exact ⟨rfl, ht⟩
    | cons v vs => simp only [tsets] at h; cases h
  | cons p ps ih =>
    intro vs vs' st r nt tm hv h ht
    cases vs with
    | nil => simp only [tsets] at h; cases h
    | cons v vs =>
      obtain ⟨v', vs'', rfl, h1, h2⟩ := hv.cons_left
      simp only [tsets] at h
      split at h
      · rename_i hlt
        have := ih h2 h (ht.set (blt_lt hlt) h1)
        exact ⟨by simp [this.1], by simpa using this.2⟩
      · cases h

theorem run_callFunc (C : Cert P T) {f : FuncId} {a : AFn} (h : T.fn.get f = some a) (args : Array Value) (w : World) : (callFunc f args).run P w = .ok (.enter f args) w := by
  obtain ⟨fn, h1, h2, _, _, h3⟩ := C.fn f a h
  have h4 : ¬ fn.name = "runtime.NumGoroutine" := by simpa using h3
  simp [callFunc, h1, h2, h4]

theorem of_func {fid : FuncId} {xs ys : List Value} {v : Value} (h : VRel μ (.func (.func fid) ⟨xs⟩ ⟨ys⟩) v) : ∃ xs' ys' : Array Value, v = .func (.func fid) xs' ys' ∧ VsRel μ xs xs'.toList ∧ VsRel μ ys ys'.toList := by
  cases h with
  | func _ hy hn hm hx hz =>
    exact ⟨_, _, rfl, ⟨by simpa using hn, fun i x y p q => hx i x y (by simpa using p) (by simpa using q)⟩, ⟨by simpa using hm, fun i x y p q => hz i x y (by simpa using p) (by simpa using q)⟩⟩

theorem rFunc_ok (C : Cert P T) (R : MRel μ B A w.heap) {f f' : Value} (hf : VRel μ f f') {args args' : List Value} (ha : VsRel μ args args') {x : ARes} (h : rFunc T A f args = some x) :
    ∃ d : Deferred, (Deferred.ofValue f' args'.toArray).run P w = .ok d w ∧ ResOk P T μ B A w (invoke d.target d.args) x := by
  unfold rFunc at h
  split at h
  · rename_i fid first captured
    obtain ⟨xs', ys', rfl, h1, h2⟩ := of_func hf
    split at h
    · rename_i a hfn
      injection h with h; subst h
      refine ⟨_, rfl, ?_⟩
      refine ⟨xs' ++ args'.toArray ++ ys', ?_, ?_, a, hfn⟩
      · simp only [invoke]; exact run_callFunc C hfn _ _
      · simp only [app_eq, Array.toList_append]
        exact (h1.app (by simpa using ha)).app h2
    · split at h
      · rename_i k hk
        split at h
        · rename_i r hv
          injection h with h; subst h
          have hargs : VsRel μ (app (app first args) captured) (xs'.toList ++ args' ++ ys'.toList) := by
            simp only [app_eq]
            exact (h1.app ha).app h2
          obtain ⟨v', w', q1, q2, q3, q4, q5⟩ := extR_ok C hk R hargs hv
          refine ⟨_, rfl, v', w', μ, ?_, Mu.Ext.refl _ μ, q2, q3, q4, q5⟩
          simp only [invoke]
          have e : (xs' ++ args'.toArray ++ ys') = (xs'.toList ++ args' ++ ys'.toList).toArray := by apply Array.ext'; simp
          rw [e]; exact q1
        · cases h
      · cases h
  · rename_i l
    split at h
    · rename_i L ho
      split at h
      · rename_i vs ov hts
        injection h with h; subst h
        have : ∃ e, μ l = some e ∧ f' = .func (.yield e.blk) #[] #[] := by
          cases hf with
          | func fn hy hn hm hx hz => exact absurd rfl (hy l)
          | yield he => exact ⟨_, he, rfl⟩
        obtain ⟨e, he, rfl⟩ := this
        refine ⟨_, rfl, e, ?_⟩
        obtain ⟨hg, hB, tm, ed, h1, h2, h3⟩ := R.obj l _ e ho he
        obtain ⟨k1, k2⟩ := tsets_ok ha hts h2
        refine ⟨_, he, ho, ?_, k2⟩
        have hg1 := run_getObj (P := P) (w := w) h3 (by intro c t f hc; cases hc)
        have hsz : ¬ (#[] ++ args'.toArray : Array Value).size ≠ L.params.toArray.size := by simp [k1]
        simp only [invoke, Instr.yield, Instr.getLoop, Sem.run_bind, hg1, Result.andThen_ok, Sem.run_pure]
        rw [if_neg hsz]
        simp only [Sem.run_pure]
        congr 2
        rw [← Array.foldl_toList]
        simp
      · cases h
    · cases h
  · cases h

theorem opClear_ok (C : Cert P T) (R : MRel μ B A w.heap) {ats : List TypeId} {x x' : Value} (hx : VRel μ x x') {r : Value × AMem} (h : opClear T A ats x = some r) (rt : TypeId) : Ok P μ B A w (Builtin.clear_ ats.toArray rt #[x']) r.1 r.2 := by
  unfold opClear at h
  split at h
  · rename_i t rest rr
    split at h
    · rename_i ti es cl ht ho
      injection h with h; subst h
      cases hx with
      | @map _ e he =>
      have hu := C.underlying ht w
      obtain ⟨hg, hB, es', h1, h3⟩ := R.obj rr _ e ho he
      have hg1 := run_getObj (P := P) (w := w) h1 (by intro c t f hc; cases hc)
      obtain ⟨es'', k1, _, k3, k4, k5, k6⟩ := mapSet_ok (P := P) (cl2 := cl) R he ho (es2 := []) (es2' := #[]) .nil
      refine ⟨.tuple #[], _, μ, ?_, Mu.Ext.refl _ μ, k4, VsRel.tuple .nil, k6, k5⟩
      simp only [Builtin.clear_, List.getElem?_toArray, List.getElem?_cons_zero, Sem.run_bind, hu, Result.andThen_ok]
      cases hd : ti.desc <;> simp [hg1, k3]
    · cases h
  · rename_i t rest
    split at h
    · rename_i ti ht
      injection h with h; subst h
      cases hx
      have hu := C.underlying ht w
      refine ⟨.tuple #[], w, μ, ?_, Mu.Ext.refl _ μ, R, VsRel.tuple .nil, Below.refl _ _, Keep.refl _ _⟩
      simp only [Builtin.clear_, List.getElem?_toArray, List.getElem?_cons_zero, Sem.run_bind, hu, Result.andThen_ok]
      cases hd : ti.desc <;> simp
    · cases h
  · rename_i t rest a c
    split at h
    · rename_i ti ht
      injection h with h; subst h
      have hu := C.underlying ht w
      have hx' : ∃ a' c', x' = .slice a' 0 c' := by
        cases hx with
        | nilslice => exact ⟨_, _, rfl⟩
        | slice he hg => exact ⟨_, _, rfl⟩
        | gslice he hg hl hc hb => exact ⟨_, _, rfl⟩
        | zslice he => exact ⟨_, _, rfl⟩
      obtain ⟨a', c', rfl⟩ := hx'
      refine ⟨.tuple #[], w, μ, ?_, Mu.Ext.refl _ μ, R, VsRel.tuple .nil, Below.refl _ _, Keep.refl _ _⟩
      simp only [Builtin.clear_, List.getElem?_toArray, List.getElem?_cons_zero, Sem.run_bind, hu, Result.andThen_ok]
      cases hd : ti.desc <;> cases a' <;> simp
    · cases h
  · rename_i t rest b off n c hn
    split at h
    case h_2 => cases h
    rename_i el _ _ _ _ ht
    split at h
    case h_2 => cases h
    rename_i te hte
    split at h
    case h_2 => cases h
    rename_i A' hst
    injection h with h; subst h
    have hu := C.underlying ht w
    have hz := C.zeroValue hte w
    have hcl := (closedB_rel (C.closed hte) μ).cells
    have hrel : VsRel μ (reps te.zero.cells.toList n) (Builtin.zeroCells te.zero.cells n).toList := by
      unfold Builtin.zeroCells
      rw [reps_eq rfl]
      simpa using reps_rel hcl n
    have n0 : ∃ m, n = m + 1 := by
      cases n with
      | zero => first | exact (hn _ rfl).elim | exact (hn _).elim | exact (hn rfl).elim
      | succ m => exact ⟨m, rfl⟩
    obtain ⟨m, rfl⟩ := n0
    have fin : ∀ {e : Ent} {c' : Nat}, μ b = some e → Ok P μ B A w (Builtin.clear_ (t :: rest).toArray rt #[.slice (some ⟨e.blk, e.dl + off, none⟩) (m + 1) c']) (.tuple ⟨[]⟩) A' := by
      intro e c' he
      obtain ⟨w', k1, k2, k3, k4, _⟩ := astore_spec P R he hrel hst
      refine ⟨.tuple #[], w', μ, ?_, Mu.Ext.refl _ μ, k2, VsRel.tuple .nil, k3, k4⟩
      simp only [Builtin.clear_, List.getElem?_toArray, List.getElem?_cons_zero, Sem.run_bind, hu, Result.andThen_ok, hz]
      simp [k1]
    cases hx with
    | slice he hg => exact fin he
    | gslice he hg hl hc hb => exact fin he
  · cases h

theorem rBuiltin_ok (C : Cert P T) (R : MRel μ B A w.heap) {b : Builtin} {ats : List TypeId} {args args' : List Value} (ha : VsRel μ args args') {x : ARes} (h : rBuiltin T A b ats args = some x) (rt : TypeId) (consts : Array Bool) :
    ResOk P T μ B A w (builtin b ats.toArray rt consts args'.toArray) x := by
  unfold rBuiltin at h
  split at h
  · rename_i s x0
    obtain ⟨s', l, rfl, h1, ht⟩ := ha.cons_left
    obtain ⟨x0', l', rfl, h2, ht⟩ := ht.cons_left
    rw [ht.nil_left]
    split at h
    · exact rv_ok h fun y hy => opAppendZ_ok C R h1 h2 hy rt
    · exact rv_ok h fun y hy => opAppend_ok C R h1 h2 hy rt
  · rename_i x0
    obtain ⟨x0', l', rfl, h2, ht⟩ := ha.cons_left
    rw [ht.nil_left]
    exact rp_ok R h fun y hy => opLen_ok C R h2 hy rt
  · rename_i x0
    obtain ⟨x0', l', rfl, h2, ht⟩ := ha.cons_left
    rw [ht.nil_left]
    exact rp_ok R h fun y hy => opCap_ok C R h2 hy rt
  · rename_i d s
    obtain ⟨d', l, rfl, h1, ht⟩ := ha.cons_left
    obtain ⟨s', l', rfl, h2, ht⟩ := ht.cons_left
    rw [ht.nil_left]
    exact rv_ok h fun y hy => opCopy_ok C R h1 h2 hy rt
  · exact rp_ok R h fun y hy => opMin_ok ha hy _ rt w
  · exact rp_ok R h fun y hy => opMax_ok ha hy _ rt w
  · rename_i x0
    obtain ⟨x0', l', rfl, h2, ht⟩ := ha.cons_left
    rw [ht.nil_left]
    exact rv_ok h fun y hy => opClear_ok C R h2 hy rt
  · rename_i x0
    obtain ⟨x0', l', rfl, h2, ht⟩ := ha.cons_left
    rw [ht.nil_left]
    exact rp_ok R h fun y hy => opSliceData_ok h2 hy ats.toArray rt w
  · rename_i p n
    obtain ⟨p', l, rfl, h1, ht⟩ := ha.cons_left
    obtain ⟨n', l', rfl, h2, ht⟩ := ht.cons_left
    rw [ht.nil_left]
    exact rv_ok h fun y hy => opUStr_ok C R h1 h2 hy rt
  · injection h with h; subst h; rfl
  · cases h

theorem ResOk.bind_ok {s : Sem Next} {d : Deferred} {r : Sem Deferred} (hr : r.run P w = .ok d w) {f : Deferred → Sem Next} {x : ARes} (h : ResOk P T μ B A w (f d) x) (hs : s = r >>= f) : ResOk P T μ B A w s x := by
  subst hs
  have e : ∀ w0, w0 = w → (r >>= f).run P w0 = (f d).run P w0 := by intro w0 hw; subst hw; simp [hr]
  cases x with
  | val v A' => obtain ⟨v', w', μ', h1, h2⟩ := h; exact ⟨v', w', μ', by rw [e w rfl]; exact h1, h2⟩
  | skip A' => obtain ⟨w', h1, h2⟩ := h; exact ⟨w', by rw [e w rfl]; exact h1, h2⟩
  | enter f' args => obtain ⟨a', h1, h2⟩ := h; exact ⟨a', by rw [e w rfl]; exact h1, h2⟩
  | defer d' => obtain ⟨a', h1, h2⟩ := h; exact ⟨a', by rw [e w rfl]; exact h1, h2⟩
  | recover => show _ = _; rw [e w rfl]; exact h
  | panic v => obtain ⟨a', h1, h2⟩ := h; exact ⟨a', by rw [e w rfl]; exact h1, h2⟩
  | round l L vs ov => obtain ⟨a', tm, h1, h2, h3, h4⟩ := h; exact ⟨a', tm, h1, h2, by rw [e w rfl]; exact h3, h4⟩
  | branch rs => obtain ⟨r', hm, v', w', μ', h1, h2⟩ := h; exact ⟨r', hm, v', w', μ', by rw [e w rfl]; exact h1, h2⟩

theorem rCall_ok (C : Cert P T) (R : MRel μ B A w.heap) {ev : Operand → Option Value} {ρ : Operand → Value} (hρ : RhoRel μ ev ρ) {c : Call} {x : ARes} (h : rCall T A ev c = some x) (rt : TypeId) :
    ResOk P T μ B A w (do let d ← resolve ρ c rt; invoke d.target d.args) x := by
  unfold rCall at h
  split at h
  case h_2 => cases h
  rename_i args hargs
  have ha := evL_ok hρ hargs
  have harr : c.args.map ρ = (c.args.toList.map ρ).toArray := by apply Array.ext'; simp
  split at h
  · rename_i b hb
    refine ResOk.bind_ok (r := resolve ρ c rt) (d := { target := .builtin b c.argTypes rt (c.args.map fun | .const _ => true | _ => false), args := c.args.map ρ }) ?_ ?_ rfl
    · simp only [resolve, hb]; rfl
    · simp only [invoke, harr]
      have := rBuiltin_ok (P := P) C R ha h rt (c.args.map fun | .const _ => true | _ => false)
      simpa using this
  · rename_i f hc
    split at h
    case h_2 => cases h
    rename_i fv hfv
    obtain ⟨d, h1, h2⟩ := rFunc_ok C R (hρ _ _ hfv) ha h
    refine ResOk.bind_ok (r := resolve ρ c rt) (d := d) ?_ h2 rfl
    simp only [resolve, hc, harr]; exact h1
  · rename_i recv name hc
    split at h
    case h_2 => cases h
    rename_i rx hrx
    unfold rInvoke at h
    split at h
    case h_2 => cases h
    rename_i t v
    split at h
    case h_2 => cases h
    rename_i l hl
    split at h
    case h_2 => cases h
    rename_i f hm
    split at h
    case h_2 => cases h
    rename_i a hfn
    injection h with h; subst h
    have hv := hρ _ _ hrx
    generalize hrecv : ρ recv = rv' at hv
    cases hv with
    | @iface _ _ v' hv =>
    refine ResOk.bind_ok (r := resolve ρ c rt) (d := { target := .fn (.method name) #[], args := #[.iface t v'] ++ (c.args.toList.map ρ).toArray }) ?_ ?_ rfl
    · simp only [resolve, hc, harr, hrecv, Sem.run_pure]
    · refine ⟨#[v'] ++ (c.args.toList.map ρ).toArray, ?_, ?_, a, hfn⟩
      · have h0 : (#[Value.iface t v'] ++ (c.args.toList.map ρ).toArray)[0]? = some (.iface t v') := by simp
        have h1 : (#[Value.iface t v'] ++ (c.args.toList.map ρ).toArray).extract 1 (#[Value.iface t v'] ++ (c.args.toList.map ρ).toArray).size = (c.args.toList.map ρ).toArray := by
          apply Array.ext'; simp; exact List.take_of_length_le (by simp)
        simp only [invoke, h0, h1, callMethod, Sem.run_bind, run_program, Result.andThen_ok, C.meth t l name f hl hm]
        exact run_callFunc C hfn _ _
      · simp only [Array.toList_append]
        exact .cons hv ha

theorem rDefer_ok {ev : Operand → Option Value} {ρ : Operand → Value} (hρ : RhoRel μ ev ρ) {c : Call} {x : ARes} (h : rDefer ev c = some x) (rt : TypeId) :
    ResOk P T μ B A w (do pure (.defer (← resolve ρ c rt))) x := by
  unfold rDefer at h
  split at h
  case h_2 => cases h
  rename_i args f hargs hc
  have ha := evL_ok hρ hargs
  have harr : c.args.map ρ = (c.args.toList.map ρ).toArray := by apply Array.ext'; simp
  split at h
  case h_2 => cases h
  rename_i fid first captured hf
  injection h with h; subst h
  obtain ⟨captured⟩ := captured
  have hv := hρ _ _ hf
  obtain ⟨xs', ys', he, h1, h2⟩ := of_func hv
  refine ⟨{ target := .fn (.func fid) ys', args := xs' ++ (c.args.toList.map ρ).toArray }, ?_, .fn _ (fun l hc => by cases hc) h2, ?_⟩
  · simp only [resolve, hc, harr, he, Deferred.ofValue, Sem.run_bind, Sem.run_pure, Result.andThen_ok]
  · simp only [app_eq, Array.toList_append]
    exact h1.app ha

set_option maxHeartbeats 2000000 in
theorem alop_ok (C : Cert P T) (hB : B ≤ w.heap.size) {ev : Operand → Option Value} {ρ : Operand → Value} (hρ : RhoRel μ ev ρ) {o : Oper} {ob : AObj} {mk : Nat → Value} (h : alop T ev o.op = some (ob, mk)) :
    ∃ s, execOp ρ o = (do pure (.value (← s))) ∧ AllocOk P μ B w s ob mk := by
  obtain ⟨dst, op, rt, pos, after, guard⟩ := o
  simp only at h
  cases op with
  | alloc t =>
    exact ⟨Instr.alloc t true (.tuple #[]), by unfold execOp; rfl, alAlloc_ok C hB h⟩
  | box t v =>
    have h : (match ev v with | some v => alBox v | none => none) = some (ob, mk) := h
    split at h
    · rename_i v hv; exact ⟨Instr.box t (ρ _), by unfold execOp; rfl, alBox_ok hB (hρ _ _ hv) h⟩
    · cases h
  | buildSlice t n ps =>
    have h : (match evP ev ps.toList with | some l => alBuildSlice T t n l | none => none) = some (ob, mk) := h
    split at h
    · rename_i l hl
      have hp := evP_ok hρ hl
      exact ⟨Instr.buildSlice t n (ps.map fun (i, x) => (i, ρ x)), by unfold execOp; rfl, alBuildSlice_ok C hB (ps' := ps.map fun (i, x) => (i, ρ x)) (by simpa using hp) h⟩
    · cases h
  | makeMap t r =>
    have h : (match evO ev r with | some v => alMakeMap T t v | none => none) = some (ob, mk) := h
    split at h
    · rename_i v hv; exact ⟨Instr.makeMap t (r.map ρ), by unfold execOp; rfl, alMakeMap_ok C hB (evO_ok hρ hv) h⟩
    · cases h
  | makeSlice t a b =>
    have h : (match ev a, ev b with | some v, some u => alMakeSlice T t v u | _, _ => none) = some (ob, mk) := h
    split at h
    · rename_i v u hv hu; exact ⟨Instr.makeSlice t (ρ a) (ρ b), by unfold execOp; rfl, alMakeSlice_ok C hB (hρ _ _ hv) (hρ _ _ hu) h⟩
    · cases h
  | _ => exact absurd h (by unfold alop; exact nofun)

set_option maxHeartbeats 1000000 in
theorem aop_ok (C : Cert P T) (R : MRel μ B A w.heap) {ev : Operand → Option Value} {ρ : Operand → Value} (hρ : RhoRel μ ev ρ) {o : Oper} {x : ARes} (h : aop T A ev o.op = some x) : ResOk P T μ B A w (execOp ρ o) x := by
  have pureV : ∀ {v : Operand} {y : ARes}, rp A (ev v) = some y → ResOk P T μ B A w (pure (.value (ρ v))) y := by
    intro v y hy
    unfold rp at hy
    split at hy
    · rename_i u hu
      injection hy with hy; subst hy
      exact ⟨_, w, μ, rfl, Mu.Ext.refl _ μ, R, hρ _ _ hu, Below.refl _ _, Keep.refl _ _⟩
    · cases hy
  obtain ⟨dst, op, rt, pos, after, guard⟩ := o
  simp only at h
  cases op with
  | move v => exact pureV h
  | assign v => exact pureV h
  | pick c a b =>
    have h : rPick A (ev c) (ev a) (ev b) = some x := h
    unfold rPick at h
    split at h
    · rename_i hc
      have hcv := hρ _ _ hc
      generalize hrc : ρ c = cv at hcv
      cases hcv
      have := pureV h
      simp only [execOp, hrc, asBool]
      exact this
    · rename_i hc
      have hcv := hρ _ _ hc
      generalize hrc : ρ c = cv at hcv
      cases hcv
      have := pureV h
      simp only [execOp, hrc, asBool]
      exact this
    · cases h
  | alloc t => exact rv_ok h fun y hy => opAlloc_ok C R hy
  | box t v =>
    have h : (match ev v with | some v => rv (opBox A v) | none => none) = some x := h
    split at h
    · rename_i u hu; exact rv_ok h fun y hy => opBox_ok R (hρ _ _ hu) hy
    · cases h
  | build t ps =>
    have h : (match evP ev ps.toList with | some l => rp A (opBuild T t l) | none => none) = some x := h
    split at h
    · rename_i l hl
      have hp := evP_ok hρ hl
      refine rp_ok R h fun y hy => opBuild_ok C (ps' := ps.map fun (i, x) => (i, ρ x)) (by simpa using hp) hy w
    · cases h
  | buildSlice t n ps =>
    have h : (match evP ev ps.toList with | some l => rv (opBuildSlice T A t n l) | none => none) = some x := h
    split at h
    · rename_i l hl
      have hp := evP_ok hρ hl
      exact rv_ok h fun y hy => opBuildSlice_ok C R (ps' := ps.map fun (i, x) => (i, ρ x)) (by simpa using hp) hy
    · cases h
  | insert t m k v =>
    have h : (match ev m, ev k, ev v with | some v, some u, some z => ru (opMapUpdateX T A t v u z) | _, _, _ => none) = some x := h
    split at h
    · rename_i a b c ha hb hc; exact ru_ok h fun y hy => opMapUpdateX_ok C R (hρ _ _ ha) (hρ _ _ hb) (hρ _ _ hc) hy
    · cases h
  | load t a =>
    have h : (match ev a with | some v => rv (opLoad T A t v) | none => none) = some x := h
    split at h
    · rename_i u hu; exact rv_ok h fun y hy => opLoad_ok C R (hρ _ _ hu) hy
    · cases h
  | store t a v =>
    have h : (match ev a, ev v with | some v, some u => ru (opStore T A t v u) | _, _ => none) = some x := h
    split at h
    · rename_i a b ha hb; exact ru_ok h fun y hy => opStore_ok C R (hρ _ _ ha) (hρ _ _ hb) hy
    · cases h
  | ready g => cases h
  | waits g => cases h
  | nilCheck v =>
    have h : (match ev v with | some v => rNil A v | none => none) = some x := h
    split at h
    · rename_i u hu
      have hv := hρ _ _ hu
      have fin : ∀ v', ρ v = v' → VRel μ u v' → (execOp ρ ⟨dst, .nilCheck v, rt, pos, after, guard⟩).run P w = .ok (.value v') w → NextVal P μ B A w (execOp ρ ⟨dst, .nilCheck v, rt, pos, after, guard⟩) u A :=
        fun v' _ h2 h3 => ⟨v', w, μ, h3, Mu.Ext.refl _ μ, R, h2, Below.refl _ _, Keep.refl _ _⟩
      unfold rNil at h
      split at h
      · injection h with h; subst h
        generalize hr : ρ v = rv' at hv
        cases hv with
        | ptr he => exact fin _ hr (.ptr he) (by simp [execOp, hr])
      · injection h with h; subst h
        rename_i f a b
        obtain ⟨a⟩ := a; obtain ⟨b⟩ := b
        obtain ⟨xs', ys', hr, h1, h2⟩ := of_func hv
        exact fin _ hr (VsRel.func (by intro l hc; cases hc) h1 h2) (by simp [execOp, hr])
      · injection h with h; subst h
        rename_i l a b
        generalize hr : ρ v = rv' at hv
        cases hv with
        | func fn hy hn hm hx hz => exact absurd rfl (hy l)
        | yield he => exact fin _ hr (.yield he) (by simp [execOp, hr])
      · injection h with h; subst h
        generalize hr : ρ v = rv' at hv
        cases hv with
        | iface _ hv => exact fin _ hr (.iface _ hv) (by simp [execOp, hr])
      · cases h
    · cases h
  | binOp op t a b yt =>
    have h : (match ev a, ev b with | some v, some u => rp A (opBin T A op t a b v u) | _, _ => none) = some x := h
    split at h
    · rename_i u v hu hv; exact rp_ok R h fun y hy => opBin_ok C R (hρ _ _ hu) (hρ _ _ hv) hy
    · cases h
  | unOp op t a =>
    have h : (match ev a with | some v => rp A (opUn op v) | none => none) = some x := h
    split at h
    · rename_i u hu; exact rp_ok R h fun y hy => opUn_ok (hρ _ _ hu) hy w
    · cases h
  | convert s d a =>
    have h : (match ev a with | some v => rv (opConvert T A s d v) | none => none) = some x := h
    split at h
    · rename_i u hu; exact rv_ok h fun y hy => opConvert_ok C R (hρ _ _ hu) hy
    · cases h
  | sliceToArrayPointer d a => cases h
  | makeInterface t a =>
    have h : (match ev a with | some v => rp A (opIface T t v) | none => none) = some x := h
    split at h
    · rename_i u hu; exact rp_ok R h fun y hy => opIface_ok C (hρ _ _ hu) hy w
    · cases h
  | makeFunc fn first captured =>
    have h : (match evL ev first.toList, evL ev captured.toList with | some a, some b => rFunV A fn a b | _, _ => none) = some x := h
    split at h
    · rename_i a b ha hb
      unfold rFunV at h
      split at h
      · injection h with h; subst h
        refine ⟨_, w, μ, rfl, Mu.Ext.refl _ μ, R, ?_, Below.refl _ _, Keep.refl _ _⟩
        exact VsRel.func (by intro l hc; cases hc) (by simpa using evL_ok hρ ha) (by simpa using evL_ok hρ hb)
      · cases h
    · cases h
  | makeMap t r =>
    have h : (match evO ev r with | some h => rv (opMakeMap T A t h) | none => none) = some x := h
    split at h
    · rename_i u hu; exact rv_ok h fun y hy => opMakeMap_ok C R (evO_ok hρ hu) hy
    · cases h
  | makeChan t s => cases h
  | makeSlice t l c =>
    have h : (match ev l, ev c with | some v, some u => rv (opMakeSliceX T A t v u) | _, _ => none) = some x := h
    split at h
    · rename_i u v hu hv; exact rv_ok h fun y hy => opMakeSliceX_ok C R (hρ _ _ hu) (hρ _ _ hv) hy
    · cases h
  | slice t a lo hi mx =>
    cases mx with
    | some m =>
      cases hi with
      | none => cases h
      | some hi =>
        have h : (match ev a, evO ev lo, ev hi, ev m with | some v, some l, some h, some m => rp A (opSlice3 T A t v l h m) | _, _, _, _ => none) = some x := h
        split at h
        · rename_i u l hh mm hu hl hhh hmm; exact rp_ok R h fun y hy => opSlice3_ok C R (hρ _ _ hu) (evO_ok hρ hl) (hρ _ _ hhh) (hρ _ _ hmm) hy
        · cases h
    | none =>
      have h : (match ev a, evO ev lo, evO ev hi with | some v, some l, some h => rp A (opSlice T A t v l h) | _, _, _ => none) = some x := h
      split at h
      · rename_i u l hh hu hl hhh; exact rp_ok R h fun y hy => opSlice_ok C R (hρ _ _ hu) (evO_ok hρ hl) (evO_ok hρ hhh) hy
      · cases h
  | fieldAddr t a f =>
    have h : (match ev a with | some v => rp A (opFieldAddr T t v f) | none => none) = some x := h
    split at h
    · rename_i u hu; exact rp_ok R h fun y hy => opFieldAddr_ok C (hρ _ _ hu) hy w
    · cases h
  | field t a f =>
    have h : (match ev a with | some v => rp A (opField T t v f) | none => none) = some x := h
    split at h
    · rename_i u hu; exact rp_ok R h fun y hy => opField_ok C (hρ _ _ hu) hy w
    · cases h
  | indexAddr t a i =>
    have h : (match ev a, ev i with | some v, some u => rp A (opIndexAddr T t v u) | _, _ => none) = some x := h
    split at h
    · rename_i u v hu hv; exact rp_ok R h fun y hy => opIndexAddr_ok C (hρ _ _ hu) (hρ _ _ hv) hy w
    · cases h
  | index t a i =>
    have h : (match ev a, ev i with | some v, some u => rp A (opIndex T t v u) | _, _ => none) = some x := h
    split at h
    · rename_i u v hu hv; exact rp_ok R h fun y hy => opIndex_ok C (hρ _ _ hu) (hρ _ _ hv) hy w
    · cases h
  | lookup t a i ok =>
    have h : (match ev a, ev i with | some v, some u => rp A (opLookupX T A t v u ok) | _, _ => none) = some x := h
    split at h
    · rename_i u v hu hv; exact rp_ok R h fun y hy => opLookupX_ok C R (hρ _ _ hu) (hρ _ _ hv) hy
    · cases h
  | mapUpdate t m k v =>
    have h : (match ev m, ev k, ev v with | some v, some u, some z => ru (opMapUpdateX T A t v u z) | _, _, _ => none) = some x := h
    split at h
    · rename_i a b c ha hb hc; exact ru_ok h fun y hy => opMapUpdateX_ok C R (hρ _ _ ha) (hρ _ _ hb) (hρ _ _ hc) hy
    · cases h
  | mapEntry t m k =>
    have h : (match ev m, ev k with | some v, some u => rv (opMapEntry T A t v u) | _, _ => none) = some x := h
    split at h
    · rename_i a b ha hb; exact rv_ok h fun y hy => opMapEntry_ok C R (hρ _ _ ha) (hρ _ _ hb) hy
    · cases h
  | entryStore t m s v =>
    have h : (match ev m, ev s, ev v with | some v, some u, some z => ru (opEntryStore A v u z) | _, _, _ => none) = some x := h
    split at h
    · rename_i a b c ha hb hc; exact ru_ok h fun y hy => opEntryStore_ok R (hρ _ _ ha) (hρ _ _ hb) (hρ _ _ hc) hy
    · cases h
  | range t a =>
    have h : (match ev a with | some v => rv (opRange T A t v) | none => none) = some x := h
    split at h
    · rename_i u hu; exact rv_ok h fun y hy => opRange_ok C R (hρ _ _ hu) hy
    · cases h
  | next it isS =>
    cases isS with
    | true =>
      have h : (match ev it with | some v => rv (opNextStr A v) | none => none) = some x := h
      split at h
      · rename_i u hu; exact rv_ok h fun y hy => opNextStr_ok R (hρ _ _ hu) hy rt
      · cases h
    | false =>
      have h : (match ev it with | some v => (match opNextMap A v with | some rs => some (.branch rs) | none => none) | none => none) = some x := h
      split at h
      · rename_i u hu
        split at h
        · rename_i rs hrs
          injection h with h; subst h
          obtain ⟨r, hr, v', w', μ', h1, h2⟩ := opNextMap_ok (P := P) R (hρ _ _ hu) hrs rt
          exact ⟨r, hr, v', w', μ', by simp [execOp, h1], h2⟩
        · cases h
      · cases h
  | entry it =>
    have h : (match ev it with | some v => rp A (opEntry A v) | none => none) = some x := h
    split at h
    · rename_i u hu; exact rp_ok R h fun y hy => opEntry_ok R (hρ _ _ hu) hy
    · cases h
  | typeAssert a xt t ok =>
    have h : (match ev a with | some v => rp A (opAssert T v t ok) | none => none) = some x := h
    split at h
    · rename_i u hu; exact rp_ok R h fun y hy => opAssert_ok C (hρ _ _ hu) hy w
    · cases h
  | extract a i =>
    have h : (match ev a with | some v => rp A (opExtract v i) | none => none) = some x := h
    split at h
    · rename_i u hu; exact rp_ok R h fun y hy => opExtract_ok (hρ _ _ hu) hy w
    · cases h
  | call c => exact rCall_ok C R hρ h rt
  | go c => cases h
  | defer c => exact rDefer_ok hρ h rt
  | panic a =>
    have h : (match ev a with | some v => rPanic v | none => none) = some x := h
    split at h
    · rename_i u hu
      unfold rPanic at h
      split at h
      · rename_i t v
        injection h with h; subst h
        have hv := hρ _ _ hu
        generalize hr : ρ a = rv' at hv
        cases hv with
        | iface _ hv => exact ⟨_, by simp [execOp, hr, Instr.panic], .iface _ hv⟩
      · cases h
    · cases h
  | send a b => cases h
  | recv a b c => cases h
  | select a b => cases h
end
end

section
def vEqCell : Value → Value → Bool
  | .bool a, .bool b => (match a, b with | true, true => true | false, false => true | _, _ => false)
  | .int k a, .int k' b => (match decide (k = k') with | true => iEq a b | false => false)
  | .pointer none, .pointer none => true
  | .pointer (some ⟨a, b, none⟩), .pointer (some ⟨c, d, none⟩) => (match Nat.beq a c with | true => Nat.beq b d | false => false)
  | .slice none a b, .slice none c d => (match Nat.beq a c with | true => Nat.beq b d | false => false)
  | .slice (some ⟨a, b, none⟩) l m, .slice (some ⟨c, d, none⟩) n p => (match Nat.beq a c, Nat.beq b d, Nat.beq l n, Nat.beq m p with | true, true, true, true => true | _, _, _, _ => false)
  | .map none, .map none => true
  | .map (some a), .map (some b) => Nat.beq a b
  | .nilFunc, .nilFunc => true
  | .nilIface, .nilIface => true
  | .float .f64 0, .float .f64 0 => true
  | _, _ => false
noncomputable def vEq1 (a b : Value) : Bool :=
  match a, b with
  | .string ⟨⟨x⟩⟩, .string ⟨⟨y⟩⟩ => strEq x y
  | a, b => vEqCell a b
noncomputable def vEqL (xs ys : List Value) : Bool :=
  match xs, ys with
  | [], [] => true
  | x :: xs, y :: ys => (match vEq1 x y with | true => vEqL xs ys | false => false)
  | _, _ => false
noncomputable def vEq (a b : Value) : Bool :=
  match a, b with
  | .agg ⟨xs⟩, .agg ⟨ys⟩ => vEqL xs ys
  | .tuple ⟨xs⟩, .tuple ⟨ys⟩ => vEqL xs ys
  | .iface t x, .iface u y => (match Nat.beq t u with | true => vEq1 x y | false => false)
  | .func (.func f) ⟨xs⟩ ⟨ys⟩, .func (.func g) ⟨zs⟩ ⟨us⟩ => (match Nat.beq f g, vEqL xs zs, vEqL ys us with | true, true, true => true | _, _, _ => false)
  | a, b => vEq1 a b




theorem vEqCell_eq {a b : Value} (h : vEqCell a b = true) : a = b := by
  unfold vEqCell at h
  split at h
  · split at h <;> first | rfl | cases h
  · split at h
    · rename_i hk
      rw [iEq_eq] at h
      simp at hk h
      subst hk; subst h; rfl
    · cases h
  · rfl
  · split at h
    · rename_i ha
      have ha := Nat.eq_of_beq_eq_true ha
      have hb := Nat.eq_of_beq_eq_true h
      subst ha; subst hb; rfl
    · cases h
  · split at h
    · rename_i ha
      have ha := Nat.eq_of_beq_eq_true ha
      have hb := Nat.eq_of_beq_eq_true h
      subst ha; subst hb; rfl
    · cases h
  · split at h
    · rename_i a b c d
      have a := Nat.eq_of_beq_eq_true a
      have b := Nat.eq_of_beq_eq_true b
      have c := Nat.eq_of_beq_eq_true c
      have d := Nat.eq_of_beq_eq_true d
      subst a; subst b; subst c; subst d; rfl
    · cases h
  · rfl
  · have h := Nat.eq_of_beq_eq_true h
    subst h; rfl
  · rfl
  · rfl
  · rfl
  · cases h

theorem vEq1_eq {a b : Value} (h : vEq1 a b = true) : a = b := by
  unfold vEq1 at h
  split at h
  · rw [strEq_eq] at h
    simp at h
    subst h; rfl
  · exact vEqCell_eq h

theorem vEqL_eq : ∀ {xs ys : List Value}, vEqL xs ys = true → xs = ys := by
  intro xs
  induction xs with
  | nil => intro ys h; cases ys with | nil => rfl | cons y ys => cases h
  | cons x xs ih =>
    intro ys h
    cases ys with
    | nil => cases h
    | cons y ys =>
      unfold vEqL at h
      split at h
      · rename_i h1; rw [vEq1_eq h1, ih h]
      · cases h

theorem vEq_eq {a b : Value} (h : vEq a b = true) : a = b := by
  unfold vEq at h
  split at h
  · rw [vEqL_eq h]
  · rw [vEqL_eq h]
  · split at h
    · rename_i h1; rw [Nat.eq_of_beq_eq_true h1, vEq1_eq h]
    · cases h
  · split at h
    · rename_i a b c; rw [Nat.eq_of_beq_eq_true a, vEqL_eq b, vEqL_eq c]
    · cases h
  · exact vEq1_eq h


noncomputable def vEqs (xs ys : List Value) : Bool :=
  match xs, ys with
  | [], [] => true
  | x :: xs, y :: ys => (match vEq x y with | true => vEqs xs ys | false => false)
  | _, _ => false
theorem vEqs_eq : ∀ {xs ys : List Value}, vEqs xs ys = true → xs = ys := by
  intro xs
  induction xs with
  | nil => intro ys h; cases ys with | nil => rfl | cons y ys => cases h
  | cons x xs ih =>
    intro ys h
    cases ys with
    | nil => cases h
    | cons y ys =>
      unfold vEqs at h
      split at h
      · rename_i h1; rw [vEq_eq h1, ih h]
      · cases h

noncomputable def renL (r : Value → Option Value) (l : List Value) : Option (List Value) :=
  match l with
  | [] => some []
  | v :: t => (match r v, renL r t with | some u, some s => some (u :: s) | _, _ => none)
noncomputable def renV (τ : Nat → Option Nat) (r : Value → Option Value) (v : Value) : Option Value :=
  match v with
  | .bool b => some (.bool b)
  | .int k n => some (.int k n)
  | .string s => some (.string s)
  | .float .f64 0 => some (.float .f64 0)
  | .pointer none => some (.pointer none)
  | .pointer (some ⟨b, o, none⟩) => (match τ b with | some i => some (.pointer (some ⟨i, o, none⟩)) | none => none)
  | .slice none 0 0 => some (.slice none 0 0)
  | .slice (some ⟨b, o, none⟩) l c => (match τ b with | some i => some (.slice (some ⟨i, o, none⟩) l c) | none => none)
  | .map none => some (.map none)
  | .map (some b) => (match τ b with | some i => some (.map (some i)) | none => none)
  | .nilFunc => some .nilFunc
  | .nilIface => some .nilIface
  | .iface t x => (match r x with | some y => some (.iface t y) | none => none)
  | .agg ⟨xs⟩ => (match renL r xs with | some ys => some (.agg ⟨ys⟩) | none => none)
  | .tuple ⟨xs⟩ => (match renL r xs with | some ys => some (.tuple ⟨ys⟩) | none => none)
  | .func (.func f) ⟨xs⟩ ⟨ys⟩ => (match renL r xs, renL r ys with | some a, some b => some (.func (.func f) ⟨a⟩ ⟨b⟩) | _, _ => none)
  | _ => none
noncomputable def ren (τ : Nat → Option Nat) (n : Nat) : Value → Option Value :=
  Nat.rec (motive := fun _ => Value → Option Value) (fun _ => none) (fun _ ih v => renV τ ih v) n

def EEq (e e' : Ent) : Prop := e.blk = e'.blk ∧ e.dl = e'.dl ∧ e.csz = e'.csz ∧ ((e.gr = none ∧ e'.gr = none) ∨ ∃ g g', e.gr = some g ∧ e'.gr = some g' ∧ g.esz = g'.esz ∧ g.base = g'.base ∧ g.ty = g'.ty)
theorem EEq.symm {e e' : Ent} (h : EEq e e') : EEq e' e := by
  obtain ⟨a, b, c, d⟩ := h
  refine ⟨a.symm, b.symm, c.symm, ?_⟩
  rcases d with ⟨x, y⟩ | ⟨g, g', x, y, z, u, v⟩
  · exact .inl ⟨y, x⟩
  · exact .inr ⟨g', g, y, x, z.symm, u.symm, v.symm⟩
theorem EEq.none {e e' : Ent} (h : EEq e e') (k : e.gr = none) : e'.gr = none := by
  rcases h.2.2.2 with ⟨_, y⟩ | ⟨g, g', x, _⟩
  · exact y
  · rw [k] at x; cases x
theorem EEq.some {e e' : Ent} (h : EEq e e') {g : Gr} (k : e.gr = some g) : ∃ g', e'.gr = some g' ∧ g.esz = g'.esz ∧ g.base = g'.base ∧ g.ty = g'.ty := by
  rcases h.2.2.2 with ⟨x, _⟩ | ⟨g1, g', x, y, z⟩
  · rw [k] at x; cases x
  · rw [k] at x; injection x with x; subst x; exact ⟨g', y, z⟩

def Along (r : Nat → Nat → Prop) (μ μ' : Mu) : Prop := ∀ k i e, r k i → μ k = some e → ∃ e', μ' i = some e' ∧ EEq e e'
def Tak (r : Nat → Nat → Prop) (v u : Value) : Prop := ∀ (μ μ' : Mu) (x : Value), Along r μ μ' → VRel μ v x → VRel μ' u x

theorem tak_list {r : Nat → Nat → Prop} {μ μ' : Mu} (hr : Along r μ μ') {xs ys zs : List Value} (h : LRel (Tak r) xs ys) (k : VsRel μ xs zs) : VsRel μ' ys zs := by
  refine ⟨by rw [← h.1, k.1], fun i y z hy hz => ?_⟩
  have hi : i < xs.length := by rw [h.1]; exact (List.getElem?_eq_some_iff.1 hy).1
  exact h.2 i _ y (List.getElem?_eq_getElem hi) hy μ μ' z hr (k.2 i _ z (List.getElem?_eq_getElem hi) hz)
theorem tak_ptr {r : Nat → Nat → Prop} {b i o : Nat} (h : r b i) : Tak r (.pointer (some ⟨b, o, none⟩)) (.pointer (some ⟨i, o, none⟩)) := by
  intro μ μ' x hr hv
  cases hv with
  | ptr hb =>
    obtain ⟨e', h1, h2⟩ := hr _ _ _ h hb
    rw [h2.1, h2.2.1]
    exact .ptr h1
theorem tak_map {r : Nat → Nat → Prop} {b i : Nat} (h : r b i) : Tak r (.map (some b)) (.map (some i)) := by
  intro μ μ' x hr hv
  cases hv with
  | map hb =>
    obtain ⟨e', h1, h2⟩ := hr _ _ _ h hb
    rw [h2.1]
    exact .map h1
theorem tak_slice {r : Nat → Nat → Prop} {b i o l c : Nat} (h : r b i) : Tak r (.slice (some ⟨b, o, none⟩) l c) (.slice (some ⟨i, o, none⟩) l c) := by
  intro μ μ' x hr hv
  cases hv with
  | slice hb hg =>
    obtain ⟨e', h1, h2⟩ := hr _ _ _ h hb
    rw [h2.1, h2.2.1]
    exact .slice h1 (h2.none hg)
  | gslice hb hg hl hc hs =>
    obtain ⟨e', h1, h2⟩ := hr _ _ _ h hb
    obtain ⟨g', h3, h4, h5, h6⟩ := h2.some hg
    rw [h2.1, h2.2.1]
    exact .gslice h1 h3 hl hc (by rw [← h2.2.1, ← h2.2.2.1, ← h4]; exact hs)
  | zslice hb =>
    obtain ⟨e', h1, _⟩ := hr _ _ _ h hb
    exact .zslice h1
theorem tak_iface {r : Nat → Nat → Prop} {t : TypeId} {v u : Value} (h : Tak r v u) : Tak r (.iface t v) (.iface t u) := by
  intro μ μ' x hr hv
  cases hv with
  | iface _ hx => exact .iface t (h μ μ' _ hr hx)
theorem tak_agg {r : Nat → Nat → Prop} {xs ys : List Value} (h : LRel (Tak r) xs ys) : Tak r (.agg ⟨xs⟩) (.agg ⟨ys⟩) := by
  intro μ μ' x hr hv
  obtain ⟨zs, rfl, hz⟩ := of_agg hv
  exact VsRel.agg (tak_list hr h hz)
theorem tak_tuple {r : Nat → Nat → Prop} {xs ys : List Value} (h : LRel (Tak r) xs ys) : Tak r (.tuple ⟨xs⟩) (.tuple ⟨ys⟩) := by
  intro μ μ' x hr hv
  obtain ⟨zs, rfl, hz⟩ := of_tuple hv
  exact VsRel.tuple (tak_list hr h hz)
theorem tak_func {r : Nat → Nat → Prop} {f : FuncId} {xs ys xs' ys' : List Value} (h : LRel (Tak r) xs xs') (k : LRel (Tak r) ys ys') : Tak r (.func (.func f) ⟨xs⟩ ⟨ys⟩) (.func (.func f) ⟨xs'⟩ ⟨ys'⟩) := by
  intro μ μ' x hr hv
  cases hv with
  | func fn hy hn hm hx hz =>
    refine VsRel.func hy (tak_list hr h ⟨by simpa using hn, fun i x y a b => ?_⟩) (tak_list hr k ⟨by simpa using hm, fun i x y a b => ?_⟩)
    · exact hx i x y (by simpa using a) (by simpa using b)
    · exact hz i x y (by simpa using a) (by simpa using b)

def Both (τ : Nat → Option Nat) (v u : Value) : Prop := Tak (fun k i => τ k = some i) v u ∧ Tak (fun i k => τ k = some i) u v
theorem renL_ok {τ : Nat → Option Nat} {r : Value → Option Value} (hr : ∀ v u, r v = some u → Both τ v u) : ∀ {xs ys : List Value}, renL r xs = some ys → LRel (Tak (fun k i => τ k = some i)) xs ys ∧ LRel (Tak (fun i k => τ k = some i)) ys xs := by
  intro xs
  induction xs with
  | nil => intro ys h; injection h with h; subst h; exact ⟨.nil, .nil⟩
  | cons x xs ih =>
    intro ys h
    unfold renL at h
    split at h
    · rename_i u s h1 h2
      injection h with h; subst h
      exact ⟨.cons (hr _ _ h1).1 (ih h2).1, .cons (hr _ _ h1).2 (ih h2).2⟩
    · cases h
theorem both_same {τ : Nat → Option Nat} {v : Value} (h : ∀ (μ μ' : Mu) (x : Value), VRel μ v x → VRel μ' v x) : Both τ v v := ⟨fun μ μ' x _ k => h μ μ' x k, fun μ μ' x _ k => h μ μ' x k⟩
theorem renV_ok {τ : Nat → Option Nat} {r : Value → Option Value} (hr : ∀ v u, r v = some u → Both τ v u) {v u : Value} (h : renV τ r v = some u) : Both τ v u := by
  unfold renV at h
  split at h
  · injection h with h; subst h; exact both_same fun μ μ' x k => by cases k; exact .bool _
  · injection h with h; subst h; exact both_same fun μ μ' x k => by cases k; exact .int _ _
  · injection h with h; subst h; exact both_same fun μ μ' x k => by cases k; exact .string _
  · injection h with h; subst h; exact both_same fun μ μ' x k => by cases k; exact .any (by assumption)
  · injection h with h; subst h; exact both_same fun μ μ' x k => by cases k; exact .nilptr
  · split at h
    · rename_i i hi
      injection h with h; subst h
      exact ⟨tak_ptr hi, tak_ptr hi⟩
    · cases h
  · injection h with h; subst h; exact both_same fun μ μ' x k => by cases k; exact .nilslice
  · split at h
    · rename_i i hi
      injection h with h; subst h
      exact ⟨tak_slice hi, tak_slice hi⟩
    · cases h
  · injection h with h; subst h; exact both_same fun μ μ' x k => by cases k; exact .nilmap
  · split at h
    · rename_i i hi
      injection h with h; subst h
      exact ⟨tak_map hi, tak_map hi⟩
    · cases h
  · injection h with h; subst h; exact both_same fun μ μ' x k => by cases k; exact .nilFunc
  · injection h with h; subst h; exact both_same fun μ μ' x k => by cases k; exact .nilIface
  · split at h
    · rename_i y hy
      injection h with h; subst h
      exact ⟨tak_iface (hr _ _ hy).1, tak_iface (hr _ _ hy).2⟩
    · cases h
  · split at h
    · rename_i ys hy
      injection h with h; subst h
      exact ⟨tak_agg (renL_ok hr hy).1, tak_agg (renL_ok hr hy).2⟩
    · cases h
  · split at h
    · rename_i ys hy
      injection h with h; subst h
      exact ⟨tak_tuple (renL_ok hr hy).1, tak_tuple (renL_ok hr hy).2⟩
    · cases h
  · split at h
    · rename_i a b h1 h2
      injection h with h; subst h
      exact ⟨tak_func (renL_ok hr h1).1 (renL_ok hr h2).1, tak_func (renL_ok hr h1).2 (renL_ok hr h2).2⟩
    · cases h
  · cases h
theorem ren_ok {τ : Nat → Option Nat} : ∀ (n : Nat) {v u : Value}, ren τ n v = some u → Both τ v u := by
  intro n
  induction n with
  | zero => intro v u h; cases h
  | succ n ih => intro v u h; exact renV_ok (fun _ _ => ih) h

noncomputable def tau0 (N : Nat) (tbl : List (Nat × Nat)) (k : Nat) : Option Nat := match Nat.blt k N with | true => some k | false => alook tbl k
noncomputable def shK (n0 nx k : Nat) : Nat := Nat.add nx (Nat.sub k n0)
noncomputable def topId (k : Nat) (l : List Value) : Bool :=
  match l with
  | [] => false
  | v :: r =>
    (match v with
      | .pointer (some ⟨b, _, none⟩) => (match Nat.beq b k with | true => true | false => topId k r)
      | .slice (some ⟨b, _, none⟩) _ _ => (match Nat.beq b k with | true => true | false => topId k r)
      | _ => topId k r)
noncomputable def tau1 (N : Nat) (tbl : List (Nat × Nat)) (args : List Value) (n0 nx : Nat) (new : List (Nat × AObj)) (k : Nat) : Option Nat :=
  match Nat.blt k n0 with
  | true => (match Nat.blt k N with | true => some k | false => (match topId k args with | true => alook tbl k | false => none))
  | false => (match alook new k with | some _ => some (shK n0 nx k) | none => none)

noncomputable def renE (r : Value → Option Value) (l : List MapEntry) : Option (List MapEntry) :=
  match l with
  | [] => some []
  | e :: t => (match r e.key, r e.val, renE r t with | some a, some b, some s => some (⟨a, b, e.born⟩ :: s) | _, _, _ => none)
noncomputable def renO (r : Value → Option Value) (n0 nx : Nat) (o : AObj) : Option AObj :=
  match o with
  | .cells xs (.fixed false) => (match renL r xs with | some ys => some (.cells ys (.fixed false)) | none => none)
  | .cells xs (.grown g) => (match renL r xs, Nat.blt g.fam n0 with | some ys, false => some (.cells ys (.grown { esz := g.esz, fam := shK n0 nx g.fam, base := g.base, ty := g.ty })) | _, _ => none)
  | .map es clock => (match renE r es with | some fs => some (.map fs clock) | none => none)
  | _ => none
noncomputable def addNew (r : Value → Option Value) (n0 nx : Nat) (l : List (Nat × AObj)) (h : Tr AObj) : Option (Tr AObj) :=
  match l with
  | [] => some h
  | (k, o) :: t => (match Nat.blt k n0, Nat.blt k 16000000, renO r n0 nx o, addNew r n0 nx t h with | false, true, some o', some h' => some (h'.put (some o') (shK n0 nx k)) | _, _, _, _ => none)
noncomputable def shL (n0 nx : Nat) (l : List Nat) : List Nat := match l with | [] => [] | k :: t => shK n0 nx k :: shL n0 nx t
noncomputable def addFam (n0 nx : Nat) (l : List (Nat × List Nat)) (h : Tr (List Nat)) : Option (Tr (List Nat)) :=
  match l with
  | [] => some h
  | (k, o) :: t => (match Nat.blt k n0, Nat.blt (shK n0 nx k) 16000000, addFam n0 nx t h with | false, true, some h' => some (h'.put (some (shL n0 nx o)) (shK n0 nx k)) | _, _, _ => none)
noncomputable def renA (r : Value → Option Value) (l : List (Nat × Value)) : Option (List (Nat × Value)) :=
  match l with
  | [] => some []
  | (t, v) :: k => (match r v, renA r k with | some u, some s => some ((t, u) :: s) | _, _ => none)

noncomputable def tAdd (N k b : Nat) (tbl : List (Nat × Nat)) : List (Nat × Nat) :=
  match Nat.blt k N with | true => tbl | false => (match alook tbl k with | some _ => tbl | none => (k, b) :: tbl)
noncomputable def tL (f : Value → Value → List (Nat × Nat) → List (Nat × Nat)) (xs ys : List Value) (tbl : List (Nat × Nat)) : List (Nat × Nat) :=
  match xs, ys with
  | x :: xs, y :: ys => tL f xs ys (f x y tbl)
  | _, _ => tbl
noncomputable def tV (N : Nat) (f : Value → Value → List (Nat × Nat) → List (Nat × Nat)) (x y : Value) (tbl : List (Nat × Nat)) : List (Nat × Nat) :=
  match x, y with
  | .pointer (some ⟨k, _, _⟩), .pointer (some ⟨b, _, _⟩) => tAdd N k b tbl
  | .slice (some ⟨k, _, _⟩) _ _, .slice (some ⟨b, _, _⟩) _ _ => tAdd N k b tbl
  | .map (some k), .map (some b) => tAdd N k b tbl
  | .iface _ x, .iface _ y => f x y tbl
  | .agg ⟨xs⟩, .agg ⟨ys⟩ => tL f xs ys tbl
  | .func _ ⟨xs⟩ ⟨ys⟩, .func _ ⟨zs⟩ ⟨us⟩ => tL f ys us (tL f xs zs tbl)
  | _, _ => tbl
noncomputable def tR (N : Nat) (n : Nat) : Value → Value → List (Nat × Nat) → List (Nat × Nat) :=
  Nat.rec (motive := fun _ => Value → Value → List (Nat × Nat) → List (Nat × Nat)) (fun _ _ t => t) (fun _ ih => tV N ih) n
noncomputable def tRo (N : Nat) (h : Tr AObj) (ro : List (Nat × Bool × List Value)) (tbl : List (Nat × Nat)) : List (Nat × Nat) :=
  match ro with
  | [] => tbl
  | (k, _, xs) :: r =>
    (match tau0 N tbl k with
      | some i => (match h.get i with | some (.cells ys _) => tRo N h r (tL (tR N 3) xs ys tbl) | _ => tbl)
      | none => tbl)
def notVal (b : Nat) (l : List (Nat × Nat)) : Bool := match l with | [] => true | p :: r => (match Nat.beq p.2 b with | true => false | false => notVal b r)
def okTbl (N n0 : Nat) (l : List (Nat × Nat)) : Bool :=
  match l with
  | [] => true
  | (k, b) :: r => (match Nat.blt b N, Nat.blt k n0, notVal b r with | false, true, true => okTbl N n0 r | _, _, _ => false)
noncomputable def okCK (b : Bool) (k : CK) : Bool := match b with | false => true | true => (match k with | .fixed _ => true | _ => false)
noncomputable def okRo (r : Value → Option Value) (τ : Nat → Option Nat) (h : Tr AObj) (ro : List (Nat × Bool × List Value)) : Bool :=
  match ro with
  | [] => true
  | (k, b, xs) :: t =>
    (match τ k with
      | some i =>
        (match h.get i with
          | some (.cells ys ck) => (match okCK b ck, renL r xs with | true, some zs => (match vEqs zs ys with | true => okRo r τ h t | false => false) | _, _ => false)
          | _ => false)
      | none => false)

noncomputable def mGo (N : Nat) (m : Memo) (args : List Value) (A : AMem) (tbl : List (Nat × Nat)) : Option (List (Nat × Value) × AMem) :=
  match okTbl N m.n0 tbl, Nat.ble N m.n0, Nat.ble m.n0 m.n1, okRo (ren (tau0 N tbl) 4) (tau0 N tbl) A.heap m.ro with
  | true, true, true, true =>
    (match renL (ren (tau0 N tbl) 4) m.args with
      | some zs =>
        (match vEqs zs args with
          | true =>
            (match addNew (ren (tau1 N tbl m.args m.n0 A.next m.new) 4) m.n0 A.next m.new A.heap, addFam m.n0 A.next m.fams A.fams, renA (ren (tau1 N tbl m.args m.n0 A.next m.new) 4) m.res with
              | some h, some fm, some ov => some (ov, { heap := h, next := Nat.succ (Nat.add A.next (Nat.sub m.n1 m.n0)), fams := fm })
              | _, _, _ => none)
          | false => none)
      | none => none)
  | _, _, _, _ => none
noncomputable def mLook (N : Nat) (m : Memo) (args : List Value) (tbl : List (Nat × Nat)) : Bool :=
  match renL (ren (tau0 N tbl) 4) m.args with
  | some zs => vEqs zs args
  | none => false
noncomputable def mOne (N : Nat) (m : Memo) (args : List Value) (A : AMem) : Option (List (Nat × Value) × AMem) :=
  match mLook N m args (tL (tR N 4) m.args args []) with
  | true => mGo N m args A (tRo N A.heap m.ro (tL (tR N 4) m.args args []))
  | false => none
noncomputable def mFirst (N : Nat) (ms : List Memo) (args : List Value) (A : AMem) : Option (Nat × List (Nat × Value) × AMem) :=
  match ms with
  | [] => none
  | m :: r => (match mOne N m args A with | some p => some (m.nt, p) | none => mFirst N r args A)
noncomputable def mTry (T : Tab) (f : FuncId) (args : List Value) (A : AMem) : Option (Nat × List (Nat × Value) × AMem) :=
  match T.memo.get f with
  | none => none
  | some ms => mFirst T.nglob ms args A

theorem roH_get {l : List (Nat × Bool × List Value)} {k : Nat} {o : AObj} (h : (roH l).get k = some o) : ∃ b xs, (k, b, xs) ∈ l ∧ o = .cells xs (match b with | true => .fixed true | false => .seen) := by
  induction l with
  | nil => cases h
  | cons p l ih =>
    obtain ⟨a, b, xs⟩ := p
    unfold roH at h
    rcases Tr.get_put h with ⟨rfl, e⟩ | ⟨_, h⟩
    · injection e with e
      exact ⟨b, xs, by simp, e.symm⟩
    · obtain ⟨b', ys, h1, h2⟩ := ih h
      exact ⟨b', ys, List.mem_cons_of_mem _ h1, h2⟩
theorem okRo_ok {r : Value → Option Value} {τ : Nat → Option Nat} {h : Tr AObj} : ∀ {ro : List (Nat × Bool × List Value)}, okRo r τ h ro = true → ∀ k b xs, (k, b, xs) ∈ ro → ∃ i ys ck, τ k = some i ∧ h.get i = some (.cells ys ck) ∧ renL r xs = some ys ∧ (b = true → ∃ c, ck = .fixed c) := by
  intro ro
  induction ro with
  | nil => intro _ k b xs hm; cases hm
  | cons p ro ih =>
    obtain ⟨a, b0, us⟩ := p
    intro hk k b xs hm
    unfold okRo at hk
    split at hk
    · rename_i i hi
      split at hk
      · rename_i ys ck hg
        split at hk
        · rename_i zs hc hz
          split at hk
          · rename_i he
            rcases List.mem_cons.1 hm with e | hm
            · injection e with e1 e2
              injection e2 with e2 e3
              subst e1; subst e2; subst e3
              refine ⟨i, ys, ck, hi, hg, by rw [hz, vEqs_eq he], fun hb => ?_⟩
              subst hb
              cases ck with
              | fixed c => exact ⟨c, rfl⟩
              | _ => cases hc
            · exact ih hk k b xs hm
          · cases hk
        · cases hk
      · cases hk
    · cases hk
theorem notVal_ok {b : Nat} : ∀ {l : List (Nat × Nat)}, notVal b l = true → ∀ k, alook l k ≠ some b := by
  intro l
  induction l with
  | nil => intro _ k h; cases h
  | cons p l ih =>
    obtain ⟨a, c⟩ := p
    intro h k hk
    unfold notVal at h
    split at h
    · cases h
    · rename_i hne
      have hne : c ≠ b := Nat.ne_of_beq_eq_false hne
      rw [alook_cons] at hk
      split at hk
      · injection hk with hk; exact hne hk
      · exact ih h k hk
theorem okTbl_ok {N n0 : Nat} : ∀ {l : List (Nat × Nat)}, okTbl N n0 l = true → (∀ k b, alook l k = some b → N ≤ b ∧ k < n0) ∧ ∀ k k' b, alook l k = some b → alook l k' = some b → k = k' := by
  intro l
  induction l with
  | nil => intro _; exact ⟨fun k b h => (by cases h), fun k k' b h => (by cases h)⟩
  | cons p l ih =>
    obtain ⟨a, c⟩ := p
    intro h
    unfold okTbl at h
    split at h
    · rename_i h1 h2 h3
      obtain ⟨i1, i2⟩ := ih h
      have h1 : N ≤ c := by
        rcases Nat.lt_or_ge c N with hlt | hge
        · have : Nat.blt c N = true := Nat.ble_eq_true_of_le hlt
          rw [h1] at this; cases this
        · exact hge
      have h2 : a < n0 := Nat.le_of_ble_eq_true h2
      refine ⟨fun k b hk => ?_, fun k k' b hk hk' => ?_⟩
      · rw [alook_cons] at hk
        split at hk
        · rename_i e; subst e; injection hk with hk; subst hk; exact ⟨h1, h2⟩
        · exact i1 k b hk
      · rw [alook_cons] at hk hk'
        split at hk
        · rename_i e
          injection hk with hk; subst hk
          split at hk'
          · rename_i e'; rw [← e, ← e']
          · exact absurd hk' (notVal_ok h3 k')
        · split at hk'
          · injection hk' with hk'; subst hk'
            exact absurd hk (notVal_ok h3 k)
          · exact i2 k k' b hk hk'
    · cases h
theorem tau0_inj {N n0 : Nat} {tbl : List (Nat × Nat)} (h : okTbl N n0 tbl = true) {k k' b : Nat} (h1 : tau0 N tbl k = some b) (h2 : tau0 N tbl k' = some b) : k = k' := by
  obtain ⟨i1, i2⟩ := okTbl_ok h
  unfold tau0 at h1 h2
  split at h1
  · rename_i hk
    injection h1 with h1; subst h1
    have hk : k < N := Nat.le_of_ble_eq_true hk
    split at h2
    · injection h2 with h2; exact h2.symm
    · have := (i1 _ _ h2).1; omega
  · split at h2
    · rename_i hk
      injection h2 with h2; subst h2
      have hk : k' < N := Nat.le_of_ble_eq_true hk
      have := (i1 _ _ h1).1; omega
    · exact i2 k k' b h1 h2
theorem tau0_lt {N n0 : Nat} {tbl : List (Nat × Nat)} (h : okTbl N n0 tbl = true) (hn : N ≤ n0) {k b : Nat} (h1 : tau0 N tbl k = some b) : k < n0 := by
  unfold tau0 at h1
  split at h1
  · rename_i hk
    have hk : k < N := Nat.le_of_ble_eq_true hk
    omega
  · exact ((okTbl_ok h).1 _ _ h1).2

theorem blt_ge {a b : Nat} (h : Nat.blt a b = false) : b ≤ a := by
  rcases Nat.lt_or_ge a b with hlt | hge
  · have : Nat.blt a b = true := Nat.ble_eq_true_of_le hlt
    rw [h] at this; cases this
  · exact hge
theorem topId_ok {μ : Mu} {k : Nat} : ∀ {l : List Value} {ys : List Value}, topId k l = true → VsRel μ l ys → ∃ e, μ k = some e := by
  intro l
  induction l with
  | nil => intro ys h; cases h
  | cons v l ih =>
    intro ys h hv
    obtain ⟨y, zs, rfl, h1, h2⟩ := hv.cons_left
    unfold topId at h
    split at h
    · split at h
      · rename_i e
        have e := Nat.eq_of_beq_eq_true e
        subst e
        cases h1 with
        | ptr hb => exact ⟨_, hb⟩
      · exact ih h h2
    · split at h
      · rename_i e
        have e := Nat.eq_of_beq_eq_true e
        subst e
        cases h1 with
        | slice hb _ => exact ⟨_, hb⟩
        | gslice hb _ _ _ _ => exact ⟨_, hb⟩
        | zslice hb => exact ⟨_, hb⟩
      · exact ih h h2
    · exact ih h h2
theorem alook_newH {l : List (Nat × AObj)} : ∀ {k : Nat} {o : AObj}, k < 16000000 → alook l k = some o → (newH l).get k = some o := by
  induction l with
  | nil => intro k o _ h; cases h
  | cons p l ih =>
    obtain ⟨a, x⟩ := p
    intro k o hk h
    rw [alook_cons] at h
    unfold newH
    split at h
    · rename_i e; subst e
      injection h with h; subst h
      exact Tr.get_put_there _ _ _ (by omega)
    · rename_i hne
      rw [Tr.get_put_other _ _ _ _ (Ne.symm hne)]
      exact ih hk h
theorem addNew_all {r : Value → Option Value} {n0 nx : Nat} {h0 : Tr AObj} : ∀ {l : List (Nat × AObj)} {h : Tr AObj}, addNew r n0 nx l h0 = some h → ∀ {k : Nat} {o : AObj}, alook l k = some o → n0 ≤ k ∧ k < 16000000 ∧ ∃ o', renO r n0 nx o = some o' := by
  intro l
  induction l with
  | nil => intro h _ k o hk; cases hk
  | cons p l ih =>
    obtain ⟨a, x⟩ := p
    intro h hh k o hk
    unfold addNew at hh
    split at hh
    · rename_i o' h' h1 h2 h3 h4
      rw [alook_cons] at hk
      split at hk
      · rename_i e; subst e
        injection hk with hk; subst hk
        exact ⟨blt_ge h1, blt_lt h2, o', h3⟩
      · exact ih h4 hk
    · cases hh
theorem addNew_get {r : Value → Option Value} {n0 nx : Nat} {h0 : Tr AObj} : ∀ {l : List (Nat × AObj)} {h : Tr AObj}, addNew r n0 nx l h0 = some h → ∀ {b : Nat} {o : AObj}, h.get b = some o →
    (∃ k o1, alook l k = some o1 ∧ n0 ≤ k ∧ b = nx + (k - n0) ∧ renO r n0 nx o1 = some o) ∨ h0.get b = some o := by
  intro l
  induction l with
  | nil => intro h hh b o hb; injection hh with hh; subst hh; exact .inr hb
  | cons p l ih =>
    obtain ⟨a, x⟩ := p
    intro h hh b o hb
    unfold addNew at hh
    split at hh
    · rename_i o' h' h1 h2 h3 h4
      injection hh with hh; subst hh
      rcases Tr.get_put hb with ⟨rfl, e⟩ | ⟨hne, hb⟩
      · injection e with e; subst e
        exact .inl ⟨a, x, by rw [alook_cons, if_pos rfl], blt_ge h1, rfl, h3⟩
      · rcases ih h4 hb with ⟨k, o1, k1, k2, k3, k4⟩ | hb
        · refine .inl ⟨k, o1, ?_, k2, k3, k4⟩
          rw [alook_cons, if_neg ?_]
          · exact k1
          · intro e; subst e; exact hne k3
        · exact .inr hb
    · cases hh
theorem addNew_old {r : Value → Option Value} {n0 nx : Nat} {h0 : Tr AObj} : ∀ {l : List (Nat × AObj)} {h : Tr AObj}, addNew r n0 nx l h0 = some h → ∀ {b : Nat}, b < nx → h.get b = h0.get b := by
  intro l
  induction l with
  | nil => intro h hh b _; injection hh with hh; subst hh; rfl
  | cons p l ih =>
    obtain ⟨a, x⟩ := p
    intro h hh b hb
    unfold addNew at hh
    split at hh
    · rename_i o' h' h1 h2 h3 h4
      injection hh with hh; subst hh
      rw [Tr.get_put_other _ _ _ _ (by show b ≠ nx + (a - n0); omega)]
      exact ih h4 hb
    · cases hh
theorem shL_mem {n0 nx k : Nat} : ∀ {l : List Nat}, k ∈ l → nx + (k - n0) ∈ shL n0 nx l := by
  intro l
  induction l with
  | nil => intro h; cases h
  | cons a l ih =>
    intro h
    unfold shL
    rcases List.mem_cons.1 h with rfl | h
    · exact List.mem_cons_self
    · exact List.mem_cons_of_mem _ (ih h)
theorem addFam_old {n0 nx : Nat} {h0 : Tr (List Nat)} : ∀ {l : List (Nat × List Nat)} {h : Tr (List Nat)}, addFam n0 nx l h0 = some h → ∀ {b : Nat}, b < nx → h.get b = h0.get b := by
  intro l
  induction l with
  | nil => intro h hh b _; injection hh with hh; subst hh; rfl
  | cons p l ih =>
    obtain ⟨a, x⟩ := p
    intro h hh b hb
    unfold addFam at hh
    split at hh
    · rename_i h' h1 h2 h4
      injection hh with hh; subst hh
      rw [Tr.get_put_other _ _ _ _ (by show b ≠ nx + (a - n0); omega)]
      exact ih h4 hb
    · cases hh
theorem addFam_new {n0 nx : Nat} {h0 : Tr (List Nat)} : ∀ {l : List (Nat × List Nat)} {h : Tr (List Nat)}, addFam n0 nx l h0 = some h → ∀ {f : Nat} {x : List Nat}, (famT l).get f = some x → h.get (nx + (f - n0)) = some (shL n0 nx x) := by
  intro l
  induction l with
  | nil => intro h hh f x hf; cases hf
  | cons p l ih =>
    obtain ⟨a, y⟩ := p
    intro h hh f x hf
    unfold addFam at hh
    split at hh
    · rename_i h' h1 h2 h4
      injection hh with hh; subst hh
      have ha := blt_ge h1
      have hb : nx + (a - n0) < 16000000 := blt_lt h2
      unfold famT at hf
      rcases Tr.get_put hf with ⟨rfl, e⟩ | ⟨hne, hf⟩
      · injection e with e; subst e
        exact Tr.get_put_there _ _ _ (by show nx + (f - n0) + 1 < _; omega)
      · have hfn : n0 ≤ f := by
          have : ∀ {l : List (Nat × List Nat)} {h : Tr (List Nat)} {h0 : Tr (List Nat)}, addFam n0 nx l h0 = some h → ∀ {f : Nat} {x : List Nat}, (famT l).get f = some x → n0 ≤ f := by
            intro l
            induction l with
            | nil => intro h h0 _ f x hf; cases hf
            | cons p l ih =>
              obtain ⟨a, y⟩ := p
              intro h h0 hh f x hf
              unfold addFam at hh
              split at hh
              · rename_i h' h1 h2 h4
                unfold famT at hf
                rcases Tr.get_put hf with ⟨rfl, e⟩ | ⟨hne, hf⟩
                · exact blt_ge h1
                · exact ih h4 hf
              · cases hh
          exact this h4 hf
        rw [Tr.get_put_other _ _ _ _ (by show nx + (f - n0) ≠ nx + (a - n0); omega)]
        exact ih h4 hf
    · cases hh
theorem renA_ok {r : Value → Option Value} : ∀ {l ov : List (Nat × Value)}, renA r l = some ov → ∀ {t : Nat} {u : Value}, alook ov t = some u → ∃ v, alook l t = some v ∧ r v = some u := by
  intro l
  induction l with
  | nil => intro ov h t u hu; injection h with h; subst h; cases hu
  | cons p l ih =>
    obtain ⟨a, v⟩ := p
    intro ov h t u hu
    unfold renA at h
    split at h
    · rename_i x s h1 h2
      injection h with h; subst h
      rw [alook_cons] at hu ⊢
      split at hu
      · rename_i e
        injection hu with hu; subst hu
        exact ⟨v, by rw [if_pos e], h1⟩
      · rename_i e
        rw [if_neg e]
        exact ih h2 hu
    · cases h
theorem renE_ok {τ : Nat → Option Nat} {n : Nat} {μ μ' : Mu} (hr : Along (fun k i => τ k = some i) μ μ') : ∀ {l fs : List MapEntry} {es : List MapEntry}, renE (ren τ n) l = some fs → LRel (EntRel μ) l es → LRel (EntRel μ') fs es := by
  intro l
  induction l with
  | nil => intro fs es h k; injection h with h; subst h; rw [k.nil_left]; exact .nil
  | cons e l ih =>
    intro fs es h k
    unfold renE at h
    split at h
    · rename_i a b s h1 h2 h3
      injection h with h; subst h
      obtain ⟨y, ys, rfl, k1, k2⟩ := k.cons_left
      exact .cons ⟨(ren_ok n h1).1 _ _ _ hr k1.1, (ren_ok n h2).1 _ _ _ hr k1.2.1, k1.2.2⟩ (ih h3 k2)
    · cases h

def colE (e : Ent) : Ent := { e with gr := e.gr.map fun g => { g with fam := 0 } }
def shE (n0 nx : Nat) (e : Ent) : Ent := { e with gr := e.gr.map fun g => { g with fam := nx + (g.fam - n0) } }
theorem colE_eq (e : Ent) : EEq e (colE e) := by
  refine ⟨rfl, rfl, rfl, ?_⟩
  cases h : e.gr with
  | none => exact .inl ⟨rfl, by simp [colE, h]⟩
  | some g => exact .inr ⟨g, { g with fam := 0 }, rfl, by simp [colE, h], rfl, rfl, rfl⟩
theorem shE_eq (n0 nx : Nat) (e : Ent) : EEq e (shE n0 nx e) := by
  refine ⟨rfl, rfl, rfl, ?_⟩
  cases h : e.gr with
  | none => exact .inl ⟨rfl, by simp [shE, h]⟩
  | some g => exact .inr ⟨g, { g with fam := nx + (g.fam - n0) }, rfl, by simp [shE, h], rfl, rfl, rfl⟩

theorem renO_ok {τ : Nat → Option Nat} {n : Nat} {n0 nx : Nat} {μ μ' : Mu} (hr : Along (fun k i => τ k = some i) μ μ') {B B' : Nat} (hB : B' ≤ B) {h : Array Obj} {e : Ent} {o o' : AObj} (ho : renO (ren τ n) n0 nx o = some o')
    (k : ORel μ B h e o) : ORel μ' B' h (shE n0 nx e) o' ∧ B ≤ e.blk := by
  have hl : ∀ {xs ys : List Value}, renL (ren τ n) xs = some ys → ∀ {zs : List Value}, VsRel μ xs zs → VsRel μ' ys zs := fun hx _ hz => tak_list hr (renL_ok (fun _ _ => ren_ok n) hx).1 hz
  unfold renO at ho
  split at ho
  · rename_i xs
    split at ho
    · rename_i ys hx
      injection ho with ho; subst ho
      obtain ⟨a, arr, t, fr, b, c, d⟩ := k
      exact ⟨⟨by simp [shE, a], arr, t, fr, b, hl hx c, fun _ => ⟨Nat.le_trans hB (d rfl).1, (d rfl).2⟩⟩, (d rfl).1⟩
    · cases ho
  · rename_i xs g
    split at ho
    · rename_i ys hx hf
      injection ho with ho; subst ho
      obtain ⟨a, b, arr, t, fr, c, d, f, i, j⟩ := k
      refine ⟨⟨by simp [shE, a, shK], Nat.le_trans hB b, arr, t, fr, c, d, f, ?_, ?_⟩, b⟩
      · have := (renL_ok (fun _ _ => ren_ok n) hx).1.1
        show e.dl + ys.length ≤ arr.size
        omega
      · intro m y hy
        obtain ⟨h1, h2⟩ := (renL_ok (fun _ _ => ren_ok n) hx).1
        have hm : m < xs.length := by rw [h1]; exact (List.getElem?_eq_some_iff.1 hy).1
        obtain ⟨z, hz1, hz2⟩ := j m _ (List.getElem?_eq_getElem hm)
        exact ⟨z, hz1, h2 m _ y (List.getElem?_eq_getElem hm) hy _ _ _ hr hz2⟩
    · cases ho
  · rename_i es clock
    split at ho
    · rename_i fs hx
      injection ho with ho; subst ho
      obtain ⟨a, b, es', c, d⟩ := k
      exact ⟨⟨by simp [shE, a], Nat.le_trans hB b, es', c, renE_ok hr hx d⟩, b⟩
    · cases ho
  · cases ho

theorem mGo_ok {P : Program} {N : Nat} {f : FuncId} {m : Memo} (hm : MemoOk P N f m) {μ : Mu} {B : Nat} {A A' : AMem} {w : World} {args : List Value} {args' : Array Value} {tbl ov : List (Nat × _)} (R : MRel μ B A w.heap)
    (G : ∀ g, g < N → μ g = some ⟨g, 0, none, 0⟩) (ha : VsRel μ args args'.toList) (hg : mGo N m args A tbl = some (ov, A')) (cs0 : List Frame) :
    ∃ μ' fr2 w2, Mu.Ext A.next μ μ' ∧ MRel μ' B A' w2.heap ∧ A.next ≤ A'.next ∧ (∀ b, b < A.next → A'.heap.get b = A.heap.get b) ∧ (fr2.fn = f ∧ fr2.kind = .normal ∧ fr2.roundOf = none ∧ fr2.defers = [] ∧ fr2.mode = .returning) ∧
      TRel μ' m.nt [] ov fr2.tmps ∧ Steps P (lone (Frame.enter P f args' .normal) cs0 w) (lone fr2 cs0 w2) ∧ Below B w w2 := by
  unfold mGo at hg
  split at hg
  case h_2 => cases hg
  rename_i c1 c2 c3 c4
  split at hg
  case h_2 => cases hg
  rename_i zs hz
  split at hg
  case h_2 => cases hg
  rename_i hzs
  have hzs := vEqs_eq hzs
  subst hzs
  split at hg
  case h_2 => cases hg
  rename_i h fm ov1 q1 q2 q3
  injection hg with hg
  injection hg with hg1 hg2
  subst hg1
  have hN : N ≤ m.n0 := Nat.le_of_ble_eq_true c2
  have h01 : m.n0 ≤ m.n1 := Nat.le_of_ble_eq_true c3
  have ro := okRo_ok c4
  -- the small world
  have hμ0 : ∃ μ0 : Mu, ∀ k, μ0 k = (tau0 N tbl k).bind fun i => (μ i).map colE := ⟨_, fun _ => rfl⟩
  obtain ⟨μ0, hμ0⟩ := hμ0
  have inv0 : ∀ {k e}, μ0 k = some e → ∃ i e1, tau0 N tbl k = some i ∧ μ i = some e1 ∧ e = colE e1 := by
    intro k e hk
    rw [hμ0] at hk
    cases ht : tau0 N tbl k with
    | none => rw [ht] at hk; cases hk
    | some i =>
      rw [ht] at hk
      cases hi : μ i with
      | none => rw [Option.bind_some, hi] at hk; cases hk
      | some e1 => rw [Option.bind_some, hi] at hk; injection hk with hk; exact ⟨i, e1, rfl, hi, hk.symm⟩
  have al0 : Along (fun i k => tau0 N tbl k = some i) μ μ0 := by
    intro i k e hk he
    exact ⟨colE e, by rw [hμ0, hk, Option.bind_some, he]; rfl, colE_eq e⟩
  have G0 : ∀ g, g < N → μ0 g = some ⟨g, 0, none, 0⟩ := by
    intro g hgN
    have : tau0 N tbl g = some g := by
      unfold tau0
      have : Nat.blt g N = true := Nat.ble_eq_true_of_le hgN
      rw [this]
    rw [hμ0, this, Option.bind_some, G g hgN]; rfl
  have R0 : MRel μ0 w.heap.size m.A0 w.heap := by
    refine ⟨Nat.le_refl _, ?_, ?_, ?_, ?_, ?_⟩
    · intro b o e ho he
      obtain ⟨fl, xs, h1, rfl⟩ := roH_get ho
      obtain ⟨i, ys, bb, h2, h3, h4, h4b⟩ := ro b fl xs h1
      obtain ⟨i', e1, h5, h6, rfl⟩ := inv0 he
      rw [h2] at h5; injection h5 with h5; subst h5
      cases fl with
      | true =>
        obtain ⟨c, rfl⟩ := h4b rfl
        obtain ⟨a, arr, t, fr, k1, k2, _⟩ := R.obj i _ e1 h3 h6
        exact ⟨by simp [colE, a], arr, t, fr, k1, tak_list al0 (renL_ok (fun _ _ => ren_ok 4) h4).2 k2, fun hh => by cases hh⟩
      | false =>
        obtain ⟨arr, t, fr, k1, k2, k3⟩ := cells_of R h3 h6
        obtain ⟨l1, l2⟩ := (renL_ok (fun _ _ => ren_ok 4) h4).2
        refine ⟨(R.dom i e1 h6).2.1, arr, t, fr, k1, by rw [← l1]; exact k2, fun n x hx => ?_⟩
        have hn : n < ys.length := by rw [l1]; exact (List.getElem?_eq_some_iff.1 hx).1
        obtain ⟨y, hy, hr⟩ := k3 n _ (List.getElem?_eq_getElem hn)
        exact ⟨y, hy, l2 n _ x (List.getElem?_eq_getElem hn) hx _ _ _ al0 hr⟩
    · intro b e he
      obtain ⟨i, e1, h5, h6, rfl⟩ := inv0 he
      obtain ⟨d1, d2, d3, d4⟩ := R.dom i e1 h6
      have hb := tau0_lt c1 hN h5
      refine ⟨hb, d2, fun hn => d3 ?_, fun g hg => ?_⟩
      · cases hx : e1.gr with
        | none => rfl
        | some g => simp [colE, hx] at hn
      · cases hx : e1.gr with
        | none => simp [colE, hx] at hg
        | some g1 => simp [colE, hx] at hg; subst hg; show 0 < m.n0; omega
    · intro b b' e e' he he' hbb
      obtain ⟨i, e1, h5, h6, rfl⟩ := inv0 he
      obtain ⟨i', e1', h5', h6', rfl⟩ := inv0 he'
      rcases R.sep i i' e1 e1' h6 h6' hbb with hh | ⟨g, g', x1, x2, x3, x4⟩
      · subst hh; exact .inl (tau0_inj c1 h5 h5')
      · exact .inr ⟨{ g with fam := 0 }, { g' with fam := 0 }, by simp [colE, x1], by simp [colE, x2], rfl, x4⟩
    · intro b xs g ho
      obtain ⟨fl, xs', _, hh⟩ := roH_get ho
      cases fl <;> cases hh
    · intro b o ho
      obtain ⟨fl, xs', h1, hh⟩ := roH_get ho
      obtain ⟨i, ys, bb, h2, _⟩ := ro b fl xs' h1
      exact tau0_lt c1 hN h2
  have ha0 : VsRel μ0 m.args args'.toList := tak_list al0 (renL_ok (fun _ _ => ren_ok 4) hz).2 ha
  obtain ⟨μ1, fr2, w2, hle, R1, hfr, htm, hst, hbl⟩ := hm cs0 R0 G0 ha0
  -- the great one
  have hμ' : ∃ μ' : Mu, ∀ i, μ' i = if i < A.next then μ i else (alook m.new (i - A.next + m.n0)).bind fun _ => (μ1 (i - A.next + m.n0)).map (shE m.n0 A.next) := ⟨_, fun _ => rfl⟩
  obtain ⟨μ', hμ'⟩ := hμ'
  have old : ∀ {i}, i < A.next → μ' i = μ i := fun hi => by rw [hμ', if_pos hi]
  have new : ∀ {k o}, m.n0 ≤ k → alook m.new k = some o → μ' (A.next + (k - m.n0)) = (μ1 k).map (shE m.n0 A.next) := by
    intro k o hk hn
    have : A.next + (k - m.n0) - A.next + m.n0 = k := by omega
    rw [hμ', if_neg (by omega), this, hn]; rfl
  have invN : ∀ {i e}, ¬ i < A.next → μ' i = some e → ∃ k o e1, m.n0 ≤ k ∧ i = A.next + (k - m.n0) ∧ alook m.new k = some o ∧ μ1 k = some e1 ∧ e = shE m.n0 A.next e1 := by
    intro i e hi he
    rw [hμ', if_neg hi] at he
    cases hn : alook m.new (i - A.next + m.n0) with
    | none => rw [hn] at he; cases he
    | some o =>
      rw [hn, Option.bind_some] at he
      cases h1 : μ1 (i - A.next + m.n0) with
      | none => rw [h1] at he; cases he
      | some e1 => rw [h1] at he; injection he with he; exact ⟨i - A.next + m.n0, o, e1, by omega, by omega, hn, h1, he.symm⟩
  have al1 : Along (fun k i => tau1 N tbl m.args m.n0 A.next m.new k = some i) μ1 μ' := by
    intro k i e hk he
    unfold tau1 at hk
    have known : ∀ {i}, tau0 N tbl k = some i → (∃ e0, μ0 k = some e0) → ∃ e', μ' i = some e' ∧ EEq e e' := by
      intro i hi ⟨e0, he0⟩
      obtain ⟨i', e1, h5, h6, rfl⟩ := inv0 he0
      rw [hi] at h5; injection h5 with h5; subst h5
      have := hle k _ he0
      rw [he] at this; injection this with this; subst this
      exact ⟨e1, by rw [old (R.dom _ _ h6).1]; exact h6, (colE_eq e1).symm⟩
    split at hk
    · split at hk
      · rename_i hkN
        injection hk with hk; subst hk
        have hkN := blt_lt hkN
        refine known ?_ ⟨_, G0 k hkN⟩
        unfold tau0
        have : Nat.blt k N = true := Nat.ble_eq_true_of_le hkN
        rw [this]
      · rename_i hkN
        split at hk
        · rename_i ht
          refine known ?_ (topId_ok ht ha0)
          unfold tau0
          rw [hkN]; exact hk
        · cases hk
    · rename_i hkn
      have hkn := blt_ge hkn
      split at hk
      · rename_i o hn
        injection hk with hk; subst hk
        refine ⟨shE m.n0 A.next e, ?_, shE_eq _ _ _⟩
        show μ' (A.next + (k - m.n0)) = _
        rw [new hkn hn, he]; rfl
      · cases hk
  have ext : Mu.Ext A.next μ μ' := ⟨fun b e he => by rw [old (R.dom b e he).1]; exact he, fun b hb hn => by rw [old hb]; exact hn⟩
  have hsz : w.heap.size ≤ w2.heap.size := hbl.size
  have same : ∀ {e b}, μ b = some e → w2.heap[e.blk]? = w.heap[e.blk]? := fun he => hbl.block _ (R.dom _ _ he).2.1
  -- a new block lies behind the old heap
  have behind : ∀ {k o e1}, alook m.new k = some o → μ1 k = some e1 → w.heap.size ≤ e1.blk ∧ ∀ o', renO (ren (tau1 N tbl m.args m.n0 A.next m.new) 4) m.n0 A.next o = some o' → ORel μ' B w2.heap (shE m.n0 A.next e1) o' := by
    intro k o e1 hn h1
    obtain ⟨_, hk, o', ho'⟩ := addNew_all q1 hn
    have hr := R1.obj k o e1 (alook_newH hk hn) h1
    exact ⟨(renO_ok al1 R.base ho' hr).2, fun o'' ho'' => (renO_ok al1 R.base ho'' hr).1⟩
  refine ⟨μ', fr2, w2, ext, ?_, ?_, ?_, hfr, ?_, hst, hbl.mono R.base⟩
  · subst hg2
    refine ⟨Nat.le_trans R.base hsz, ?_, ?_, ?_, ?_, ?_⟩
    · intro b o e ho he
      rcases addNew_get q1 ho with ⟨k, o1, k1, k2, rfl, k4⟩ | ho
      · rw [new k2 k1] at he
        cases h1 : μ1 k with
        | none => rw [h1] at he; cases he
        | some e1 =>
          rw [h1] at he; injection he with he; subst he
          exact (behind k1 h1).2 o k4
      · have hb := R.live b o ho
        rw [old hb] at he
        exact (R.obj b o e ho he).mono ext.1 (same he)
    · intro b e he
      by_cases hb : b < A.next
      · rw [old hb] at he
        obtain ⟨d1, d2, d3, d4⟩ := R.dom b e he
        exact ⟨by show b < A.next + (m.n1 - m.n0) + 1; omega, Nat.lt_of_lt_of_le d2 hsz, d3, fun g hg => by have := d4 g hg; show g.fam < A.next + (m.n1 - m.n0) + 1; omega⟩
      · obtain ⟨k, o, e1, k1, k2, k3, k4, rfl⟩ := invN hb he
        obtain ⟨d1, d2, d3, d4⟩ := R1.dom k e1 k4
        have d1 : k < m.n1 := d1
        refine ⟨by show b < A.next + (m.n1 - m.n0) + 1; omega, d2, fun hn => d3 ?_, fun g hg => ?_⟩
        · cases hx : e1.gr with
          | none => rfl
          | some g => simp [shE, hx] at hn
        · cases hx : e1.gr with
          | none => simp [shE, hx] at hg
          | some g1 =>
            simp [shE, hx] at hg; subst hg
            have : g1.fam < m.n1 := d4 g1 hx
            show A.next + (g1.fam - m.n0) < A.next + (m.n1 - m.n0) + 1
            omega
    · intro b b' e e' he he' hbb
      by_cases hb : b < A.next
      · rw [old hb] at he
        by_cases hb' : b' < A.next
        · rw [old hb'] at he'
          exact R.sep b b' e e' he he' hbb
        · obtain ⟨k, o, e1, k1, k2, k3, k4, rfl⟩ := invN hb' he'
          have h1 := (behind k3 k4).1
          have h2 := (R.dom b e he).2.1
          have hbb : e.blk = e1.blk := hbb
          omega
      · obtain ⟨k, o, e1, k1, k2, k3, k4, rfl⟩ := invN hb he
        by_cases hb' : b' < A.next
        · rw [old hb'] at he'
          have h1 := (behind k3 k4).1
          have h2 := (R.dom b' e' he').2.1
          have hbb : e1.blk = e'.blk := hbb
          omega
        · obtain ⟨k', o', e1', k1', k2', k3', k4', rfl⟩ := invN hb' he'
          rcases R1.sep k k' e1 e1' k4 k4' hbb with hh | ⟨g, g', x1, x2, x3, x4⟩
          · subst hh; exact .inl (by rw [k2, k2'])
          · exact .inr ⟨{ g with fam := A.next + (g.fam - m.n0) }, { g' with fam := A.next + (g'.fam - m.n0) }, by simp [shE, x1], by simp [shE, x2], by simp [x3], x4⟩
    · intro b xs g ho
      rcases addNew_get q1 ho with ⟨k, o1, k1, k2, rfl, k4⟩ | ho
      · unfold renO at k4
        split at k4
        · split at k4 <;> cases k4
        · rename_i xs1 g1
          split at k4
          · rename_i ys hx hf
            injection k4 with k4
            injection k4 with k5 k6
            injection k6 with k6
            subst k6
            obtain ⟨_, hk, _⟩ := addNew_all q1 k1
            obtain ⟨l1, l, l2, l3⟩ := R1.memb k xs1 g1 (alook_newH hk k1)
            have l1 : g1.fam < m.n1 := l1
            exact ⟨by show A.next + (g1.fam - m.n0) < A.next + (m.n1 - m.n0) + 1; omega, _, addFam_new q2 l2, shL_mem l3⟩
          · cases k4
        · split at k4 <;> cases k4
        · cases k4
      · obtain ⟨l1, l, l2, l3⟩ := R.memb b xs g ho
        exact ⟨by show g.fam < A.next + (m.n1 - m.n0) + 1; omega, l, by show fm.get g.fam = _; rw [addFam_old q2 l1]; exact l2, l3⟩
    · intro b o ho
      rcases addNew_get q1 ho with ⟨k, o1, k1, k2, rfl, k4⟩ | ho
      · obtain ⟨_, hk, _⟩ := addNew_all q1 k1
        have : k < m.n1 := R1.live k o1 (alook_newH hk k1)
        show A.next + (k - m.n0) < A.next + (m.n1 - m.n0) + 1
        omega
      · have := R.live b o ho
        show b < A.next + (m.n1 - m.n0) + 1
        omega
  · subst hg2
    show A.next ≤ A.next + (m.n1 - m.n0) + 1
    omega
  · subst hg2
    intro b hb
    exact addNew_old q1 hb
  · refine ⟨htm.1, fun t v hv => ?_⟩
    obtain ⟨v0, h1, h2⟩ := renA_ok q3 (show alook ov1 t = some v from hv)
    obtain ⟨v', h3, h4⟩ := htm.2 t v0 h1
    exact ⟨v', h3, (ren_ok 4 h2).1 _ _ _ al1 h4⟩

theorem mFirst_ok {N : Nat} : ∀ {ms : List Memo} {args : List Value} {A : AMem} {r : Nat × List (Nat × Value) × AMem}, mFirst N ms args A = some r → ∃ m ∈ ms, ∃ tbl, r.1 = m.nt ∧ mGo N m args A tbl = some r.2 := by
  intro ms
  induction ms with
  | nil => intro args A r h; cases h
  | cons m ms ih =>
    intro args A r h
    unfold mFirst at h
    split at h
    · rename_i p hp
      injection h with h; subst h
      unfold mOne at hp
      split at hp
      · exact ⟨m, by simp, _, rfl, hp⟩
      · cases hp
    · obtain ⟨m', h1, h2⟩ := ih h
      exact ⟨m', List.mem_cons_of_mem _ h1, h2⟩
theorem mTry_ok {P : Program} {T : Tab} (C : Cert P T) {f : FuncId} {μ : Mu} {B : Nat} {A A' : AMem} {w : World} {args : List Value} {args' : Array Value} {nt : Nat} {ov : List (Nat × Value)} (R : MRel μ B A w.heap)
    (G : GRel μ T.nglob T.anc) (ha : VsRel μ args args'.toList) (hg : mTry T f args A = some (nt, ov, A')) (cs0 : List Frame) :
    ∃ μ' fr2 w2, Mu.Ext A.next μ μ' ∧ MRel μ' B A' w2.heap ∧ A.next ≤ A'.next ∧ (∀ b, b < A.next → A'.heap.get b = A.heap.get b) ∧ (fr2.fn = f ∧ fr2.kind = .normal ∧ fr2.roundOf = none ∧ fr2.defers = [] ∧ fr2.mode = .returning) ∧
      TRel μ' nt [] ov fr2.tmps ∧ Steps P (lone (Frame.enter P f args' .normal) cs0 w) (lone fr2 cs0 w2) ∧ Below B w w2 := by
  unfold mTry at hg
  split at hg
  · cases hg
  · rename_i ms hms
    obtain ⟨m, h1, tbl, h2, h3⟩ := mFirst_ok hg
    have h2 : nt = m.nt := h2
    subst h2
    exact mGo_ok (C.memo f ms hms m h1) R G.1 ha h3 cs0
end

end Go.Proofs.YthcadcdfoenclaaGreatDoor.Sim
