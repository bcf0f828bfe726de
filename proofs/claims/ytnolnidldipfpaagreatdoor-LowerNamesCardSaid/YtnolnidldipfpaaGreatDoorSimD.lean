/- A machine that runs closed calls of the program by the kernel: one operation of the machine, and that the model does the same. No condition. -/
import Derived.Test.YtnolnidldipfpaaGreatDoorSimC
namespace Go.Proofs.YtnolnidldipfpaaGreatDoor.Sim
open Go Go.RowKit

section
inductive ARes where
  | val (v : Value) (A : AMem)
  | skip (A : AMem)
  | enter (f : FuncId) (args : List Value)
  | defer (d : Deferred)
  | recover
  | panic (v : Value)
  | round (l : Nat) (L : ALoop) (vars : List (Option Value)) (over : List (Nat × Value))
  | branch (rs : List (Value × AMem))

noncomputable def aeval (N : Nat) (vars : List (Option Value)) (over : List (Nat × Value)) (x : Operand) : Option Value :=
  match x with
  | .tmp t => tget vars over t
  | .const v => (match closedB v with | true => some v | false => none)
  | .global g => (match Nat.blt g N with | true => some (.pointer (some ⟨g, 0, none⟩)) | false => none)
  | .func f => some (.func (.func f) #[] #[])

def RhoRel (μ : Mu) (ev : Operand → Option Value) (ρ : Operand → Value) : Prop := ∀ x v, ev x = some v → VRel μ v (ρ x)
def GRel (μ : Mu) (N : Nat) : Prop := ∀ g, g < N → μ g = some ⟨g, 0, none, 0⟩

noncomputable def evL (ev : Operand → Option Value) (xs : List Operand) : Option (List Value) :=
  List.rec (motive := fun _ => Option (List Value)) (some []) (fun x _ r => match ev x, r with | some v, some l => some (v :: l) | _, _ => none) xs
theorem evL_cons (ev : Operand → Option Value) (x : Operand) (xs : List Operand) : evL ev (x :: xs) = match ev x, evL ev xs with | some v, some l => some (v :: l) | _, _ => none := rfl
theorem evL_ok {μ : Mu} {ev : Operand → Option Value} {ρ : Operand → Value} (h : RhoRel μ ev ρ) : ∀ {xs : List Operand} {vs : List Value}, evL ev xs = some vs → VsRel μ vs (xs.map ρ) := by
  intro xs
  induction xs with
  | nil => intro vs h; injection h with h; subst h; exact .nil
  | cons x xs ih =>
    intro vs hv
    rw [evL_cons] at hv
    split at hv
    · rename_i v l hx hl
      injection hv with hv; subst hv
      exact .cons (h x v hx) (ih hl)
    · cases hv
noncomputable def evP (ev : Operand → Option Value) (xs : List (Nat × Operand)) : Option (List (Nat × Value)) :=
  List.rec (motive := fun _ => Option (List (Nat × Value))) (some []) (fun x _ r => match ev x.2, r with | some v, some l => some ((x.1, v) :: l) | _, _ => none) xs
theorem evP_cons (ev : Operand → Option Value) (x : Nat × Operand) (xs : List (Nat × Operand)) : evP ev (x :: xs) = match ev x.2, evP ev xs with | some v, some l => some ((x.1, v) :: l) | _, _ => none := rfl
theorem evP_ok {μ : Mu} {ev : Operand → Option Value} {ρ : Operand → Value} (h : RhoRel μ ev ρ) : ∀ {xs : List (Nat × Operand)} {vs : List (Nat × Value)}, evP ev xs = some vs → PartsRel μ vs (xs.map fun (i, x) => (i, ρ x)) := by
  intro xs
  induction xs with
  | nil => intro vs h; injection h with h; subst h; exact .nil
  | cons x xs ih =>
    intro vs hv
    rw [evP_cons] at hv
    split at hv
    · rename_i v l hx hl
      injection hv with hv; subst hv
      exact .cons ⟨rfl, h _ v hx⟩ (ih hl)
    · cases hv
def evO (ev : Operand → Option Value) (x : Option Operand) : Option (Option Value) :=
  match x with
  | none => some none
  | some x => (match ev x with | some v => some (some v) | none => none)
theorem evO_ok {μ : Mu} {ev : Operand → Option Value} {ρ : Operand → Value} (h : RhoRel μ ev ρ) {x : Option Operand} {v : Option Value} (hv : evO ev x = some v) : OptRel μ v (x.map ρ) := by
  unfold evO at hv
  split at hv
  · injection hv with hv; subst hv; trivial
  · split at hv
    · rename_i w hw
      injection hv with hv; subst hv
      exact h _ _ hw
    · cases hv

noncomputable def tsets (ps : List Tmp) (vs : List Value) (st : List (Option Value) × List (Nat × Value)) (nt : Nat) : Option (List (Option Value) × List (Nat × Value)) :=
  match ps, vs with
  | [], [] => some st
  | p :: ps, v :: vs => (match Nat.blt p nt with | true => tsets ps vs (tset st.1 st.2 p v) nt | false => none)
  | _, _ => none

noncomputable def rFunc (T : Tab) (A : AMem) (f : Value) (args : List Value) : Option ARes :=
  match f with
  | .func (.func fid) ⟨first⟩ ⟨captured⟩ => (match T.fn.get fid with
      | some _ => some (.enter fid (app (app first args) captured))
      | none => (match T.ext.get fid with | some k => (match extR A k (app (app first args) captured) with | some r => some (.val r.1 r.2) | none => none) | none => none))
  | .func (.yield l) ⟨[]⟩ ⟨[]⟩ =>
    (match A.heap.get l with
      | some (.loop L) => (match tsets L.params args (L.vars, L.over) L.nt with | some (vs, ov) => some (.round l L vs ov) | none => none)
      | _ => none)
  | _ => none
noncomputable def rInvoke (T : Tab) (recv : Value) (name : String) (args : List Value) : Option ARes :=
  match recv with
  | .iface t v =>
    (match T.meth.get t with
      | some l => (match methOf l name with | some f => (match T.fn.get f with | some _ => some (.enter f (v :: args)) | none => none) | none => none)
      | none => none)
  | _ => none
def rv (r : Option (Value × AMem)) : Option ARes := match r with | some (v, A) => some (.val v A) | none => none
def rp (A : AMem) (r : Option Value) : Option ARes := match r with | some v => some (.val v A) | none => none
def ru (r : Option AMem) : Option ARes := match r with | some A => some (.skip A) | none => none
noncomputable def opClear (T : Tab) (A : AMem) (ats : List TypeId) (x : Value) : Option (Value × AMem) :=
  match ats, x with
  | t :: _, .map (some r) => (match T.ty.get t, A.heap.get r with | some _, some (.map _ cl) => some (.tuple ⟨[]⟩, aset A r (.map [] cl)) | _, _ => none)
  | t :: _, .map none => (match T.ty.get t with | some _ => some (.tuple ⟨[]⟩, A) | _ => none)
  | t :: _, .slice _ 0 _ => (match T.ty.get t with | some _ => some (.tuple ⟨[]⟩, A) | _ => none)
  | t :: _, .slice (some ⟨b, off, none⟩) n _ =>
    (match T.ty.get t with
      | some { desc := .slice el, .. } => (match T.ty.get el with | some te => (match astore A b off (reps te.zero.cells.toList n) with | some A' => some (.tuple ⟨[]⟩, A') | none => none) | none => none)
      | _ => none)
  | _, _ => none
noncomputable def rBuiltin (T : Tab) (A : AMem) (b : Builtin) (ats : List TypeId) (args : List Value) : Option ARes :=
  match b, args with
  | .append, [s, x] => (match x with | .int k n => rv (opAppendZ T A ats s (.int k n)) | x => rv (opAppend T A ats s x))
  | .len, [x] => rp A (opLen T A ats x)
  | .cap, [x] => rp A (opCap T A ats x)
  | .copy, [d, s] => rv (opCopy T A ats d s)
  | .min, xs => rp A (opMinMax false xs)
  | .max, xs => rp A (opMinMax true xs)
  | .clear, [x] => rv (opClear T A ats x)
  | .unsafeSliceData, [x] => rp A (opSliceData x)
  | .unsafeString, [p, n] => rv (opUStr T A ats p n)
  | .recover, _ => some .recover
  | _, _ => none
noncomputable def rCall (T : Tab) (A : AMem) (ev : Operand → Option Value) (c : Call) : Option ARes :=
  match evL ev c.args.toList with
  | some args =>
    match c.callee with
    | .builtin b => rBuiltin T A b c.argTypes.toList args
    | .value f => (match ev f with | some fv => rFunc T A fv args | none => none)
    | .invoke recv name => (match ev recv with | some x => rInvoke T x name args | none => none)
  | none => none
noncomputable def rDefer (ev : Operand → Option Value) (c : Call) : Option ARes :=
  match evL ev c.args.toList, c.callee with
  | some args, .value f =>
    (match ev f with
      | some (.func (.func fid) ⟨first⟩ captured) => some (.defer { target := .fn (.func fid) captured, args := ⟨app first args⟩ })
      | _ => none)
  | _, _ => none

noncomputable def rPanic (x : Value) : Option ARes := match x with | .iface t v => some (.panic (.iface t v)) | _ => none
def rNil (A : AMem) (x : Value) : Option ARes :=
  match x with
  | .pointer (some a) => some (.val (.pointer (some a)) A)
  | .func (.func f) a b => some (.val (.func (.func f) a b) A)
  | .func (.yield l) a b => some (.val (.func (.yield l) a b) A)
  | .iface t v => some (.val (.iface t v) A)
  | _ => none
noncomputable def rFunV (A : AMem) (fn : Fn) (first captured : List Value) : Option ARes :=
  match fn with
  | .func f => some (.val (.func (.func f) ⟨first⟩ ⟨captured⟩) A)
  | _ => none
def rPick (A : AMem) (c a b : Option Value) : Option ARes := match c with | some (.bool true) => rp A a | some (.bool false) => rp A b | _ => none

noncomputable def aoBox (A : AMem) (ev : Operand → Option Value) (x : Operand) : Option ARes := match ev x with | some v => rv (opBox A v) | none => none
noncomputable def aoBuild (T : Tab) (A : AMem) (ev : Operand → Option Value) (t : TypeId) (ps : Array (Nat × Operand)) : Option ARes := match evP ev ps.toList with | some l => rp A (opBuild T t l) | none => none
noncomputable def aoBuildSlice (T : Tab) (A : AMem) (ev : Operand → Option Value) (t : TypeId) (n : Nat) (ps : Array (Nat × Operand)) : Option ARes := match evP ev ps.toList with | some l => rv (opBuildSlice T A t n l) | none => none
noncomputable def aoLoad (T : Tab) (A : AMem) (ev : Operand → Option Value) (t : TypeId) (a : Operand) : Option ARes := match ev a with | some v => rv (opLoad T A t v) | none => none
noncomputable def aoStore (T : Tab) (A : AMem) (ev : Operand → Option Value) (t : TypeId) (a : Operand) (x : Operand) : Option ARes := match ev a, ev x with | some v, some u => ru (opStore T A t v u) | _, _ => none
noncomputable def aoNilCheck (A : AMem) (ev : Operand → Option Value) (x : Operand) : Option ARes := match ev x with | some v => rNil A v | none => none
noncomputable def aoBinOp (T : Tab) (A : AMem) (ev : Operand → Option Value) (op : BinOp) (t : TypeId) (x : Operand) (y : Operand) : Option ARes := match ev x, ev y with | some v, some u => rp A (opBin T A op t x y v u) | _, _ => none
noncomputable def aoUnOp (A : AMem) (ev : Operand → Option Value) (op : UnOp) (x : Operand) : Option ARes := match ev x with | some v => rp A (opUn op v) | none => none
noncomputable def aoConvert (T : Tab) (A : AMem) (ev : Operand → Option Value) (s : TypeId) (d : TypeId) (x : Operand) : Option ARes := match ev x with | some v => rv (opConvert T A s d v) | none => none
noncomputable def aoMakeInterface (T : Tab) (A : AMem) (ev : Operand → Option Value) (t : TypeId) (x : Operand) : Option ARes := match ev x with | some v => rp A (opIface T t v) | none => none
noncomputable def aoMakeFunc (A : AMem) (ev : Operand → Option Value) (fn : Fn) (first : Array Operand) (captured : Array Operand) : Option ARes := match evL ev first.toList, evL ev captured.toList with | some a, some b => rFunV A fn a b | _, _ => none
noncomputable def aoMakeMap (T : Tab) (A : AMem) (ev : Operand → Option Value) (t : TypeId) (r : Option Operand) : Option ARes := match evO ev r with | some h => rv (opMakeMap T A t h) | none => none
noncomputable def aoMakeSlice (T : Tab) (A : AMem) (ev : Operand → Option Value) (t : TypeId) (l : Operand) (c : Operand) : Option ARes := match ev l, ev c with | some v, some u => rv (opMakeSliceX T A t v u) | _, _ => none
noncomputable def aoSlice (T : Tab) (A : AMem) (ev : Operand → Option Value) (t : TypeId) (x : Operand) (lo : Option Operand) (hi : Option Operand) : Option ARes := match ev x, evO ev lo, evO ev hi with | some v, some l, some h => rp A (opSlice T A t v l h) | _, _, _ => none
noncomputable def aoSlice3 (T : Tab) (A : AMem) (ev : Operand → Option Value) (t : TypeId) (x : Operand) (lo : Option Operand) (hi : Operand) (mx : Operand) : Option ARes := match ev x, evO ev lo, ev hi, ev mx with | some v, some l, some h, some m => rp A (opSlice3 T A t v l h m) | _, _, _, _ => none
noncomputable def aoFieldAddr (T : Tab) (A : AMem) (ev : Operand → Option Value) (t : TypeId) (x : Operand) (f : Nat) : Option ARes := match ev x with | some v => rp A (opFieldAddr T t v f) | none => none
noncomputable def aoField (T : Tab) (A : AMem) (ev : Operand → Option Value) (t : TypeId) (x : Operand) (f : Nat) : Option ARes := match ev x with | some v => rp A (opField T t v f) | none => none
noncomputable def aoIndexAddr (T : Tab) (A : AMem) (ev : Operand → Option Value) (t : TypeId) (x : Operand) (i : Operand) : Option ARes := match ev x, ev i with | some v, some u => rp A (opIndexAddr T t v u) | _, _ => none
noncomputable def aoIndex (T : Tab) (A : AMem) (ev : Operand → Option Value) (t : TypeId) (x : Operand) (i : Operand) : Option ARes := match ev x, ev i with | some v, some u => rp A (opIndex T t v u) | _, _ => none
noncomputable def aoLookup (T : Tab) (A : AMem) (ev : Operand → Option Value) (t : TypeId) (x : Operand) (i : Operand) (ok : Bool) : Option ARes := match ev x, ev i with | some v, some u => rp A (opLookupX T A t v u ok) | _, _ => none
noncomputable def aoMapUpdate (T : Tab) (A : AMem) (ev : Operand → Option Value) (t : TypeId) (m : Operand) (k : Operand) (x : Operand) : Option ARes := match ev m, ev k, ev x with | some v, some u, some z => ru (opMapUpdateX T A t v u z) | _, _, _ => none
noncomputable def aoMapEntry (T : Tab) (A : AMem) (ev : Operand → Option Value) (t : TypeId) (m : Operand) (k : Operand) : Option ARes := match ev m, ev k with | some v, some u => rv (opMapEntry T A t v u) | _, _ => none
noncomputable def aoEntryStore (A : AMem) (ev : Operand → Option Value) (m : Operand) (s : Operand) (x : Operand) : Option ARes := match ev m, ev s, ev x with | some v, some u, some z => ru (opEntryStore A v u z) | _, _, _ => none
noncomputable def aoRange (T : Tab) (A : AMem) (ev : Operand → Option Value) (t : TypeId) (x : Operand) : Option ARes := match ev x with | some v => rv (opRange T A t v) | none => none
noncomputable def aoNext (A : AMem) (ev : Operand → Option Value) (it : Operand) : Option ARes := match ev it with | some v => rv (opNextStr A v) | none => none
noncomputable def aoNextMap (A : AMem) (ev : Operand → Option Value) (it : Operand) : Option ARes := match ev it with | some v => (match opNextMap A v with | some rs => some (.branch rs) | none => none) | none => none
noncomputable def aoEntry (A : AMem) (ev : Operand → Option Value) (it : Operand) : Option ARes := match ev it with | some v => rp A (opEntry A v) | none => none
noncomputable def aoTypeAssert (T : Tab) (A : AMem) (ev : Operand → Option Value) (x : Operand) (t : TypeId) (ok : Bool) : Option ARes := match ev x with | some v => rp A (opAssert T v t ok) | none => none
noncomputable def aoExtract (A : AMem) (ev : Operand → Option Value) (x : Operand) (i : Nat) : Option ARes := match ev x with | some v => rp A (opExtract v i) | none => none
noncomputable def aoPanic (ev : Operand → Option Value) (x : Operand) : Option ARes := match ev x with | some v => rPanic v | none => none
noncomputable def aop (T : Tab) (A : AMem) (ev : Operand → Option Value) (o : Op) : Option ARes :=
  match o with
  | .move x | .assign x => rp A (ev x)
  | .pick c a b => rPick A (ev c) (ev a) (ev b)
  | .alloc t => rv (opAlloc T A t)
  | .box _ x => aoBox A ev x
  | .build t ps => aoBuild T A ev t ps
  | .buildSlice t n ps => aoBuildSlice T A ev t n ps
  | .load t a => aoLoad T A ev t a
  | .store t a x => aoStore T A ev t a x
  | .nilCheck x => aoNilCheck A ev x
  | .binOp op t x y _ => aoBinOp T A ev op t x y
  | .unOp op _ x => aoUnOp A ev op x
  | .convert s d x => aoConvert T A ev s d x
  | .makeInterface t x => aoMakeInterface T A ev t x
  | .makeFunc fn first captured => aoMakeFunc A ev fn first captured
  | .makeMap t r => aoMakeMap T A ev t r
  | .makeSlice t l c => aoMakeSlice T A ev t l c
  | .slice t x lo hi none => aoSlice T A ev t x lo hi
  | .slice t x lo (some hi) (some mx) => aoSlice3 T A ev t x lo hi mx
  | .fieldAddr t x f => aoFieldAddr T A ev t x f
  | .field t x f => aoField T A ev t x f
  | .indexAddr t x i => aoIndexAddr T A ev t x i
  | .index t x i => aoIndex T A ev t x i
  | .lookup t x i ok => aoLookup T A ev t x i ok
  | .mapUpdate t m k x | .insert t m k x => aoMapUpdate T A ev t m k x
  | .mapEntry t m k => aoMapEntry T A ev t m k
  | .entryStore _ m s x => aoEntryStore A ev m s x
  | .range t x => aoRange T A ev t x
  | .next it true => aoNext A ev it
  | .next it false => aoNextMap A ev it
  | .entry it => aoEntry A ev it
  | .typeAssert x _ t ok => aoTypeAssert T A ev x t ok
  | .extract x i => aoExtract A ev x i
  | .call c => rCall T A ev c
  | .defer c => rDefer ev c
  | .panic x => aoPanic ev x
  | _ => none

noncomputable def alop (T : Tab) (ev : Operand → Option Value) (o : Op) : Option (AObj × (Nat → Value)) :=
  match o with
  | .alloc t => alAlloc T t
  | .box _ x => (match ev x with | some v => alBox v | none => none)
  | .buildSlice t n ps => (match evP ev ps.toList with | some l => alBuildSlice T t n l | none => none)
  | .makeMap t r => (match evO ev r with | some h => alMakeMap T t h | none => none)
  | .makeSlice t l c => (match ev l, ev c with | some v, some u => alMakeSlice T t v u | _, _ => none)
  | _ => none

def NextVal (P : Program) (μ : Mu) (B : Nat) (A : AMem) (w : World) (s : Sem Next) (v : Value) (A' : AMem) : Prop :=
  ∃ v' w' μ', s.run P w = .ok (.value v') w' ∧ Mu.Ext A.next μ μ' ∧ MRel μ' B A' w'.heap ∧ VRel μ' v v' ∧ Below B w w' ∧ Keep μ A A'

def ResOk (P : Program) (T : Tab) (μ : Mu) (B : Nat) (A : AMem) (w : World) (s : Sem Next) : ARes → Prop
  | .val v A' => NextVal P μ B A w s v A'
  | .skip A' => ∃ w', s.run P w = .ok .skip w' ∧ MRel μ B A' w'.heap ∧ Below B w w' ∧ Keep μ A A'
  | .enter f args => ∃ args' : Array Value, s.run P w = .ok (.enter f args') w ∧ VsRel μ args args'.toList ∧ ∃ a, T.fn.get f = some a
  | .defer d => ∃ d', s.run P w = .ok (.defer d') w ∧ DefRel μ d d'
  | .recover => s.run P w = .ok .recover w
  | .panic v => ∃ v', s.run P w = .halt (.panic v') w ∧ VRel μ v v'
  | .round l L vars over => ∃ (e : Ent) (tm : Array Value), μ l = some e ∧ A.heap.get l = some (.loop L) ∧ s.run P w = .ok (.round e.blk L.fn tm L.assign L.body) w ∧ TRel μ L.nt vars over tm
  | .branch rs => ∃ r ∈ rs, NextVal P μ B A w s r.1 r.2

section
variable {P : Program} {T : Tab} {μ : Mu} {B : Nat} {A : AMem} {w : World}

theorem rv_ok {r : Option (Value × AMem)} {x : ARes} (h : rv r = some x) {s : Sem Value} (hs : ∀ y, r = some y → Ok P μ B A w s y.1 y.2) : ResOk P T μ B A w (do pure (.value (← s))) x := by
  unfold rv at h
  split at h
  · injection h with h; subst h
    obtain ⟨v', w', μ', h1, h2⟩ := hs _ rfl
    exact ⟨v', w', μ', by simp [h1], h2⟩
  · cases h
theorem rp_ok (R : MRel μ B A w.heap) {r : Option Value} {x : ARes} (h : rp A r = some x) {s : Sem Value} (hs : ∀ y, r = some y → ∃ v', s.run P w = .ok v' w ∧ VRel μ y v') : ResOk P T μ B A w (do pure (.value (← s))) x := by
  unfold rp at h
  split at h
  · injection h with h; subst h
    obtain ⟨v', h1, h2⟩ := hs _ rfl
    exact ⟨v', w, μ, by simp [h1], Mu.Ext.refl _ μ, R, h2, Below.refl _ _, Keep.refl _ _⟩
  · cases h
theorem ru_ok {r : Option AMem} {x : ARes} (h : ru r = some x) {s : Sem Unit} (hs : ∀ y, r = some y → ∃ w', s.run P w = .ok () w' ∧ MRel μ B y w'.heap ∧ Below B w w' ∧ Keep μ A y) : ResOk P T μ B A w (do s; pure .skip) x := by
  unfold ru at h
  split at h
  · injection h with h; subst h
    obtain ⟨w', h1, h2⟩ := hs _ rfl
    exact ⟨w', by simp [h1], h2⟩
  · cases h

theorem tsets_ok : ∀ {ps : List Tmp} {vs vs' : List Value} {st r : List (Option Value) × List (Nat × Value)} {nt : Nat} {tm : Array Value}, VsRel μ vs vs' → tsets ps vs st nt = some r → TRel μ nt st.1 st.2 tm →
    ps.length = vs'.length ∧ TRel μ nt r.1 r.2 ((ps.zip vs').foldl (fun tmps (p : Tmp × Value) => tmps.setIfInBounds p.1 p.2) tm) := by
  intro ps
  induction ps with
  | nil =>
    intro vs vs' st r nt tm hv h ht
    cases vs with
    | nil => simp only [tsets] at h; injection h with h; subst h; rw [hv.nil_left]; exact ⟨rfl, ht⟩
    | cons v vs => simp only [tsets] at h; cases h
  | cons p ps ih =>
    intro vs vs' st r nt tm hv h ht
    cases vs with
    | nil => simp only [tsets] at h; cases h
    | cons v vs =>
      obtain ⟨v', vs'', rfl, h1, h2⟩ := hv.cons_left
      simp only [tsets] at h
      split at h
      · rename_i hlt
        have := ih h2 h (ht.set (blt_lt hlt) h1)
        exact ⟨by simp [this.1], by simpa using this.2⟩
      · cases h

theorem run_callFunc (C : Cert P T) {f : FuncId} {a : AFn} (h : T.fn.get f = some a) (args : Array Value) (w : World) : (callFunc f args).run P w = .ok (.enter f args) w := by
  obtain ⟨fn, h1, h2, _, _, h3⟩ := C.fn f a h
  have h4 : ¬ fn.name = "runtime.NumGoroutine" := by simpa using h3
  simp [callFunc, h1, h2, h4]

theorem of_func {fid : FuncId} {xs ys : List Value} {v : Value} (h : VRel μ (.func (.func fid) ⟨xs⟩ ⟨ys⟩) v) : ∃ xs' ys' : Array Value, v = .func (.func fid) xs' ys' ∧ VsRel μ xs xs'.toList ∧ VsRel μ ys ys'.toList := by
  cases h with
  | func _ hy hn hm hx hz =>
    exact ⟨_, _, rfl, ⟨by simpa using hn, fun i x y p q => hx i x y (by simpa using p) (by simpa using q)⟩, ⟨by simpa using hm, fun i x y p q => hz i x y (by simpa using p) (by simpa using q)⟩⟩

theorem rFunc_ok (C : Cert P T) (R : MRel μ B A w.heap) {f f' : Value} (hf : VRel μ f f') {args args' : List Value} (ha : VsRel μ args args') {x : ARes} (h : rFunc T A f args = some x) :
    ∃ d : Deferred, (Deferred.ofValue f' args'.toArray).run P w = .ok d w ∧ ResOk P T μ B A w (invoke d.target d.args) x := by
  unfold rFunc at h
  split at h
  · rename_i fid first captured
    obtain ⟨xs', ys', rfl, h1, h2⟩ := of_func hf
    split at h
    · rename_i a hfn
      injection h with h; subst h
      refine ⟨_, rfl, ?_⟩
      refine ⟨xs' ++ args'.toArray ++ ys', ?_, ?_, a, hfn⟩
      · simp only [invoke]; exact run_callFunc C hfn _ _
      · simp only [app_eq, Array.toList_append]
        exact (h1.app (by simpa using ha)).app h2
    · split at h
      · rename_i k hk
        split at h
        · rename_i r hv
          injection h with h; subst h
          have hargs : VsRel μ (app (app first args) captured) (xs'.toList ++ args' ++ ys'.toList) := by
            simp only [app_eq]
            exact (h1.app ha).app h2
          obtain ⟨v', w', q1, q2, q3, q4, q5⟩ := extR_ok C hk R hargs hv
          refine ⟨_, rfl, v', w', μ, ?_, Mu.Ext.refl _ μ, q2, q3, q4, q5⟩
          simp only [invoke]
          have e : (xs' ++ args'.toArray ++ ys') = (xs'.toList ++ args' ++ ys'.toList).toArray := by apply Array.ext'; simp
          rw [e]; exact q1
        · cases h
      · cases h
  · rename_i l
    split at h
    · rename_i L ho
      split at h
      · rename_i vs ov hts
        injection h with h; subst h
        have : ∃ e, μ l = some e ∧ f' = .func (.yield e.blk) #[] #[] := by
          cases hf with
          | func fn hy hn hm hx hz => exact absurd rfl (hy l)
          | yield he => exact ⟨_, he, rfl⟩
        obtain ⟨e, he, rfl⟩ := this
        refine ⟨_, rfl, e, ?_⟩
        obtain ⟨hg, hB, tm, ed, h1, h2, h3⟩ := R.obj l _ e ho he
        obtain ⟨k1, k2⟩ := tsets_ok ha hts h2
        refine ⟨_, he, ho, ?_, k2⟩
        have hg1 := run_getObj (P := P) (w := w) h3 (by intro c t f hc; cases hc)
        have hsz : ¬ (#[] ++ args'.toArray : Array Value).size ≠ L.params.toArray.size := by simp [k1]
        simp only [invoke, Instr.yield, Instr.getLoop, Sem.run_bind, hg1, Result.andThen_ok, Sem.run_pure]
        rw [if_neg hsz]
        simp only [Sem.run_pure]
        congr 2
        rw [← Array.foldl_toList]
        simp
      · cases h
    · cases h
  · cases h

theorem opClear_ok (C : Cert P T) (R : MRel μ B A w.heap) {ats : List TypeId} {x x' : Value} (hx : VRel μ x x') {r : Value × AMem} (h : opClear T A ats x = some r) (rt : TypeId) : Ok P μ B A w (Builtin.clear_ ats.toArray rt #[x']) r.1 r.2 := by
  unfold opClear at h
  split at h
  · rename_i t rest rr
    split at h
    · rename_i ti es cl ht ho
      injection h with h; subst h
      cases hx with
      | @map _ e he =>
      have hu := C.underlying ht w
      obtain ⟨hg, hB, es', h1, h3⟩ := R.obj rr _ e ho he
      have hg1 := run_getObj (P := P) (w := w) h1 (by intro c t f hc; cases hc)
      obtain ⟨es'', k1, _, k3, k4, k5, k6⟩ := mapSet_ok (P := P) (cl2 := cl) R he ho (es2 := []) (es2' := #[]) .nil
      refine ⟨.tuple #[], _, μ, ?_, Mu.Ext.refl _ μ, k4, VsRel.tuple .nil, k6, k5⟩
      simp only [Builtin.clear_, List.getElem?_toArray, List.getElem?_cons_zero, Sem.run_bind, hu, Result.andThen_ok]
      cases hd : ti.desc <;> simp [hg1, k3]
    · cases h
  · rename_i t rest
    split at h
    · rename_i ti ht
      injection h with h; subst h
      cases hx
      have hu := C.underlying ht w
      refine ⟨.tuple #[], w, μ, ?_, Mu.Ext.refl _ μ, R, VsRel.tuple .nil, Below.refl _ _, Keep.refl _ _⟩
      simp only [Builtin.clear_, List.getElem?_toArray, List.getElem?_cons_zero, Sem.run_bind, hu, Result.andThen_ok]
      cases hd : ti.desc <;> simp
    · cases h
  · rename_i t rest a c
    split at h
    · rename_i ti ht
      injection h with h; subst h
      have hu := C.underlying ht w
      have hx' : ∃ a' c', x' = .slice a' 0 c' := by
        cases hx with
        | nilslice => exact ⟨_, _, rfl⟩
        | slice he hg => exact ⟨_, _, rfl⟩
        | gslice he hg hl hc hb => exact ⟨_, _, rfl⟩
        | zslice he => exact ⟨_, _, rfl⟩
      obtain ⟨a', c', rfl⟩ := hx'
      refine ⟨.tuple #[], w, μ, ?_, Mu.Ext.refl _ μ, R, VsRel.tuple .nil, Below.refl _ _, Keep.refl _ _⟩
      simp only [Builtin.clear_, List.getElem?_toArray, List.getElem?_cons_zero, Sem.run_bind, hu, Result.andThen_ok]
      cases hd : ti.desc <;> cases a' <;> simp
    · cases h
  · rename_i t rest b off n c hn
    split at h
    case h_2 => cases h
    rename_i el _ _ _ _ ht
    split at h
    case h_2 => cases h
    rename_i te hte
    split at h
    case h_2 => cases h
    rename_i A' hst
    injection h with h; subst h
    have hu := C.underlying ht w
    have hz := C.zeroValue hte w
    have hcl := (closedB_rel (C.closed hte) μ).cells
    have hrel : VsRel μ (reps te.zero.cells.toList n) (Builtin.zeroCells te.zero.cells n).toList := by
      unfold Builtin.zeroCells
      rw [reps_eq rfl]
      simpa using reps_rel hcl n
    have n0 : ∃ m, n = m + 1 := by
      cases n with
      | zero => first | exact (hn _ rfl).elim | exact (hn _).elim | exact (hn rfl).elim
      | succ m => exact ⟨m, rfl⟩
    obtain ⟨m, rfl⟩ := n0
    have fin : ∀ {e : Ent} {c' : Nat}, μ b = some e → Ok P μ B A w (Builtin.clear_ (t :: rest).toArray rt #[.slice (some ⟨e.blk, e.dl + off, none⟩) (m + 1) c']) (.tuple ⟨[]⟩) A' := by
      intro e c' he
      obtain ⟨w', k1, k2, k3, k4, _⟩ := astore_spec P R he hrel hst
      refine ⟨.tuple #[], w', μ, ?_, Mu.Ext.refl _ μ, k2, VsRel.tuple .nil, k3, k4⟩
      simp only [Builtin.clear_, List.getElem?_toArray, List.getElem?_cons_zero, Sem.run_bind, hu, Result.andThen_ok, hz]
      simp [k1]
    cases hx with
    | slice he hg => exact fin he
    | gslice he hg hl hc hb => exact fin he
  · cases h

theorem rBuiltin_ok (C : Cert P T) (R : MRel μ B A w.heap) {b : Builtin} {ats : List TypeId} {args args' : List Value} (ha : VsRel μ args args') {x : ARes} (h : rBuiltin T A b ats args = some x) (rt : TypeId) (consts : Array Bool) :
    ResOk P T μ B A w (builtin b ats.toArray rt consts args'.toArray) x := by
  unfold rBuiltin at h
  split at h
  · rename_i s x0
    obtain ⟨s', l, rfl, h1, ht⟩ := ha.cons_left
    obtain ⟨x0', l', rfl, h2, ht⟩ := ht.cons_left
    rw [ht.nil_left]
    split at h
    · exact rv_ok h fun y hy => opAppendZ_ok C R h1 h2 hy rt
    · exact rv_ok h fun y hy => opAppend_ok C R h1 h2 hy rt
  · rename_i x0
    obtain ⟨x0', l', rfl, h2, ht⟩ := ha.cons_left
    rw [ht.nil_left]
    exact rp_ok R h fun y hy => opLen_ok C R h2 hy rt
  · rename_i x0
    obtain ⟨x0', l', rfl, h2, ht⟩ := ha.cons_left
    rw [ht.nil_left]
    exact rp_ok R h fun y hy => opCap_ok C R h2 hy rt
  · rename_i d s
    obtain ⟨d', l, rfl, h1, ht⟩ := ha.cons_left
    obtain ⟨s', l', rfl, h2, ht⟩ := ht.cons_left
    rw [ht.nil_left]
    exact rv_ok h fun y hy => opCopy_ok C R h1 h2 hy rt
  · exact rp_ok R h fun y hy => opMin_ok ha hy _ rt w
  · exact rp_ok R h fun y hy => opMax_ok ha hy _ rt w
  · rename_i x0
    obtain ⟨x0', l', rfl, h2, ht⟩ := ha.cons_left
    rw [ht.nil_left]
    exact rv_ok h fun y hy => opClear_ok C R h2 hy rt
  · rename_i x0
    obtain ⟨x0', l', rfl, h2, ht⟩ := ha.cons_left
    rw [ht.nil_left]
    exact rp_ok R h fun y hy => opSliceData_ok h2 hy ats.toArray rt w
  · rename_i p n
    obtain ⟨p', l, rfl, h1, ht⟩ := ha.cons_left
    obtain ⟨n', l', rfl, h2, ht⟩ := ht.cons_left
    rw [ht.nil_left]
    exact rv_ok h fun y hy => opUStr_ok C R h1 h2 hy rt
  · injection h with h; subst h; rfl
  · cases h

theorem ResOk.bind_ok {s : Sem Next} {d : Deferred} {r : Sem Deferred} (hr : r.run P w = .ok d w) {f : Deferred → Sem Next} {x : ARes} (h : ResOk P T μ B A w (f d) x) (hs : s = r >>= f) : ResOk P T μ B A w s x := by
  subst hs
  have e : ∀ w0, w0 = w → (r >>= f).run P w0 = (f d).run P w0 := by intro w0 hw; subst hw; simp [hr]
  cases x with
  | val v A' => obtain ⟨v', w', μ', h1, h2⟩ := h; exact ⟨v', w', μ', by rw [e w rfl]; exact h1, h2⟩
  | skip A' => obtain ⟨w', h1, h2⟩ := h; exact ⟨w', by rw [e w rfl]; exact h1, h2⟩
  | enter f' args => obtain ⟨a', h1, h2⟩ := h; exact ⟨a', by rw [e w rfl]; exact h1, h2⟩
  | defer d' => obtain ⟨a', h1, h2⟩ := h; exact ⟨a', by rw [e w rfl]; exact h1, h2⟩
  | recover => show _ = _; rw [e w rfl]; exact h
  | panic v => obtain ⟨a', h1, h2⟩ := h; exact ⟨a', by rw [e w rfl]; exact h1, h2⟩
  | round l L vs ov => obtain ⟨a', tm, h1, h2, h3, h4⟩ := h; exact ⟨a', tm, h1, h2, by rw [e w rfl]; exact h3, h4⟩
  | branch rs => obtain ⟨r', hm, v', w', μ', h1, h2⟩ := h; exact ⟨r', hm, v', w', μ', by rw [e w rfl]; exact h1, h2⟩

theorem rCall_ok (C : Cert P T) (R : MRel μ B A w.heap) {ev : Operand → Option Value} {ρ : Operand → Value} (hρ : RhoRel μ ev ρ) {c : Call} {x : ARes} (h : rCall T A ev c = some x) (rt : TypeId) :
    ResOk P T μ B A w (do let d ← resolve ρ c rt; invoke d.target d.args) x := by
  unfold rCall at h
  split at h
  case h_2 => cases h
  rename_i args hargs
  have ha := evL_ok hρ hargs
  have harr : c.args.map ρ = (c.args.toList.map ρ).toArray := by apply Array.ext'; simp
  split at h
  · rename_i b hb
    refine ResOk.bind_ok (r := resolve ρ c rt) (d := { target := .builtin b c.argTypes rt (c.args.map fun | .const _ => true | _ => false), args := c.args.map ρ }) ?_ ?_ rfl
    · simp only [resolve, hb]; rfl
    · simp only [invoke, harr]
      have := rBuiltin_ok (P := P) C R ha h rt (c.args.map fun | .const _ => true | _ => false)
      simpa using this
  · rename_i f hc
    split at h
    case h_2 => cases h
    rename_i fv hfv
    obtain ⟨d, h1, h2⟩ := rFunc_ok C R (hρ _ _ hfv) ha h
    refine ResOk.bind_ok (r := resolve ρ c rt) (d := d) ?_ h2 rfl
    simp only [resolve, hc, harr]; exact h1
  · rename_i recv name hc
    split at h
    case h_2 => cases h
    rename_i rx hrx
    unfold rInvoke at h
    split at h
    case h_2 => cases h
    rename_i t v
    split at h
    case h_2 => cases h
    rename_i l hl
    split at h
    case h_2 => cases h
    rename_i f hm
    split at h
    case h_2 => cases h
    rename_i a hfn
    injection h with h; subst h
    have hv := hρ _ _ hrx
    generalize hrecv : ρ recv = rv' at hv
    cases hv with
    | @iface _ _ v' hv =>
    refine ResOk.bind_ok (r := resolve ρ c rt) (d := { target := .fn (.method name) #[], args := #[.iface t v'] ++ (c.args.toList.map ρ).toArray }) ?_ ?_ rfl
    · simp only [resolve, hc, harr, hrecv, Sem.run_pure]
    · refine ⟨#[v'] ++ (c.args.toList.map ρ).toArray, ?_, ?_, a, hfn⟩
      · have h0 : (#[Value.iface t v'] ++ (c.args.toList.map ρ).toArray)[0]? = some (.iface t v') := by simp
        have h1 : (#[Value.iface t v'] ++ (c.args.toList.map ρ).toArray).extract 1 (#[Value.iface t v'] ++ (c.args.toList.map ρ).toArray).size = (c.args.toList.map ρ).toArray := by
          apply Array.ext'; simp; exact List.take_of_length_le (by simp)
        simp only [invoke, h0, h1, callMethod, Sem.run_bind, run_program, Result.andThen_ok, C.meth t l name f hl hm]
        exact run_callFunc C hfn _ _
      · simp only [Array.toList_append]
        exact .cons hv ha

theorem rDefer_ok {ev : Operand → Option Value} {ρ : Operand → Value} (hρ : RhoRel μ ev ρ) {c : Call} {x : ARes} (h : rDefer ev c = some x) (rt : TypeId) :
    ResOk P T μ B A w (do pure (.defer (← resolve ρ c rt))) x := by
  unfold rDefer at h
  split at h
  case h_2 => cases h
  rename_i args f hargs hc
  have ha := evL_ok hρ hargs
  have harr : c.args.map ρ = (c.args.toList.map ρ).toArray := by apply Array.ext'; simp
  split at h
  case h_2 => cases h
  rename_i fid first captured hf
  injection h with h; subst h
  obtain ⟨captured⟩ := captured
  have hv := hρ _ _ hf
  obtain ⟨xs', ys', he, h1, h2⟩ := of_func hv
  refine ⟨{ target := .fn (.func fid) ys', args := xs' ++ (c.args.toList.map ρ).toArray }, ?_, .fn _ (fun l hc => by cases hc) h2, ?_⟩
  · simp only [resolve, hc, harr, he, Deferred.ofValue, Sem.run_bind, Sem.run_pure, Result.andThen_ok]
  · simp only [app_eq, Array.toList_append]
    exact h1.app ha

set_option maxHeartbeats 2000000 in
theorem alop_ok (C : Cert P T) (hB : B ≤ w.heap.size) {ev : Operand → Option Value} {ρ : Operand → Value} (hρ : RhoRel μ ev ρ) {o : Oper} {ob : AObj} {mk : Nat → Value} (h : alop T ev o.op = some (ob, mk)) :
    ∃ s, execOp ρ o = (do pure (.value (← s))) ∧ AllocOk P μ B w s ob mk := by
  obtain ⟨dst, op, rt, pos, after, guard⟩ := o
  simp only at h
  cases op with
  | alloc t =>
    exact ⟨Instr.alloc t true (.tuple #[]), by unfold execOp; rfl, alAlloc_ok C hB h⟩
  | box t v =>
    have h : (match ev v with | some v => alBox v | none => none) = some (ob, mk) := h
    split at h
    · rename_i v hv; exact ⟨Instr.box t (ρ _), by unfold execOp; rfl, alBox_ok hB (hρ _ _ hv) h⟩
    · cases h
  | buildSlice t n ps =>
    have h : (match evP ev ps.toList with | some l => alBuildSlice T t n l | none => none) = some (ob, mk) := h
    split at h
    · rename_i l hl
      have hp := evP_ok hρ hl
      exact ⟨Instr.buildSlice t n (ps.map fun (i, x) => (i, ρ x)), by unfold execOp; rfl, alBuildSlice_ok C hB (ps' := ps.map fun (i, x) => (i, ρ x)) (by simpa using hp) h⟩
    · cases h
  | makeMap t r =>
    have h : (match evO ev r with | some v => alMakeMap T t v | none => none) = some (ob, mk) := h
    split at h
    · rename_i v hv; exact ⟨Instr.makeMap t (r.map ρ), by unfold execOp; rfl, alMakeMap_ok C hB (evO_ok hρ hv) h⟩
    · cases h
  | makeSlice t a b =>
    have h : (match ev a, ev b with | some v, some u => alMakeSlice T t v u | _, _ => none) = some (ob, mk) := h
    split at h
    · rename_i v u hv hu; exact ⟨Instr.makeSlice t (ρ a) (ρ b), by unfold execOp; rfl, alMakeSlice_ok C hB (hρ _ _ hv) (hρ _ _ hu) h⟩
    · cases h
  | _ => exact absurd h (by unfold alop; exact nofun)

set_option maxHeartbeats 1000000 in
theorem aop_ok (C : Cert P T) (R : MRel μ B A w.heap) {ev : Operand → Option Value} {ρ : Operand → Value} (hρ : RhoRel μ ev ρ) {o : Oper} {x : ARes} (h : aop T A ev o.op = some x) : ResOk P T μ B A w (execOp ρ o) x := by
  have pureV : ∀ {v : Operand} {y : ARes}, rp A (ev v) = some y → ResOk P T μ B A w (pure (.value (ρ v))) y := by
    intro v y hy
    unfold rp at hy
    split at hy
    · rename_i u hu
      injection hy with hy; subst hy
      exact ⟨_, w, μ, rfl, Mu.Ext.refl _ μ, R, hρ _ _ hu, Below.refl _ _, Keep.refl _ _⟩
    · cases hy
  obtain ⟨dst, op, rt, pos, after, guard⟩ := o
  simp only at h
  cases op with
  | move v => exact pureV h
  | assign v => exact pureV h
  | pick c a b =>
    have h : rPick A (ev c) (ev a) (ev b) = some x := h
    unfold rPick at h
    split at h
    · rename_i hc
      have hcv := hρ _ _ hc
      generalize hrc : ρ c = cv at hcv
      cases hcv
      have := pureV h
      simp only [execOp, hrc, asBool]
      exact this
    · rename_i hc
      have hcv := hρ _ _ hc
      generalize hrc : ρ c = cv at hcv
      cases hcv
      have := pureV h
      simp only [execOp, hrc, asBool]
      exact this
    · cases h
  | alloc t => exact rv_ok h fun y hy => opAlloc_ok C R hy
  | box t v =>
    have h : (match ev v with | some v => rv (opBox A v) | none => none) = some x := h
    split at h
    · rename_i u hu; exact rv_ok h fun y hy => opBox_ok R (hρ _ _ hu) hy
    · cases h
  | build t ps =>
    have h : (match evP ev ps.toList with | some l => rp A (opBuild T t l) | none => none) = some x := h
    split at h
    · rename_i l hl
      have hp := evP_ok hρ hl
      refine rp_ok R h fun y hy => opBuild_ok C (ps' := ps.map fun (i, x) => (i, ρ x)) (by simpa using hp) hy w
    · cases h
  | buildSlice t n ps =>
    have h : (match evP ev ps.toList with | some l => rv (opBuildSlice T A t n l) | none => none) = some x := h
    split at h
    · rename_i l hl
      have hp := evP_ok hρ hl
      exact rv_ok h fun y hy => opBuildSlice_ok C R (ps' := ps.map fun (i, x) => (i, ρ x)) (by simpa using hp) hy
    · cases h
  | insert t m k v =>
    have h : (match ev m, ev k, ev v with | some v, some u, some z => ru (opMapUpdateX T A t v u z) | _, _, _ => none) = some x := h
    split at h
    · rename_i a b c ha hb hc; exact ru_ok h fun y hy => opMapUpdateX_ok C R (hρ _ _ ha) (hρ _ _ hb) (hρ _ _ hc) hy
    · cases h
  | load t a =>
    have h : (match ev a with | some v => rv (opLoad T A t v) | none => none) = some x := h
    split at h
    · rename_i u hu; exact rv_ok h fun y hy => opLoad_ok C R (hρ _ _ hu) hy
    · cases h
  | store t a v =>
    have h : (match ev a, ev v with | some v, some u => ru (opStore T A t v u) | _, _ => none) = some x := h
    split at h
    · rename_i a b ha hb; exact ru_ok h fun y hy => opStore_ok C R (hρ _ _ ha) (hρ _ _ hb) hy
    · cases h
  | ready g => cases h
  | waits g => cases h
  | nilCheck v =>
    have h : (match ev v with | some v => rNil A v | none => none) = some x := h
    split at h
    · rename_i u hu
      have hv := hρ _ _ hu
      have fin : ∀ v', ρ v = v' → VRel μ u v' → (execOp ρ ⟨dst, .nilCheck v, rt, pos, after, guard⟩).run P w = .ok (.value v') w → NextVal P μ B A w (execOp ρ ⟨dst, .nilCheck v, rt, pos, after, guard⟩) u A :=
        fun v' _ h2 h3 => ⟨v', w, μ, h3, Mu.Ext.refl _ μ, R, h2, Below.refl _ _, Keep.refl _ _⟩
      unfold rNil at h
      split at h
      · injection h with h; subst h
        generalize hr : ρ v = rv' at hv
        cases hv with
        | ptr he => exact fin _ hr (.ptr he) (by simp [execOp, hr])
      · injection h with h; subst h
        rename_i f a b
        obtain ⟨a⟩ := a; obtain ⟨b⟩ := b
        obtain ⟨xs', ys', hr, h1, h2⟩ := of_func hv
        exact fin _ hr (VsRel.func (by intro l hc; cases hc) h1 h2) (by simp [execOp, hr])
      · injection h with h; subst h
        rename_i l a b
        generalize hr : ρ v = rv' at hv
        cases hv with
        | func fn hy hn hm hx hz => exact absurd rfl (hy l)
        | yield he => exact fin _ hr (.yield he) (by simp [execOp, hr])
      · injection h with h; subst h
        generalize hr : ρ v = rv' at hv
        cases hv with
        | iface _ hv => exact fin _ hr (.iface _ hv) (by simp [execOp, hr])
      · cases h
    · cases h
  | binOp op t a b yt =>
    have h : (match ev a, ev b with | some v, some u => rp A (opBin T A op t a b v u) | _, _ => none) = some x := h
    split at h
    · rename_i u v hu hv; exact rp_ok R h fun y hy => opBin_ok C R (hρ _ _ hu) (hρ _ _ hv) hy
    · cases h
  | unOp op t a =>
    have h : (match ev a with | some v => rp A (opUn op v) | none => none) = some x := h
    split at h
    · rename_i u hu; exact rp_ok R h fun y hy => opUn_ok (hρ _ _ hu) hy w
    · cases h
  | convert s d a =>
    have h : (match ev a with | some v => rv (opConvert T A s d v) | none => none) = some x := h
    split at h
    · rename_i u hu; exact rv_ok h fun y hy => opConvert_ok C R (hρ _ _ hu) hy
    · cases h
  | sliceToArrayPointer d a => cases h
  | makeInterface t a =>
    have h : (match ev a with | some v => rp A (opIface T t v) | none => none) = some x := h
    split at h
    · rename_i u hu; exact rp_ok R h fun y hy => opIface_ok C (hρ _ _ hu) hy w
    · cases h
  | makeFunc fn first captured =>
    have h : (match evL ev first.toList, evL ev captured.toList with | some a, some b => rFunV A fn a b | _, _ => none) = some x := h
    split at h
    · rename_i a b ha hb
      unfold rFunV at h
      split at h
      · injection h with h; subst h
        refine ⟨_, w, μ, rfl, Mu.Ext.refl _ μ, R, ?_, Below.refl _ _, Keep.refl _ _⟩
        exact VsRel.func (by intro l hc; cases hc) (by simpa using evL_ok hρ ha) (by simpa using evL_ok hρ hb)
      · cases h
    · cases h
  | makeMap t r =>
    have h : (match evO ev r with | some h => rv (opMakeMap T A t h) | none => none) = some x := h
    split at h
    · rename_i u hu; exact rv_ok h fun y hy => opMakeMap_ok C R (evO_ok hρ hu) hy
    · cases h
  | makeChan t s => cases h
  | makeSlice t l c =>
    have h : (match ev l, ev c with | some v, some u => rv (opMakeSliceX T A t v u) | _, _ => none) = some x := h
    split at h
    · rename_i u v hu hv; exact rv_ok h fun y hy => opMakeSliceX_ok C R (hρ _ _ hu) (hρ _ _ hv) hy
    · cases h
  | slice t a lo hi mx =>
    cases mx with
    | some m =>
      cases hi with
      | none => cases h
      | some hi =>
        have h : (match ev a, evO ev lo, ev hi, ev m with | some v, some l, some h, some m => rp A (opSlice3 T A t v l h m) | _, _, _, _ => none) = some x := h
        split at h
        · rename_i u l hh mm hu hl hhh hmm; exact rp_ok R h fun y hy => opSlice3_ok C R (hρ _ _ hu) (evO_ok hρ hl) (hρ _ _ hhh) (hρ _ _ hmm) hy
        · cases h
    | none =>
      have h : (match ev a, evO ev lo, evO ev hi with | some v, some l, some h => rp A (opSlice T A t v l h) | _, _, _ => none) = some x := h
      split at h
      · rename_i u l hh hu hl hhh; exact rp_ok R h fun y hy => opSlice_ok C R (hρ _ _ hu) (evO_ok hρ hl) (evO_ok hρ hhh) hy
      · cases h
  | fieldAddr t a f =>
    have h : (match ev a with | some v => rp A (opFieldAddr T t v f) | none => none) = some x := h
    split at h
    · rename_i u hu; exact rp_ok R h fun y hy => opFieldAddr_ok C (hρ _ _ hu) hy w
    · cases h
  | field t a f =>
    have h : (match ev a with | some v => rp A (opField T t v f) | none => none) = some x := h
    split at h
    · rename_i u hu; exact rp_ok R h fun y hy => opField_ok C (hρ _ _ hu) hy w
    · cases h
  | indexAddr t a i =>
    have h : (match ev a, ev i with | some v, some u => rp A (opIndexAddr T t v u) | _, _ => none) = some x := h
    split at h
    · rename_i u v hu hv; exact rp_ok R h fun y hy => opIndexAddr_ok C (hρ _ _ hu) (hρ _ _ hv) hy w
    · cases h
  | index t a i =>
    have h : (match ev a, ev i with | some v, some u => rp A (opIndex T t v u) | _, _ => none) = some x := h
    split at h
    · rename_i u v hu hv; exact rp_ok R h fun y hy => opIndex_ok C (hρ _ _ hu) (hρ _ _ hv) hy w
    · cases h
  | lookup t a i ok =>
    have h : (match ev a, ev i with | some v, some u => rp A (opLookupX T A t v u ok) | _, _ => none) = some x := h
    split at h
    · rename_i u v hu hv; exact rp_ok R h fun y hy => opLookupX_ok C R (hρ _ _ hu) (hρ _ _ hv) hy
    · cases h
  | mapUpdate t m k v =>
    have h : (match ev m, ev k, ev v with | some v, some u, some z => ru (opMapUpdateX T A t v u z) | _, _, _ => none) = some x := h
    split at h
    · rename_i a b c ha hb hc; exact ru_ok h fun y hy => opMapUpdateX_ok C R (hρ _ _ ha) (hρ _ _ hb) (hρ _ _ hc) hy
    · cases h
  | mapEntry t m k =>
    have h : (match ev m, ev k with | some v, some u => rv (opMapEntry T A t v u) | _, _ => none) = some x := h
    split at h
    · rename_i a b ha hb; exact rv_ok h fun y hy => opMapEntry_ok C R (hρ _ _ ha) (hρ _ _ hb) hy
    · cases h
  | entryStore t m s v =>
    have h : (match ev m, ev s, ev v with | some v, some u, some z => ru (opEntryStore A v u z) | _, _, _ => none) = some x := h
    split at h
    · rename_i a b c ha hb hc; exact ru_ok h fun y hy => opEntryStore_ok R (hρ _ _ ha) (hρ _ _ hb) (hρ _ _ hc) hy
    · cases h
  | range t a =>
    have h : (match ev a with | some v => rv (opRange T A t v) | none => none) = some x := h
    split at h
    · rename_i u hu; exact rv_ok h fun y hy => opRange_ok C R (hρ _ _ hu) hy
    · cases h
  | next it isS =>
    cases isS with
    | true =>
      have h : (match ev it with | some v => rv (opNextStr A v) | none => none) = some x := h
      split at h
      · rename_i u hu; exact rv_ok h fun y hy => opNextStr_ok R (hρ _ _ hu) hy rt
      · cases h
    | false =>
      have h : (match ev it with | some v => (match opNextMap A v with | some rs => some (.branch rs) | none => none) | none => none) = some x := h
      split at h
      · rename_i u hu
        split at h
        · rename_i rs hrs
          injection h with h; subst h
          obtain ⟨r, hr, v', w', μ', h1, h2⟩ := opNextMap_ok (P := P) R (hρ _ _ hu) hrs rt
          exact ⟨r, hr, v', w', μ', by simp [execOp, h1], h2⟩
        · cases h
      · cases h
  | entry it =>
    have h : (match ev it with | some v => rp A (opEntry A v) | none => none) = some x := h
    split at h
    · rename_i u hu; exact rp_ok R h fun y hy => opEntry_ok R (hρ _ _ hu) hy
    · cases h
  | typeAssert a xt t ok =>
    have h : (match ev a with | some v => rp A (opAssert T v t ok) | none => none) = some x := h
    split at h
    · rename_i u hu; exact rp_ok R h fun y hy => opAssert_ok C (hρ _ _ hu) hy w
    · cases h
  | extract a i =>
    have h : (match ev a with | some v => rp A (opExtract v i) | none => none) = some x := h
    split at h
    · rename_i u hu; exact rp_ok R h fun y hy => opExtract_ok (hρ _ _ hu) hy w
    · cases h
  | call c => exact rCall_ok C R hρ h rt
  | go c => cases h
  | defer c => exact rDefer_ok hρ h rt
  | panic a =>
    have h : (match ev a with | some v => rPanic v | none => none) = some x := h
    split at h
    · rename_i u hu
      unfold rPanic at h
      split at h
      · rename_i t v
        injection h with h; subst h
        have hv := hρ _ _ hu
        generalize hr : ρ a = rv' at hv
        cases hv with
        | iface _ hv => exact ⟨_, by simp [execOp, hr, Instr.panic], .iface _ hv⟩
      · cases h
    · cases h
  | send a b => cases h
  | recv a b c => cases h
  | select a b => cases h
end
end

end Go.Proofs.YtnolnidldipfpaaGreatDoor.Sim
