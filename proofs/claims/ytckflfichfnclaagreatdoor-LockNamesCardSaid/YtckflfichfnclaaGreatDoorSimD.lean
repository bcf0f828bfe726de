/- A machine that runs closed calls of the program by the kernel: one operation of the machine, and that the model does the same; memos of calls. No condition. -/
import Derived.Calls
import Derived.RangeFuncRecord
import Derived.Test.YtckflfichfnclaaGreatDoorSimC
namespace Go.Proofs.YtckflfichfnclaaGreatDoor.Sim
open Go Go.RowKit
noncomputable section
section
inductive XH where
 | val (v : Value) (A : Xd)
 | skip (A : Xd)
 | enter (f : FuncId) (args : List Value)
 | defer (d : Deferred)
 | recover
 | panic (v : Value)
 | round (l : Nat) (L : ALoop) (vars : List (Option Value)) (over : List (Nat × Value))
 | branch (rs : List (Value × Xd))
def Xn (N : Nat) (vars : List (Option Value)) (over : List (Nat × Value)) (x : Operand) : Option Value :=
 match x with
 | .tmp t => Yl vars over t
 | .const v => (match X5 v with | true => some v | false => none)
 | .global g => (match Nat.blt g N with | true => some (.pointer (some ⟨g, 0, none⟩)) | false => none)
 | .func f => some (.func (.func f) #[] #[])
def RhoRel (μ : Mu) (ev : Operand -> Option Value) (ρ : Operand -> Value) : Prop := ∀ x v, ev x = some v -> Xj μ v (ρ x)
def GRel (μ : Mu) (N : Nat) (ν : Mu) : Prop := (∀ g, g < N -> μ g = some ⟨g, 0, none, 0⟩) /\ Mu.Le ν μ
def evL (ev : Operand -> Option Value) (xs : List Operand) : Option (List Value) :=
 List.rec (motive := fun _ => Option (List Value)) (some []) (fun x _ r => match ev x, r with | some v, some l => some (v :: l) | _, _ => none) xs
theorem evL_cons (ev : Operand -> Option Value) (x : Operand) (xs : List Operand) : evL ev (x :: xs) = match ev x, evL ev xs with | some v, some l => some (v :: l) | _, _ => none := rfl
theorem evL_ok {μ : Mu} {ev : Operand -> Option Value} {ρ : Operand -> Value} (h : RhoRel μ ev ρ) : ∀ {xs : List Operand} {vs : List Value}, evL ev xs = some vs -> Xo μ vs (xs.map ρ) := by
 intro xs
 induction xs with
 | nil => intro vs h; injection h with h; subst h; exact .nil
 | cons x xs ih =>
  intro vs hv
  rw [evL_cons] at hv
  split at hv
  ·rename_i v l hx hl
   injection hv with hv; subst hv
   exact .cons (h x v hx) (ih hl)
  ·cases hv
def evP (ev : Operand -> Option Value) (xs : List (Nat × Operand)) : Option (List (Nat × Value)) :=
 List.rec (motive := fun _ => Option (List (Nat × Value))) (some []) (fun x _ r => match ev x.2, r with | some v, some l => some ((x.1, v) :: l) | _, _ => none) xs
theorem evP_cons (ev : Operand -> Option Value) (x : Nat × Operand) (xs : List (Nat × Operand)) : evP ev (x :: xs) = match ev x.2, evP ev xs with | some v, some l => some ((x.1, v) :: l) | _, _ => none := rfl
theorem evP_ok {μ : Mu} {ev : Operand -> Option Value} {ρ : Operand -> Value} (h : RhoRel μ ev ρ) : ∀ {xs : List (Nat × Operand)} {vs : List (Nat × Value)}, evP ev xs = some vs -> PartsRel μ vs (xs.map fun (i, x) => (i, ρ x)) := by
 intro xs
 induction xs with
 | nil => intro vs h; injection h with h; subst h; exact .nil
 | cons x xs ih =>
  intro vs hv
  rw [evP_cons] at hv
  split at hv
  ·rename_i v l hx hl
   injection hv with hv; subst hv
   exact .cons ⟨rfl, h _ v hx⟩ (ih hl)
  ·cases hv
def evO (ev : Operand -> Option Value) (x : Option Operand) : Option (Option Value) :=
 match x with
 | none => some none
 | some x => (match ev x with | some v => some (some v) | none => none)
theorem evO_ok {μ : Mu} {ev : Operand -> Option Value} {ρ : Operand -> Value} (h : RhoRel μ ev ρ) {x : Option Operand} {v : Option Value} (hv : evO ev x = some v) : OptRel μ v (x.map ρ) := by
 unfold evO at hv
 split at hv
 ·injection hv with hv; subst hv; trivial
 ·split at hv
  ·rename_i w hw
   injection hv with hv; subst hv
   exact h _ _ hw
  ·cases hv
def tsets (ps : List Tmp) (vs : List Value) (st : List (Option Value) × List (Nat × Value)) (nt : Nat) : Option (List (Option Value) × List (Nat × Value)) :=
 match ps, vs with
 | [], [] => some st
 | p :: ps, v :: vs => (match Nat.blt p nt with | true => tsets ps vs (tset st.1 st.2 p v) nt | false => none)
 | _, _ => none
def rFunc (T : Tab) (A : Xd) (f : Value) (args : List Value) : Option XH :=
 match f with
 | .func (.func fid) ⟨first⟩ ⟨captured⟩ => (match T.fn.get fid with
   | some _ => some (.enter fid (app (app first args) captured))
   | none => (match T.ext.get fid with | some k => (match extR A k (app (app first args) captured) with | some r => some (.val r.1 r.2) | none => none) | none => none))
 | .func (.yield l) ⟨[]⟩ ⟨[]⟩ =>
  (match A.heap.get l with
   | some (.loop L) => (match tsets L.params args (L.vars, L.over) L.nt with | some (vs, ov) => some (.round l L vs ov) | none => none)
   | _ => none)
 | _ => none
def rInvoke (T : Tab) (recv : Value) (name : String) (args : List Value) : Option XH :=
 match recv with
 | .iface t v =>
  (match T.meth.get t with
   | some l => (match methOf l name with | some f => (match T.fn.get f with | some _ => some (.enter f (v :: args)) | none => none) | none => none)
   | none => none)
 | _ => none
def rv (r : Option (Value × Xd)) : Option XH := match r with | some (v, A) => some (.val v A) | none => none
def rp (A : Xd) (r : Option Value) : Option XH := match r with | some v => some (.val v A) | none => none
def ru (r : Option Xd) : Option XH := match r with | some A => some (.skip A) | none => none
def opClear (T : Tab) (A : Xd) (ats : List TypeId) (x : Value) : Option (Value × Xd) :=
 match ats, x with
 | t :: _, .map (some r) => (match T.ty.get t, A.heap.get r with | some _, some (.map _ cl) => some (.tuple ⟨[]⟩, YT A r (.map [] cl)) | _, _ => none)
 | t :: _, .map none => (match T.ty.get t with | some _ => some (.tuple ⟨[]⟩, A) | _ => none)
 | t :: _, .slice _ 0 _ => (match T.ty.get t with | some _ => some (.tuple ⟨[]⟩, A) | _ => none)
 | t :: _, .slice (some ⟨b, off, none⟩) n _ =>
  (match T.ty.get t with
   | some { desc := .slice el, .. } => (match T.ty.get el with | some te => (match astore A b off (Kk te.zero.cells.toList n) with | some A' => some (.tuple ⟨[]⟩, A') | none => none) | none => none)
   | _ => none)
 | _, _ => none
def rBuiltin (T : Tab) (A : Xd) (b : Builtin) (ats : List TypeId) (args : List Value) : Option XH :=
 match b, args with
 | .append, [s, x] => (match x with | .int k n => rv (opAppendZ T A ats s (.int k n)) | x => rv (opAppend T A ats s x))
 | .len, [x] => rp A (opLen T A ats x)
 | .cap, [x] => rp A (opCap T A ats x)
 | .copy, [d, s] => rv (opCopy T A ats d s)
 | .min, xs => rp A (opMinMax false xs)
 | .max, xs => rp A (opMinMax true xs)
 | .clear, [x] => rv (opClear T A ats x)
 | .unsafeSliceData, [x] => rp A (opSliceData x)
 | .unsafeString, [p, n] => rv (opUStr T A ats p n)
 | .recover, _ => some .recover
 | _, _ => none
def rCall (T : Tab) (A : Xd) (ev : Operand -> Option Value) (c : Call) : Option XH :=
 match evL ev c.args.toList with
 | some args =>
  match c.callee with
  | .builtin b => rBuiltin T A b c.argTypes.toList args
  | .value f => (match ev f with | some fv => rFunc T A fv args | none => none)
  | .invoke recv name => (match ev recv with | some x => rInvoke T x name args | none => none)
 | none => none
def rDefer (ev : Operand -> Option Value) (c : Call) : Option XH :=
 match evL ev c.args.toList, c.callee with
 | some args, .value f =>
  (match ev f with
   | some (.func (.func fid) ⟨first⟩ captured) => some (.defer { target := .fn (.func fid) captured, args := ⟨app first args⟩ })
   | _ => none)
 | _, _ => none
def rPanic (x : Value) : Option XH := match x with | .iface t v => some (.panic (.iface t v)) | _ => none
def rNil (A : Xd) (x : Value) : Option XH :=
 match x with
 | .pointer (some a) => some (.val (.pointer (some a)) A)
 | .func (.func f) a b => some (.val (.func (.func f) a b) A)
 | .func (.yield l) a b => some (.val (.func (.yield l) a b) A)
 | .iface t v => some (.val (.iface t v) A)
 | _ => none
def rFunV (A : Xd) (fn : Fn) (first captured : List Value) : Option XH :=
 match fn with
 | .func f => some (.val (.func (.func f) ⟨first⟩ ⟨captured⟩) A)
 | _ => none
def rPick (A : Xd) (c a b : Option Value) : Option XH := match c with | some (.bool true) => rp A a | some (.bool false) => rp A b | _ => none
def aoBox (A : Xd) (ev : Operand -> Option Value) (x : Operand) : Option XH := match ev x with | some v => rv (opBox A v) | none => none
def aoBuild (T : Tab) (A : Xd) (ev : Operand -> Option Value) (t : TypeId) (ps : Array (Nat × Operand)) : Option XH := match evP ev ps.toList with | some l => rp A (opBuild T t l) | none => none
def aoBuildSlice (T : Tab) (A : Xd) (ev : Operand -> Option Value) (t : TypeId) (n : Nat) (ps : Array (Nat × Operand)) : Option XH := match evP ev ps.toList with | some l => rv (opBuildSlice T A t n l) | none => none
def aoLoad (T : Tab) (A : Xd) (ev : Operand -> Option Value) (t : TypeId) (a : Operand) : Option XH := match ev a with | some v => rv (opLoad T A t v) | none => none
def aoStore (T : Tab) (A : Xd) (ev : Operand -> Option Value) (t : TypeId) (a : Operand) (x : Operand) : Option XH := match ev a, ev x with | some v, some u => ru (opStore T A t v u) | _, _ => none
def aoNilCheck (A : Xd) (ev : Operand -> Option Value) (x : Operand) : Option XH := match ev x with | some v => rNil A v | none => none
def aoBinOp (T : Tab) (A : Xd) (ev : Operand -> Option Value) (op : BinOp) (t : TypeId) (x : Operand) (y : Operand) : Option XH := match ev x, ev y with | some v, some u => rp A (opBin T A op t x y v u) | _, _ => none
def aoUnOp (A : Xd) (ev : Operand -> Option Value) (op : UnOp) (x : Operand) : Option XH := match ev x with | some v => rp A (opUn op v) | none => none
def aoConvert (T : Tab) (A : Xd) (ev : Operand -> Option Value) (s : TypeId) (d : TypeId) (x : Operand) : Option XH := match ev x with | some v => rv (opConvert T A s d v) | none => none
def aoMakeInterface (T : Tab) (A : Xd) (ev : Operand -> Option Value) (t : TypeId) (x : Operand) : Option XH := match ev x with | some v => rp A (opIface T t v) | none => none
def aoMakeFunc (A : Xd) (ev : Operand -> Option Value) (fn : Fn) (first : Array Operand) (captured : Array Operand) : Option XH := match evL ev first.toList, evL ev captured.toList with | some a, some b => rFunV A fn a b | _, _ => none
def aoMakeMap (T : Tab) (A : Xd) (ev : Operand -> Option Value) (t : TypeId) (r : Option Operand) : Option XH := match evO ev r with | some h => rv (opMakeMap T A t h) | none => none
def aoMakeSlice (T : Tab) (A : Xd) (ev : Operand -> Option Value) (t : TypeId) (l : Operand) (c : Operand) : Option XH := match ev l, ev c with | some v, some u => rv (opMakeSliceX T A t v u) | _, _ => none
def aoSlice (T : Tab) (A : Xd) (ev : Operand -> Option Value) (t : TypeId) (x : Operand) (lo : Option Operand) (hi : Option Operand) : Option XH := match ev x, evO ev lo, evO ev hi with | some v, some l, some h => rp A (opSlice T A t v l h) | _, _, _ => none
def aoSlice3 (T : Tab) (A : Xd) (ev : Operand -> Option Value) (t : TypeId) (x : Operand) (lo : Option Operand) (hi : Operand) (mx : Operand) : Option XH := match ev x, evO ev lo, ev hi, ev mx with | some v, some l, some h, some m => rp A (opSlice3 T A t v l h m) | _, _, _, _ => none
def aoFieldAddr (T : Tab) (A : Xd) (ev : Operand -> Option Value) (t : TypeId) (x : Operand) (f : Nat) : Option XH := match ev x with | some v => rp A (Y4 T t v f) | none => none
def aoField (T : Tab) (A : Xd) (ev : Operand -> Option Value) (t : TypeId) (x : Operand) (f : Nat) : Option XH := match ev x with | some v => rp A (opField T t v f) | none => none
def aoIndexAddr (T : Tab) (A : Xd) (ev : Operand -> Option Value) (t : TypeId) (x : Operand) (i : Operand) : Option XH := match ev x, ev i with | some v, some u => rp A (Y3 T t v u) | _, _ => none
def aoIndex (T : Tab) (A : Xd) (ev : Operand -> Option Value) (t : TypeId) (x : Operand) (i : Operand) : Option XH := match ev x, ev i with | some v, some u => rp A (opIndex T t v u) | _, _ => none
def aoLookup (T : Tab) (A : Xd) (ev : Operand -> Option Value) (t : TypeId) (x : Operand) (i : Operand) (ok : Bool) : Option XH := match ev x, ev i with | some v, some u => rp A (opLookupX T A t v u ok) | _, _ => none
def aoMapUpdate (T : Tab) (A : Xd) (ev : Operand -> Option Value) (t : TypeId) (m : Operand) (k : Operand) (x : Operand) : Option XH := match ev m, ev k, ev x with | some v, some u, some z => ru (Y7 T A t v u z) | _, _, _ => none
def aoMapEntry (T : Tab) (A : Xd) (ev : Operand -> Option Value) (t : TypeId) (m : Operand) (k : Operand) : Option XH := match ev m, ev k with | some v, some u => rv (opMapEntry T A t v u) | _, _ => none
def aoEntryStore (A : Xd) (ev : Operand -> Option Value) (m : Operand) (s : Operand) (x : Operand) : Option XH := match ev m, ev s, ev x with | some v, some u, some z => ru (opEntryStore A v u z) | _, _, _ => none
def aoRange (T : Tab) (A : Xd) (ev : Operand -> Option Value) (t : TypeId) (x : Operand) : Option XH := match ev x with | some v => rv (opRange T A t v) | none => none
def aoNext (A : Xd) (ev : Operand -> Option Value) (it : Operand) : Option XH := match ev it with | some v => rv (opNextStr A v) | none => none
def aoNextMap (A : Xd) (ev : Operand -> Option Value) (it : Operand) : Option XH := match ev it with | some v => (match opNextMap A v with | some rs => some (.branch rs) | none => none) | none => none
def aoEntry (A : Xd) (ev : Operand -> Option Value) (it : Operand) : Option XH := match ev it with | some v => rp A (opEntry A v) | none => none
def aoTypeAssert (T : Tab) (A : Xd) (ev : Operand -> Option Value) (x : Operand) (t : TypeId) (ok : Bool) : Option XH := match ev x with | some v => rp A (opAssert T v t ok) | none => none
def aoExtract (A : Xd) (ev : Operand -> Option Value) (x : Operand) (i : Nat) : Option XH := match ev x with | some v => rp A (Ko v i) | none => none
def aoPanic (ev : Operand -> Option Value) (x : Operand) : Option XH := match ev x with | some v => rPanic v | none => none
def aop (T : Tab) (A : Xd) (ev : Operand -> Option Value) (o : Op) : Option XH :=
 match o with
 | .move x | .assign x => rp A (ev x)
 | .pick c a b => rPick A (ev c) (ev a) (ev b)
 | .alloc t => rv (opAlloc T A t)
 | .box _ x => aoBox A ev x
 | .build t ps => aoBuild T A ev t ps
 | .buildSlice t n ps => aoBuildSlice T A ev t n ps
 | .load t a => aoLoad T A ev t a
 | .store t a x => aoStore T A ev t a x
 | .nilCheck x => aoNilCheck A ev x
 | .binOp op t x y _ => aoBinOp T A ev op t x y
 | .unOp op _ x => aoUnOp A ev op x
 | .convert s d x => aoConvert T A ev s d x
 | .makeInterface t x => aoMakeInterface T A ev t x
 | .makeFunc fn first captured => aoMakeFunc A ev fn first captured
 | .makeMap t r => aoMakeMap T A ev t r
 | .makeSlice t l c => aoMakeSlice T A ev t l c
 | .slice t x lo hi none => aoSlice T A ev t x lo hi
 | .slice t x lo (some hi) (some mx) => aoSlice3 T A ev t x lo hi mx
 | .fieldAddr t x f => aoFieldAddr T A ev t x f
 | .field t x f => aoField T A ev t x f
 | .indexAddr t x i => aoIndexAddr T A ev t x i
 | .index t x i => aoIndex T A ev t x i
 | .lookup t x i ok => aoLookup T A ev t x i ok
 | .mapUpdate t m k x | .insert t m k x => aoMapUpdate T A ev t m k x
 | .mapEntry t m k => aoMapEntry T A ev t m k
 | .entryStore _ m s x => aoEntryStore A ev m s x
 | .range t x => aoRange T A ev t x
 | .next it true => aoNext A ev it
 | .next it false => aoNextMap A ev it
 | .entry it => aoEntry A ev it
 | .typeAssert x _ t ok => aoTypeAssert T A ev x t ok
 | .extract x i => aoExtract A ev x i
 | .call c => rCall T A ev c
 | .defer c => rDefer ev c
 | .panic x => aoPanic ev x
 | _ => none
def alop (T : Tab) (ev : Operand -> Option Value) (o : Op) : Option (Xg × (Nat -> Value)) :=
 match o with
 | .alloc t => alAlloc T t
 | .box _ x => (match ev x with | some v => alBox v | none => none)
 | .buildSlice t n ps => (match evP ev ps.toList with | some l => Kb T t n l | none => none)
 | .makeMap t r => (match evO ev r with | some h => alMakeMap T t h | none => none)
 | .makeSlice t l c => (match ev l, ev c with | some v, some u => Kz T t v u | _, _ => none)
 | _ => none
def NextVal (P : Program) (μ : Mu) (B : Nat) (A : Xd) (w : World) (s : Sem Next) (v : Value) (A' : Xd) : Prop :=
 ∃ v' w' μ', s.run P w = .ok (.value v') w' /\ Mu.Ext A.next μ μ' /\ Xs μ' B A' w'.heap /\ Xj μ' v v' /\ Below B w w' /\ Ye μ A A'
def Kn (P : Program) (T : Tab) (μ : Mu) (B : Nat) (A : Xd) (w : World) (s : Sem Next) : XH -> Prop
 | .val v A' => NextVal P μ B A w s v A'
 | .skip A' => ∃ w', s.run P w = .ok .skip w' /\ Xs μ B A' w'.heap /\ Below B w w' /\ Ye μ A A'
 | .enter f args => ∃ args' : Array Value, s.run P w = .ok (.enter f args') w /\ Xo μ args args'.toList /\ ∃ a, T.fn.get f = some a
 | .defer d => ∃ d', s.run P w = .ok (.defer d') w /\ DefRel μ d d'
 | .recover => s.run P w = .ok .recover w
 | .panic v => ∃ v', s.run P w = .halt (.panic v') w /\ Xj μ v v'
 | .round l L vars over => ∃ (e : Ent) (tm : Array Value), μ l = some e /\ A.heap.get l = some (.loop L) /\ s.run P w = .ok (.round e.blk L.fn tm L.assign L.body) w /\ TRel μ L.nt vars over tm
 | .branch rs => ∃ r ∈ rs, NextVal P μ B A w s r.1 r.2
section
variable {P : Program} {T : Tab} {μ : Mu} {B : Nat} {A : Xd} {w : World}
theorem rv_ok {r : Option (Value × Xd)} {x : XH} (h : rv r = some x) {s : Sem Value} (hs : ∀ y, r = some y -> Ok P μ B A w s y.1 y.2) : Kn P T μ B A w (do pure (.value (← s))) x := by
 unfold rv at h
 split at h
 ·injection h with h; subst h
  obtain ⟨v', w', μ', h1, h2⟩ := hs _ rfl
  exact ⟨v', w', μ', by simp [h1], h2⟩
 ·cases h
theorem Y6 (R : Xs μ B A w.heap) {r : Option Value} {x : XH} (h : rp A r = some x) {s : Sem Value} (hs : ∀ y, r = some y -> ∃ v', s.run P w = .ok v' w /\ Xj μ y v') : Kn P T μ B A w (do pure (.value (← s))) x := by
 unfold rp at h
 split at h
 ·injection h with h; subst h
  obtain ⟨v', h1, h2⟩ := hs _ rfl
  exact ⟨v', w, μ, by simp [h1], Mu.Ext.refl _ μ, R, h2, Below.refl _ _, Ye.refl _ _⟩
 ·cases h
theorem ru_ok {r : Option Xd} {x : XH} (h : ru r = some x) {s : Sem Unit} (hs : ∀ y, r = some y -> ∃ w', s.run P w = .ok () w' /\ Xs μ B y w'.heap /\ Below B w w' /\ Ye μ A y) : Kn P T μ B A w (do s; pure .skip) x := by
 unfold ru at h
 split at h
 ·injection h with h; subst h
  obtain ⟨w', h1, h2⟩ := hs _ rfl
  exact ⟨w', by simp [h1], h2⟩
 ·cases h
theorem tsets_ok : ∀ {ps : List Tmp} {vs vs' : List Value} {st r : List (Option Value) × List (Nat × Value)} {nt : Nat} {tm : Array Value}, Xo μ vs vs' -> tsets ps vs st nt = some r -> TRel μ nt st.1 st.2 tm ->
  ps.length = vs'.length /\ TRel μ nt r.1 r.2 ((ps.zip vs').foldl (fun tmps (p : Tmp × Value) => tmps.setIfInBounds p.1 p.2) tm) := by
 intro ps
 induction ps with
 | nil =>
  intro vs vs' st r nt tm hv h ht
  cases vs with
  | nil => simp only [tsets] at h; injection h with h; subst h; rw [hv.nil_left]; exact ⟨rfl, ht⟩
  | cons v vs => simp only [tsets] at h; cases h
 | cons p ps ih =>
  intro vs vs' st r nt tm hv h ht
  cases vs with
  | nil => simp only [tsets] at h; cases h
  | cons v vs =>
   obtain ⟨v', vs'', rfl, h1, h2⟩ := hv.cons_left
   simp only [tsets] at h
   split at h
   ·rename_i hlt
    have := ih h2 h (ht.set (blt_lt hlt) h1)
    exact ⟨by simp [this.1], by simpa using this.2⟩
   ·cases h
theorem run_callFunc (C : Xy P T) {f : FuncId} {a : AFn} (h : T.fn.get f = some a) (args : Array Value) (w : World) : (callFunc f args).run P w = .ok (.enter f args) w := by
 obtain ⟨fn, h1, h2, _, _, h3⟩ := C.fn f a h
 have h4 : ¬ fn.name = "runtime.NumGoroutine" := by simpa using h3
 simp [callFunc, h1, h2, h4]
theorem of_func {fid : FuncId} {xs ys : List Value} {v : Value} (h : Xj μ (.func (.func fid) ⟨xs⟩ ⟨ys⟩) v) : ∃ xs' ys' : Array Value, v = .func (.func fid) xs' ys' /\ Xo μ xs xs'.toList /\ Xo μ ys ys'.toList := by
 cases h with
 | func _ hy hn hm hx hz =>
  exact ⟨_, _, rfl, ⟨by simpa using hn, fun i x y p q => hx i x y (by simpa using p) (by simpa using q)⟩, ⟨by simpa using hm, fun i x y p q => hz i x y (by simpa using p) (by simpa using q)⟩⟩
theorem rFunc_ok (C : Xy P T) (R : Xs μ B A w.heap) {f f' : Value} (hf : Xj μ f f') {args args' : List Value} (ha : Xo μ args args') {x : XH} (h : rFunc T A f args = some x) :
  ∃ d : Deferred, (Deferred.ofValue f' args'.toArray).run P w = .ok d w /\ Kn P T μ B A w (invoke d.target d.args) x := by
 unfold rFunc at h
 split at h
 ·rename_i fid first captured
  obtain ⟨xs', ys', rfl, h1, h2⟩ := of_func hf
  split at h
  ·rename_i a hfn
   injection h with h; subst h
   refine ⟨_, rfl, ?_⟩
   refine ⟨xs' ++ args'.toArray ++ ys', ?_, ?_, a, hfn⟩
   ·simp only [invoke]; exact run_callFunc C hfn _ _
   ·simp only [Yi, Array.toList_append]
    exact (h1.app (by simpa using ha)).app h2
  ·split at h
   ·rename_i k hk
    split at h
    ·rename_i r hv
     injection h with h; subst h
     have hargs : Xo μ (app (app first args) captured) (xs'.toList ++ args' ++ ys'.toList) := by
      simp only [Yi]
      exact (h1.app ha).app h2
     obtain ⟨v', w', q1, q2, q3, q4, q5⟩ := extR_ok C hk R hargs hv
     refine ⟨_, rfl, v', w', μ, ?_, Mu.Ext.refl _ μ, q2, q3, q4, q5⟩
     simp only [invoke]
     have e : (xs' ++ args'.toArray ++ ys') = (xs'.toList ++ args' ++ ys'.toList).toArray := by apply Array.ext'; simp
     rw [e]; exact q1
    ·cases h
   ·cases h
 ·rename_i l
  split at h
  ·rename_i L ho
   split at h
   ·rename_i vs ov hts
    injection h with h; subst h
    have : ∃ e, μ l = some e /\ f' = .func (.yield e.blk) #[] #[] := by
     cases hf with
     | func fn hy hn hm hx hz => exact absurd rfl (hy l)
     | yield he => exact ⟨_, he, rfl⟩
    obtain ⟨e, he, rfl⟩ := this
    refine ⟨_, rfl, e, ?_⟩
    obtain ⟨hg, hB, tm, ed, h1, h2, h3⟩ := R.obj l _ e ho he
    obtain ⟨k1, k2⟩ := tsets_ok ha hts h2
    refine ⟨_, he, ho, ?_, k2⟩
    have hg1 := XG (P := P) (w := w) h3 (by intro c t f hc; cases hc)
    have hsz : ¬ (#[] ++ args'.toArray : Array Value).size ≠ L.params.toArray.size := by simp [k1]
    simp only [invoke, Instr.yield, Instr.getLoop, Sem.run_bind, hg1, Result.andThen_ok, Sem.run_pure]
    rw [if_neg hsz]
    simp only [Sem.run_pure]
    congr 2
    rw [← Array.foldl_toList]
    simp
   ·cases h
  ·cases h
 ·cases h
theorem opClear_ok (C : Xy P T) (R : Xs μ B A w.heap) {ats : List TypeId} {x x' : Value} (hx : Xj μ x x') {r : Value × Xd} (h : opClear T A ats x = some r) (rt : TypeId) : Ok P μ B A w (Builtin.clear_ ats.toArray rt #[x']) r.1 r.2 := by
 unfold opClear at h
 split at h
 ·rename_i t rest rr
  split at h
  ·rename_i ti es cl ht ho
   injection h with h; subst h
   cases hx with
   | @map _ e he =>
   have hu := C.underlying ht w
   obtain ⟨hg, hB, es', h1, h3⟩ := R.obj rr _ e ho he
   have hg1 := XG (P := P) (w := w) h1 (by intro c t f hc; cases hc)
   obtain ⟨es'', k1, _, k3, k4, k5, k6⟩ := mapSet_ok (P := P) (cl2 := cl) R he ho (es2 := []) (es2' := #[]) .nil
   refine ⟨.tuple #[], _, μ, ?_, Mu.Ext.refl _ μ, k4, Xo.tuple .nil, k6, k5⟩
   simp only [Builtin.clear_, List.getElem?_toArray, List.getElem?_cons_zero, Sem.run_bind, hu, Result.andThen_ok]
   cases hd : ti.desc <;> simp [hg1, k3]
  ·cases h
 ·rename_i t rest
  split at h
  ·rename_i ti ht
   injection h with h; subst h
   cases hx
   have hu := C.underlying ht w
   refine ⟨.tuple #[], w, μ, ?_, Mu.Ext.refl _ μ, R, Xo.tuple .nil, Below.refl _ _, Ye.refl _ _⟩
   simp only [Builtin.clear_, List.getElem?_toArray, List.getElem?_cons_zero, Sem.run_bind, hu, Result.andThen_ok]
   cases hd : ti.desc <;> simp
  ·cases h
 ·rename_i t rest a c
  split at h
  ·rename_i ti ht
   injection h with h; subst h
   have hu := C.underlying ht w
   have hx' : ∃ a' c', x' = .slice a' 0 c' := by
    cases hx with
    | nilslice => exact ⟨_, _, rfl⟩
    | slice he hg => exact ⟨_, _, rfl⟩
    | gslice he hg hl hc hb => exact ⟨_, _, rfl⟩
    | zslice he => exact ⟨_, _, rfl⟩
   obtain ⟨a', c', rfl⟩ := hx'
   refine ⟨.tuple #[], w, μ, ?_, Mu.Ext.refl _ μ, R, Xo.tuple .nil, Below.refl _ _, Ye.refl _ _⟩
   simp only [Builtin.clear_, List.getElem?_toArray, List.getElem?_cons_zero, Sem.run_bind, hu, Result.andThen_ok]
   cases hd : ti.desc <;> cases a' <;> simp
  ·cases h
 ·rename_i t rest b off n c hn
  split at h
  case h_2 => cases h
  rename_i el _ _ _ _ ht
  split at h
  case h_2 => cases h
  rename_i te hte
  split at h
  case h_2 => cases h
  rename_i A' hst
  injection h with h; subst h
  have hu := C.underlying ht w
  have hz := C.zeroValue hte w
  have hcl := (XU (C.closed hte) μ).cells
  have hrel : Xo μ (Kk te.zero.cells.toList n) (Builtin.zeroCells te.zero.cells n).toList := by
   unfold Builtin.zeroCells
   rw [reps_eq rfl]
   simpa using reps_rel hcl n
  have n0 : ∃ m, n = m + 1 := by
   cases n with
   | zero => first | exact (hn _ rfl).elim | exact (hn _).elim | exact (hn rfl).elim
   | succ m => exact ⟨m, rfl⟩
  obtain ⟨m, rfl⟩ := n0
  have fin : ∀ {e : Ent} {c' : Nat}, μ b = some e -> Ok P μ B A w (Builtin.clear_ (t :: rest).toArray rt #[.slice (some ⟨e.blk, e.dl + off, none⟩) (m + 1) c']) (.tuple ⟨[]⟩) A' := by
   intro e c' he
   obtain ⟨w', k1, k2, k3, k4, _⟩ := Ky P R he hrel hst
   refine ⟨.tuple #[], w', μ, ?_, Mu.Ext.refl _ μ, k2, Xo.tuple .nil, k3, k4⟩
   simp only [Builtin.clear_, List.getElem?_toArray, List.getElem?_cons_zero, Sem.run_bind, hu, Result.andThen_ok, hz]
   simp [k1]
  cases hx with
  | slice he hg => exact fin he
  | gslice he hg hl hc hb => exact fin he
 ·cases h
theorem rBuiltin_ok (C : Xy P T) (R : Xs μ B A w.heap) {b : Builtin} {ats : List TypeId} {args args' : List Value} (ha : Xo μ args args') {x : XH} (h : rBuiltin T A b ats args = some x) (rt : TypeId) (consts : Array Bool) :
  Kn P T μ B A w (builtin b ats.toArray rt consts args'.toArray) x := by
 unfold rBuiltin at h
 split at h
 ·rename_i s x0
  obtain ⟨s', l, rfl, h1, ht⟩ := ha.cons_left
  obtain ⟨x0', l', rfl, h2, ht⟩ := ht.cons_left
  rw [ht.nil_left]
  split at h
  ·exact rv_ok h fun y hy => opAppendZ_ok C R h1 h2 hy rt
  ·exact rv_ok h fun y hy => opAppend_ok C R h1 h2 hy rt
 ·rename_i x0
  obtain ⟨x0', l', rfl, h2, ht⟩ := ha.cons_left
  rw [ht.nil_left]
  exact Y6 R h fun y hy => opLen_ok C R h2 hy rt
 ·rename_i x0
  obtain ⟨x0', l', rfl, h2, ht⟩ := ha.cons_left
  rw [ht.nil_left]
  exact Y6 R h fun y hy => opCap_ok C R h2 hy rt
 ·rename_i d s
  obtain ⟨d', l, rfl, h1, ht⟩ := ha.cons_left
  obtain ⟨s', l', rfl, h2, ht⟩ := ht.cons_left
  rw [ht.nil_left]
  exact rv_ok h fun y hy => opCopy_ok C R h1 h2 hy rt
 ·exact Y6 R h fun y hy => opMin_ok ha hy _ rt w
 ·exact Y6 R h fun y hy => opMax_ok ha hy _ rt w
 ·rename_i x0
  obtain ⟨x0', l', rfl, h2, ht⟩ := ha.cons_left
  rw [ht.nil_left]
  exact rv_ok h fun y hy => opClear_ok C R h2 hy rt
 ·rename_i x0
  obtain ⟨x0', l', rfl, h2, ht⟩ := ha.cons_left
  rw [ht.nil_left]
  exact Y6 R h fun y hy => opSliceData_ok h2 hy ats.toArray rt w
 ·rename_i p n
  obtain ⟨p', l, rfl, h1, ht⟩ := ha.cons_left
  obtain ⟨n', l', rfl, h2, ht⟩ := ht.cons_left
  rw [ht.nil_left]
  exact rv_ok h fun y hy => opUStr_ok C R h1 h2 hy rt
 ·injection h with h; subst h; rfl
 ·cases h
theorem Kn.bind_ok {s : Sem Next} {d : Deferred} {r : Sem Deferred} (hr : r.run P w = .ok d w) {f : Deferred -> Sem Next} {x : XH} (h : Kn P T μ B A w (f d) x) (hs : s = r >>= f) : Kn P T μ B A w s x := by
 subst hs
 have e : ∀ w0, w0 = w -> (r >>= f).run P w0 = (f d).run P w0 := by intro w0 hw; subst hw; simp [hr]
 cases x with
 | val v A' => obtain ⟨v', w', μ', h1, h2⟩ := h; exact ⟨v', w', μ', by rw [e w rfl]; exact h1, h2⟩
 | skip A' => obtain ⟨w', h1, h2⟩ := h; exact ⟨w', by rw [e w rfl]; exact h1, h2⟩
 | enter f' args => obtain ⟨a', h1, h2⟩ := h; exact ⟨a', by rw [e w rfl]; exact h1, h2⟩
 | defer d' => obtain ⟨a', h1, h2⟩ := h; exact ⟨a', by rw [e w rfl]; exact h1, h2⟩
 | recover => show _ = _; rw [e w rfl]; exact h
 | panic v => obtain ⟨a', h1, h2⟩ := h; exact ⟨a', by rw [e w rfl]; exact h1, h2⟩
 | round l L vs ov => obtain ⟨a', tm, h1, h2, h3, h4⟩ := h; exact ⟨a', tm, h1, h2, by rw [e w rfl]; exact h3, h4⟩
 | branch rs => obtain ⟨r', hm, v', w', μ', h1, h2⟩ := h; exact ⟨r', hm, v', w', μ', by rw [e w rfl]; exact h1, h2⟩
theorem rCall_ok (C : Xy P T) (R : Xs μ B A w.heap) {ev : Operand -> Option Value} {ρ : Operand -> Value} (hρ : RhoRel μ ev ρ) {c : Call} {x : XH} (h : rCall T A ev c = some x) (rt : TypeId) :
  Kn P T μ B A w (do let d ← resolve ρ c rt; invoke d.target d.args) x := by
 unfold rCall at h
 split at h
 case h_2 => cases h
 rename_i args hargs
 have ha := evL_ok hρ hargs
 have harr : c.args.map ρ = (c.args.toList.map ρ).toArray := by apply Array.ext'; simp
 split at h
 ·rename_i b hb
  refine Kn.bind_ok (r := resolve ρ c rt) (d := { target := .builtin b c.argTypes rt (c.args.map fun | .const _ => true | _ => false), args := c.args.map ρ }) ?_ ?_ rfl
  ·simp only [resolve, hb]; rfl
  ·simp only [invoke, harr]
   have := rBuiltin_ok (P := P) C R ha h rt (c.args.map fun | .const _ => true | _ => false)
   simpa using this
 ·rename_i f hc
  split at h
  case h_2 => cases h
  rename_i fv hfv
  obtain ⟨d, h1, h2⟩ := rFunc_ok C R (hρ _ _ hfv) ha h
  refine Kn.bind_ok (r := resolve ρ c rt) (d := d) ?_ h2 rfl
  simp only [resolve, hc, harr]; exact h1
 ·rename_i recv name hc
  split at h
  case h_2 => cases h
  rename_i rx hrx
  unfold rInvoke at h
  split at h
  case h_2 => cases h
  rename_i t v
  split at h
  case h_2 => cases h
  rename_i l hl
  split at h
  case h_2 => cases h
  rename_i f hm
  split at h
  case h_2 => cases h
  rename_i a hfn
  injection h with h; subst h
  have hv := hρ _ _ hrx
  generalize hrecv : ρ recv = rv' at hv
  cases hv with
  | @iface _ _ v' hv =>
  refine Kn.bind_ok (r := resolve ρ c rt) (d := { target := .fn (.method name) #[], args := #[.iface t v'] ++ (c.args.toList.map ρ).toArray }) ?_ ?_ rfl
  ·simp only [resolve, hc, harr, hrecv, Sem.run_pure]
  ·refine ⟨#[v'] ++ (c.args.toList.map ρ).toArray, ?_, ?_, a, hfn⟩
   ·have h0 : (#[Value.iface t v'] ++ (c.args.toList.map ρ).toArray)[0]? = some (.iface t v') := by simp
    have h1 : (#[Value.iface t v'] ++ (c.args.toList.map ρ).toArray).extract 1 (#[Value.iface t v'] ++ (c.args.toList.map ρ).toArray).size = (c.args.toList.map ρ).toArray := by
     apply Array.ext'; simp; exact List.take_of_length_le (by simp)
    simp only [invoke, h0, h1, callMethod, Sem.run_bind, run_program, Result.andThen_ok, C.meth t l name f hl hm]
    exact run_callFunc C hfn _ _
   ·simp only [Array.toList_append]
    exact .cons hv ha
theorem rDefer_ok {ev : Operand -> Option Value} {ρ : Operand -> Value} (hρ : RhoRel μ ev ρ) {c : Call} {x : XH} (h : rDefer ev c = some x) (rt : TypeId) :
  Kn P T μ B A w (do pure (.defer (← resolve ρ c rt))) x := by
 unfold rDefer at h
 split at h
 case h_2 => cases h
 rename_i args f hargs hc
 have ha := evL_ok hρ hargs
 have harr : c.args.map ρ = (c.args.toList.map ρ).toArray := by apply Array.ext'; simp
 split at h
 case h_2 => cases h
 rename_i fid first captured hf
 injection h with h; subst h
 obtain ⟨captured⟩ := captured
 have hv := hρ _ _ hf
 obtain ⟨xs', ys', he, h1, h2⟩ := of_func hv
 refine ⟨{ target := .fn (.func fid) ys', args := xs' ++ (c.args.toList.map ρ).toArray }, ?_, .fn _ (fun l hc => by cases hc) h2, ?_⟩
 ·simp only [resolve, hc, harr, he, Deferred.ofValue, Sem.run_bind, Sem.run_pure, Result.andThen_ok]
 ·simp only [Yi, Array.toList_append]
  exact h1.app ha
set_option maxHeartbeats 2000000 in
theorem alop_ok (C : Xy P T) (hB : B <= w.heap.size) {ev : Operand -> Option Value} {ρ : Operand -> Value} (hρ : RhoRel μ ev ρ) {o : Oper} {ob : Xg} {mk : Nat -> Value} (h : alop T ev o.op = some (ob, mk)) :
  ∃ s, execOp ρ o = (do pure (.value (← s))) /\ YY P μ B w s ob mk := by
 obtain ⟨dst, op, rt, pos, after, guard⟩ := o
 simp only at h
 cases op with
 | alloc t =>
  exact ⟨Instr.alloc t true (.tuple #[]), by unfold execOp; rfl, alAlloc_ok C hB h⟩
 | box t v =>
  have h : (match ev v with | some v => alBox v | none => none) = some (ob, mk) := h
  split at h
  ·rename_i v hv; exact ⟨Instr.box t (ρ _), by unfold execOp; rfl, alBox_ok hB (hρ _ _ hv) h⟩
  ·cases h
 | buildSlice t n ps =>
  have h : (match evP ev ps.toList with | some l => Kb T t n l | none => none) = some (ob, mk) := h
  split at h
  ·rename_i l hl
   have hp := evP_ok hρ hl
   exact ⟨Instr.buildSlice t n (ps.map fun (i, x) => (i, ρ x)), by unfold execOp; rfl, alBuildSlice_ok C hB (ps' := ps.map fun (i, x) => (i, ρ x)) (by simpa using hp) h⟩
  ·cases h
 | makeMap t r =>
  have h : (match evO ev r with | some v => alMakeMap T t v | none => none) = some (ob, mk) := h
  split at h
  ·rename_i v hv; exact ⟨Instr.makeMap t (r.map ρ), by unfold execOp; rfl, alMakeMap_ok C hB (evO_ok hρ hv) h⟩
  ·cases h
 | makeSlice t a b =>
  have h : (match ev a, ev b with | some v, some u => Kz T t v u | _, _ => none) = some (ob, mk) := h
  split at h
  ·rename_i v u hv hu; exact ⟨Instr.makeSlice t (ρ a) (ρ b), by unfold execOp; rfl, alMakeSlice_ok C hB (hρ _ _ hv) (hρ _ _ hu) h⟩
  ·cases h
 | _ => exact absurd h (by unfold alop; exact nofun)
set_option maxHeartbeats 1000000 in
theorem aop_ok (C : Xy P T) (R : Xs μ B A w.heap) {ev : Operand -> Option Value} {ρ : Operand -> Value} (hρ : RhoRel μ ev ρ) {o : Oper} {x : XH} (h : aop T A ev o.op = some x) : Kn P T μ B A w (execOp ρ o) x := by
 have pureV : ∀ {v : Operand} {y : XH}, rp A (ev v) = some y -> Kn P T μ B A w (pure (.value (ρ v))) y := by
  intro v y hy
  unfold rp at hy
  split at hy
  ·rename_i u hu
   injection hy with hy; subst hy
   exact ⟨_, w, μ, rfl, Mu.Ext.refl _ μ, R, hρ _ _ hu, Below.refl _ _, Ye.refl _ _⟩
  ·cases hy
 obtain ⟨dst, op, rt, pos, after, guard⟩ := o
 simp only at h
 cases op with
 | move v => exact pureV h
 | assign v => exact pureV h
 | pick c a b =>
  have h : rPick A (ev c) (ev a) (ev b) = some x := h
  unfold rPick at h
  split at h
  ·rename_i hc
   have hcv := hρ _ _ hc
   generalize hrc : ρ c = cv at hcv
   cases hcv
   have := pureV h
   simp only [execOp, hrc, asBool]
   exact this
  ·rename_i hc
   have hcv := hρ _ _ hc
   generalize hrc : ρ c = cv at hcv
   cases hcv
   have := pureV h
   simp only [execOp, hrc, asBool]
   exact this
  ·cases h
 | alloc t => exact rv_ok h fun y hy => opAlloc_ok C R hy
 | box t v =>
  have h : (match ev v with | some v => rv (opBox A v) | none => none) = some x := h
  split at h
  ·rename_i u hu; exact rv_ok h fun y hy => opBox_ok R (hρ _ _ hu) hy
  ·cases h
 | build t ps =>
  have h : (match evP ev ps.toList with | some l => rp A (opBuild T t l) | none => none) = some x := h
  split at h
  ·rename_i l hl
   have hp := evP_ok hρ hl
   refine Y6 R h fun y hy => opBuild_ok C (ps' := ps.map fun (i, x) => (i, ρ x)) (by simpa using hp) hy w
  ·cases h
 | buildSlice t n ps =>
  have h : (match evP ev ps.toList with | some l => rv (opBuildSlice T A t n l) | none => none) = some x := h
  split at h
  ·rename_i l hl
   have hp := evP_ok hρ hl
   exact rv_ok h fun y hy => opBuildSlice_ok C R (ps' := ps.map fun (i, x) => (i, ρ x)) (by simpa using hp) hy
  ·cases h
 | insert t m k v =>
  have h : (match ev m, ev k, ev v with | some v, some u, some z => ru (Y7 T A t v u z) | _, _, _ => none) = some x := h
  split at h
  ·rename_i a b c ha hb hc; exact ru_ok h fun y hy => opMapUpdateX_ok C R (hρ _ _ ha) (hρ _ _ hb) (hρ _ _ hc) hy
  ·cases h
 | load t a =>
  have h : (match ev a with | some v => rv (opLoad T A t v) | none => none) = some x := h
  split at h
  ·rename_i u hu; exact rv_ok h fun y hy => opLoad_ok C R (hρ _ _ hu) hy
  ·cases h
 | store t a v =>
  have h : (match ev a, ev v with | some v, some u => ru (opStore T A t v u) | _, _ => none) = some x := h
  split at h
  ·rename_i a b ha hb; exact ru_ok h fun y hy => opStore_ok C R (hρ _ _ ha) (hρ _ _ hb) hy
  ·cases h
 | ready g => cases h
 | waits g => cases h
 | nilCheck v =>
  have h : (match ev v with | some v => rNil A v | none => none) = some x := h
  split at h
  ·rename_i u hu
   have hv := hρ _ _ hu
   have fin : ∀ v', ρ v = v' -> Xj μ u v' -> (execOp ρ ⟨dst, .nilCheck v, rt, pos, after, guard⟩).run P w = .ok (.value v') w -> NextVal P μ B A w (execOp ρ ⟨dst, .nilCheck v, rt, pos, after, guard⟩) u A :=
    fun v' _ h2 h3 => ⟨v', w, μ, h3, Mu.Ext.refl _ μ, R, h2, Below.refl _ _, Ye.refl _ _⟩
   unfold rNil at h
   split at h
   ·injection h with h; subst h
    generalize hr : ρ v = rv' at hv
    cases hv with
    | ptr he => exact fin _ hr (.ptr he) (by simp [execOp, hr])
   ·injection h with h; subst h
    rename_i f a b
    obtain ⟨a⟩ := a; obtain ⟨b⟩ := b
    obtain ⟨xs', ys', hr, h1, h2⟩ := of_func hv
    exact fin _ hr (Xo.func (by intro l hc; cases hc) h1 h2) (by simp [execOp, hr])
   ·injection h with h; subst h
    rename_i l a b
    generalize hr : ρ v = rv' at hv
    cases hv with
    | func fn hy hn hm hx hz => exact absurd rfl (hy l)
    | yield he => exact fin _ hr (.yield he) (by simp [execOp, hr])
   ·injection h with h; subst h
    generalize hr : ρ v = rv' at hv
    cases hv with
    | iface _ hv => exact fin _ hr (.iface _ hv) (by simp [execOp, hr])
   ·cases h
  ·cases h
 | binOp op t a b yt =>
  have h : (match ev a, ev b with | some v, some u => rp A (opBin T A op t a b v u) | _, _ => none) = some x := h
  split at h
  ·rename_i u v hu hv; exact Y6 R h fun y hy => opBin_ok C R (hρ _ _ hu) (hρ _ _ hv) hy
  ·cases h
 | unOp op t a =>
  have h : (match ev a with | some v => rp A (opUn op v) | none => none) = some x := h
  split at h
  ·rename_i u hu; exact Y6 R h fun y hy => opUn_ok (hρ _ _ hu) hy w
  ·cases h
 | convert s d a =>
  have h : (match ev a with | some v => rv (opConvert T A s d v) | none => none) = some x := h
  split at h
  ·rename_i u hu; exact rv_ok h fun y hy => opConvert_ok C R (hρ _ _ hu) hy
  ·cases h
 | sliceToArrayPointer d a => cases h
 | makeInterface t a =>
  have h : (match ev a with | some v => rp A (opIface T t v) | none => none) = some x := h
  split at h
  ·rename_i u hu; exact Y6 R h fun y hy => opIface_ok C (hρ _ _ hu) hy w
  ·cases h
 | makeFunc fn first captured =>
  have h : (match evL ev first.toList, evL ev captured.toList with | some a, some b => rFunV A fn a b | _, _ => none) = some x := h
  split at h
  ·rename_i a b ha hb
   unfold rFunV at h
   split at h
   ·injection h with h; subst h
    refine ⟨_, w, μ, rfl, Mu.Ext.refl _ μ, R, ?_, Below.refl _ _, Ye.refl _ _⟩
    exact Xo.func (by intro l hc; cases hc) (by simpa using evL_ok hρ ha) (by simpa using evL_ok hρ hb)
   ·cases h
  ·cases h
 | makeMap t r =>
  have h : (match evO ev r with | some h => rv (opMakeMap T A t h) | none => none) = some x := h
  split at h
  ·rename_i u hu; exact rv_ok h fun y hy => opMakeMap_ok C R (evO_ok hρ hu) hy
  ·cases h
 | makeChan t s => cases h
 | makeSlice t l c =>
  have h : (match ev l, ev c with | some v, some u => rv (opMakeSliceX T A t v u) | _, _ => none) = some x := h
  split at h
  ·rename_i u v hu hv; exact rv_ok h fun y hy => opMakeSliceX_ok C R (hρ _ _ hu) (hρ _ _ hv) hy
  ·cases h
 | slice t a lo hi mx =>
  cases mx with
  | some m =>
   cases hi with
   | none => cases h
   | some hi =>
    have h : (match ev a, evO ev lo, ev hi, ev m with | some v, some l, some h, some m => rp A (opSlice3 T A t v l h m) | _, _, _, _ => none) = some x := h
    split at h
    ·rename_i u l hh mm hu hl hhh hmm; exact Y6 R h fun y hy => opSlice3_ok C R (hρ _ _ hu) (evO_ok hρ hl) (hρ _ _ hhh) (hρ _ _ hmm) hy
    ·cases h
  | none =>
   have h : (match ev a, evO ev lo, evO ev hi with | some v, some l, some h => rp A (opSlice T A t v l h) | _, _, _ => none) = some x := h
   split at h
   ·rename_i u l hh hu hl hhh; exact Y6 R h fun y hy => opSlice_ok C R (hρ _ _ hu) (evO_ok hρ hl) (evO_ok hρ hhh) hy
   ·cases h
 | fieldAddr t a f =>
  have h : (match ev a with | some v => rp A (Y4 T t v f) | none => none) = some x := h
  split at h
  ·rename_i u hu; exact Y6 R h fun y hy => opFieldAddr_ok C (hρ _ _ hu) hy w
  ·cases h
 | field t a f =>
  have h : (match ev a with | some v => rp A (opField T t v f) | none => none) = some x := h
  split at h
  ·rename_i u hu; exact Y6 R h fun y hy => opField_ok C (hρ _ _ hu) hy w
  ·cases h
 | indexAddr t a i =>
  have h : (match ev a, ev i with | some v, some u => rp A (Y3 T t v u) | _, _ => none) = some x := h
  split at h
  ·rename_i u v hu hv; exact Y6 R h fun y hy => opIndexAddr_ok C (hρ _ _ hu) (hρ _ _ hv) hy w
  ·cases h
 | index t a i =>
  have h : (match ev a, ev i with | some v, some u => rp A (opIndex T t v u) | _, _ => none) = some x := h
  split at h
  ·rename_i u v hu hv; exact Y6 R h fun y hy => opIndex_ok C (hρ _ _ hu) (hρ _ _ hv) hy w
  ·cases h
 | lookup t a i ok =>
  have h : (match ev a, ev i with | some v, some u => rp A (opLookupX T A t v u ok) | _, _ => none) = some x := h
  split at h
  ·rename_i u v hu hv; exact Y6 R h fun y hy => opLookupX_ok C R (hρ _ _ hu) (hρ _ _ hv) hy
  ·cases h
 | mapUpdate t m k v =>
  have h : (match ev m, ev k, ev v with | some v, some u, some z => ru (Y7 T A t v u z) | _, _, _ => none) = some x := h
  split at h
  ·rename_i a b c ha hb hc; exact ru_ok h fun y hy => opMapUpdateX_ok C R (hρ _ _ ha) (hρ _ _ hb) (hρ _ _ hc) hy
  ·cases h
 | mapEntry t m k =>
  have h : (match ev m, ev k with | some v, some u => rv (opMapEntry T A t v u) | _, _ => none) = some x := h
  split at h
  ·rename_i a b ha hb; exact rv_ok h fun y hy => opMapEntry_ok C R (hρ _ _ ha) (hρ _ _ hb) hy
  ·cases h
 | entryStore t m s v =>
  have h : (match ev m, ev s, ev v with | some v, some u, some z => ru (opEntryStore A v u z) | _, _, _ => none) = some x := h
  split at h
  ·rename_i a b c ha hb hc; exact ru_ok h fun y hy => opEntryStore_ok R (hρ _ _ ha) (hρ _ _ hb) (hρ _ _ hc) hy
  ·cases h
 | range t a =>
  have h : (match ev a with | some v => rv (opRange T A t v) | none => none) = some x := h
  split at h
  ·rename_i u hu; exact rv_ok h fun y hy => opRange_ok C R (hρ _ _ hu) hy
  ·cases h
 | next it isS =>
  cases isS with
  | true =>
   have h : (match ev it with | some v => rv (opNextStr A v) | none => none) = some x := h
   split at h
   ·rename_i u hu; exact rv_ok h fun y hy => opNextStr_ok R (hρ _ _ hu) hy rt
   ·cases h
  | false =>
   have h : (match ev it with | some v => (match opNextMap A v with | some rs => some (.branch rs) | none => none) | none => none) = some x := h
   split at h
   ·rename_i u hu
    split at h
    ·rename_i rs hrs
     injection h with h; subst h
     obtain ⟨r, hr, v', w', μ', h1, h2⟩ := opNextMap_ok (P := P) R (hρ _ _ hu) hrs rt
     exact ⟨r, hr, v', w', μ', by simp [execOp, h1], h2⟩
    ·cases h
   ·cases h
 | entry it =>
  have h : (match ev it with | some v => rp A (opEntry A v) | none => none) = some x := h
  split at h
  ·rename_i u hu; exact Y6 R h fun y hy => opEntry_ok R (hρ _ _ hu) hy
  ·cases h
 | typeAssert a xt t ok =>
  have h : (match ev a with | some v => rp A (opAssert T v t ok) | none => none) = some x := h
  split at h
  ·rename_i u hu; exact Y6 R h fun y hy => opAssert_ok C (hρ _ _ hu) hy w
  ·cases h
 | extract a i =>
  have h : (match ev a with | some v => rp A (Ko v i) | none => none) = some x := h
  split at h
  ·rename_i u hu; exact Y6 R h fun y hy => opExtract_ok (hρ _ _ hu) hy w
  ·cases h
 | call c => exact rCall_ok C R hρ h rt
 | go c => cases h
 | defer c => exact rDefer_ok hρ h rt
 | panic a =>
  have h : (match ev a with | some v => rPanic v | none => none) = some x := h
  split at h
  ·rename_i u hu
   unfold rPanic at h
   split at h
   ·rename_i t v
    injection h with h; subst h
    have hv := hρ _ _ hu
    generalize hr : ρ a = rv' at hv
    cases hv with
    | iface _ hv => exact ⟨_, by simp [execOp, hr, Instr.panic], .iface _ hv⟩
   ·cases h
  ·cases h
 | send a b => cases h
 | recv a b c => cases h
 | select a b => cases h
end
end
section
def vEqCell : Value -> Value -> Bool
 | .bool a, .bool b => (match a, b with | true, true => true | false, false => true | _, _ => false)
 | .int k a, .int k' b => (match decide (k = k') with | true => iEq a b | false => false)
 | .pointer none, .pointer none => true
 | .pointer (some ⟨a, b, none⟩), .pointer (some ⟨c, d, none⟩) => (match Nat.beq a c with | true => Nat.beq b d | false => false)
 | .slice none a b, .slice none c d => (match Nat.beq a c with | true => Nat.beq b d | false => false)
 | .slice (some ⟨a, b, none⟩) l m, .slice (some ⟨c, d, none⟩) n p => (match Nat.beq a c, Nat.beq b d, Nat.beq l n, Nat.beq m p with | true, true, true, true => true | _, _, _, _ => false)
 | .map none, .map none => true
 | .map (some a), .map (some b) => Nat.beq a b
 | .nilFunc, .nilFunc => true
 | .nilIface, .nilIface => true
 | .float .f64 0, .float .f64 0 => true
 | _, _ => false
def vEq1 (a b : Value) : Bool :=
 match a, b with
 | .string ⟨⟨x⟩⟩, .string ⟨⟨y⟩⟩ => strEq x y
 | a, b => vEqCell a b
def vEqL (xs ys : List Value) : Bool :=
 match xs, ys with
 | [], [] => true
 | x :: xs, y :: ys => (match vEq1 x y with | true => vEqL xs ys | false => false)
 | _, _ => false
def vEq (a b : Value) : Bool :=
 match a, b with
 | .agg ⟨xs⟩, .agg ⟨ys⟩ => vEqL xs ys
 | .tuple ⟨xs⟩, .tuple ⟨ys⟩ => vEqL xs ys
 | .iface t x, .iface u y => (match Nat.beq t u with | true => vEq1 x y | false => false)
 | .func (.func f) ⟨xs⟩ ⟨ys⟩, .func (.func g) ⟨zs⟩ ⟨us⟩ => (match Nat.beq f g, vEqL xs zs, vEqL ys us with | true, true, true => true | _, _, _ => false)
 | a, b => vEq1 a b
theorem vEqCell_eq {a b : Value} (h : vEqCell a b = true) : a = b := by
 unfold vEqCell at h
 split at h
 ·split at h <;> first | rfl | cases h
 ·split at h
  ·rename_i hk
   rw [iEq_eq] at h
   simp at hk h
   subst hk; subst h; rfl
  ·cases h
 ·rfl
 ·split at h
  ·rename_i ha
   have ha := Nat.eq_of_beq_eq_true ha
   have hb := Nat.eq_of_beq_eq_true h
   subst ha; subst hb; rfl
  ·cases h
 ·split at h
  ·rename_i ha
   have ha := Nat.eq_of_beq_eq_true ha
   have hb := Nat.eq_of_beq_eq_true h
   subst ha; subst hb; rfl
  ·cases h
 ·split at h
  ·rename_i a b c d
   have a := Nat.eq_of_beq_eq_true a
   have b := Nat.eq_of_beq_eq_true b
   have c := Nat.eq_of_beq_eq_true c
   have d := Nat.eq_of_beq_eq_true d
   subst a; subst b; subst c; subst d; rfl
  ·cases h
 ·rfl
 ·have h := Nat.eq_of_beq_eq_true h
  subst h; rfl
 ·rfl
 ·rfl
 ·rfl
 ·cases h
theorem vEq1_eq {a b : Value} (h : vEq1 a b = true) : a = b := by
 unfold vEq1 at h
 split at h
 ·rw [strEq_eq] at h
  simp at h
  subst h; rfl
 ·exact vEqCell_eq h
theorem vEqL_eq : ∀ {xs ys : List Value}, vEqL xs ys = true -> xs = ys := by
 intro xs
 induction xs with
 | nil => intro ys h; cases ys with | nil => rfl | cons y ys => cases h
 | cons x xs ih =>
  intro ys h
  cases ys with
  | nil => cases h
  | cons y ys =>
   unfold vEqL at h
   split at h
   ·rename_i h1; rw [vEq1_eq h1, ih h]
   ·cases h
theorem vEq_eq {a b : Value} (h : vEq a b = true) : a = b := by
 unfold vEq at h
 split at h
 ·rw [vEqL_eq h]
 ·rw [vEqL_eq h]
 ·split at h
  ·rename_i h1; rw [Nat.eq_of_beq_eq_true h1, vEq1_eq h]
  ·cases h
 ·split at h
  ·rename_i a b c; rw [Nat.eq_of_beq_eq_true a, vEqL_eq b, vEqL_eq c]
  ·cases h
 ·exact vEq1_eq h
def vEqs (xs ys : List Value) : Bool :=
 match xs, ys with
 | [], [] => true
 | x :: xs, y :: ys => (match vEq x y with | true => vEqs xs ys | false => false)
 | _, _ => false
theorem vEqs_eq : ∀ {xs ys : List Value}, vEqs xs ys = true -> xs = ys := by
 intro xs
 induction xs with
 | nil => intro ys h; cases ys with | nil => rfl | cons y ys => cases h
 | cons x xs ih =>
  intro ys h
  cases ys with
  | nil => cases h
  | cons y ys =>
   unfold vEqs at h
   split at h
   ·rename_i h1; rw [vEq_eq h1, ih h]
   ·cases h
def renL (r : Value -> Option Value) (l : List Value) : Option (List Value) :=
 match l with
 | [] => some []
 | v :: t => (match r v, renL r t with | some u, some s => some (u :: s) | _, _ => none)
def renV (τ : Nat -> Option Nat) (r : Value -> Option Value) (v : Value) : Option Value :=
 match v with
 | .bool b => some (.bool b)
 | .int k n => some (.int k n)
 | .string s => some (.string s)
 | .float .f64 0 => some (.float .f64 0)
 | .pointer none => some (.pointer none)
 | .pointer (some ⟨b, o, none⟩) => (match τ b with | some i => some (.pointer (some ⟨i, o, none⟩)) | none => none)
 | .slice none 0 0 => some (.slice none 0 0)
 | .slice (some ⟨b, o, none⟩) l c => (match τ b with | some i => some (.slice (some ⟨i, o, none⟩) l c) | none => none)
 | .map none => some (.map none)
 | .map (some b) => (match τ b with | some i => some (.map (some i)) | none => none)
 | .nilFunc => some .nilFunc
 | .nilIface => some .nilIface
 | .iface t x => (match r x with | some y => some (.iface t y) | none => none)
 | .agg ⟨xs⟩ => (match renL r xs with | some ys => some (.agg ⟨ys⟩) | none => none)
 | .tuple ⟨xs⟩ => (match renL r xs with | some ys => some (.tuple ⟨ys⟩) | none => none)
 | .func (.func f) ⟨xs⟩ ⟨ys⟩ => (match renL r xs, renL r ys with | some a, some b => some (.func (.func f) ⟨a⟩ ⟨b⟩) | _, _ => none)
 | _ => none
def ren (τ : Nat -> Option Nat) (n : Nat) : Value -> Option Value :=
 Nat.rec (motive := fun _ => Value -> Option Value) (fun _ => none) (fun _ ih v => renV τ ih v) n
def EEq (e e' : Ent) : Prop := e.blk = e'.blk /\ e.dl = e'.dl /\ e.csz = e'.csz /\ ((e.gr = none /\ e'.gr = none) \/ ∃ g g', e.gr = some g /\ e'.gr = some g' /\ g.esz = g'.esz /\ g.base = g'.base /\ g.ty = g'.ty)
theorem EEq.symm {e e' : Ent} (h : EEq e e') : EEq e' e := by
 obtain ⟨a, b, c, d⟩ := h
 refine ⟨a.symm, b.symm, c.symm, ?_⟩
 rcases d with ⟨x, y⟩ | ⟨g, g', x, y, z, u, v⟩
 ·exact .inl ⟨y, x⟩
 ·exact .inr ⟨g', g, y, x, z.symm, u.symm, v.symm⟩
theorem EEq.none {e e' : Ent} (h : EEq e e') (k : e.gr = none) : e'.gr = none := by
 rcases h.2.2.2 with ⟨_, y⟩ | ⟨g, g', x, _⟩
 ·exact y
 ·rw [k] at x; cases x
theorem EEq.some {e e' : Ent} (h : EEq e e') {g : Gr} (k : e.gr = some g) : ∃ g', e'.gr = some g' /\ g.esz = g'.esz /\ g.base = g'.base /\ g.ty = g'.ty := by
 rcases h.2.2.2 with ⟨x, _⟩ | ⟨g1, g', x, y, z⟩
 ·rw [k] at x; cases x
 ·rw [k] at x; injection x with x; subst x; exact ⟨g', y, z⟩
def Along (r : Nat -> Nat -> Prop) (μ μ' : Mu) : Prop := ∀ k i e, r k i -> μ k = some e -> ∃ e', μ' i = some e' /\ EEq e e'
def Tak (r : Nat -> Nat -> Prop) (v u : Value) : Prop := ∀ (μ μ' : Mu) (x : Value), Along r μ μ' -> Xj μ v x -> Xj μ' u x
theorem tak_list {r : Nat -> Nat -> Prop} {μ μ' : Mu} (hr : Along r μ μ') {xs ys zs : List Value} (h : XE (Tak r) xs ys) (k : Xo μ xs zs) : Xo μ' ys zs := by
 refine ⟨by rw [← h.1, k.1], fun i y z hy hz => ?_⟩
 have hi : i < xs.length := by rw [h.1]; exact (List.getElem?_eq_some_iff.1 hy).1
 exact h.2 i _ y (List.getElem?_eq_getElem hi) hy μ μ' z hr (k.2 i _ z (List.getElem?_eq_getElem hi) hz)
theorem tak_ptr {r : Nat -> Nat -> Prop} {b i o : Nat} (h : r b i) : Tak r (.pointer (some ⟨b, o, none⟩)) (.pointer (some ⟨i, o, none⟩)) := by
 intro μ μ' x hr hv
 cases hv with
 | ptr hb =>
  obtain ⟨e', h1, h2⟩ := hr _ _ _ h hb
  rw [h2.1, h2.2.1]
  exact .ptr h1
theorem tak_map {r : Nat -> Nat -> Prop} {b i : Nat} (h : r b i) : Tak r (.map (some b)) (.map (some i)) := by
 intro μ μ' x hr hv
 cases hv with
 | map hb =>
  obtain ⟨e', h1, h2⟩ := hr _ _ _ h hb
  rw [h2.1]
  exact .map h1
theorem tak_slice {r : Nat -> Nat -> Prop} {b i o l c : Nat} (h : r b i) : Tak r (.slice (some ⟨b, o, none⟩) l c) (.slice (some ⟨i, o, none⟩) l c) := by
 intro μ μ' x hr hv
 cases hv with
 | slice hb hg =>
  obtain ⟨e', h1, h2⟩ := hr _ _ _ h hb
  rw [h2.1, h2.2.1]
  exact .slice h1 (h2.none hg)
 | gslice hb hg hl hc hs =>
  obtain ⟨e', h1, h2⟩ := hr _ _ _ h hb
  obtain ⟨g', h3, h4, h5, h6⟩ := h2.some hg
  rw [h2.1, h2.2.1]
  exact .gslice h1 h3 hl hc (by rw [← h2.2.1, ← h2.2.2.1, ← h4]; exact hs)
 | zslice hb =>
  obtain ⟨e', h1, _⟩ := hr _ _ _ h hb
  exact .zslice h1
theorem tak_iface {r : Nat -> Nat -> Prop} {t : TypeId} {v u : Value} (h : Tak r v u) : Tak r (.iface t v) (.iface t u) := by
 intro μ μ' x hr hv
 cases hv with
 | iface _ hx => exact .iface t (h μ μ' _ hr hx)
theorem tak_agg {r : Nat -> Nat -> Prop} {xs ys : List Value} (h : XE (Tak r) xs ys) : Tak r (.agg ⟨xs⟩) (.agg ⟨ys⟩) := by
 intro μ μ' x hr hv
 obtain ⟨zs, rfl, hz⟩ := of_agg hv
 exact Xo.agg (tak_list hr h hz)
theorem tak_tuple {r : Nat -> Nat -> Prop} {xs ys : List Value} (h : XE (Tak r) xs ys) : Tak r (.tuple ⟨xs⟩) (.tuple ⟨ys⟩) := by
 intro μ μ' x hr hv
 obtain ⟨zs, rfl, hz⟩ := of_tuple hv
 exact Xo.tuple (tak_list hr h hz)
theorem tak_func {r : Nat -> Nat -> Prop} {f : FuncId} {xs ys xs' ys' : List Value} (h : XE (Tak r) xs xs') (k : XE (Tak r) ys ys') : Tak r (.func (.func f) ⟨xs⟩ ⟨ys⟩) (.func (.func f) ⟨xs'⟩ ⟨ys'⟩) := by
 intro μ μ' x hr hv
 cases hv with
 | func fn hy hn hm hx hz =>
  refine Xo.func hy (tak_list hr h ⟨by simpa using hn, fun i x y a b => ?_⟩) (tak_list hr k ⟨by simpa using hm, fun i x y a b => ?_⟩)
  ·exact hx i x y (by simpa using a) (by simpa using b)
  ·exact hz i x y (by simpa using a) (by simpa using b)
def Both (τ : Nat -> Option Nat) (v u : Value) : Prop := Tak (fun k i => τ k = some i) v u /\ Tak (fun i k => τ k = some i) u v
theorem YE {τ : Nat -> Option Nat} {r : Value -> Option Value} (hr : ∀ v u, r v = some u -> Both τ v u) : ∀ {xs ys : List Value}, renL r xs = some ys -> XE (Tak (fun k i => τ k = some i)) xs ys /\ XE (Tak (fun i k => τ k = some i)) ys xs := by
 intro xs
 induction xs with
 | nil => intro ys h; injection h with h; subst h; exact ⟨.nil, .nil⟩
 | cons x xs ih =>
  intro ys h
  unfold renL at h
  split at h
  ·rename_i u s h1 h2
   injection h with h; subst h
   exact ⟨.cons (hr _ _ h1).1 (ih h2).1, .cons (hr _ _ h1).2 (ih h2).2⟩
  ·cases h
theorem YL {τ : Nat -> Option Nat} {v : Value} (h : ∀ (μ μ' : Mu) (x : Value), Xj μ v x -> Xj μ' v x) : Both τ v v := ⟨fun μ μ' x _ k => h μ μ' x k, fun μ μ' x _ k => h μ μ' x k⟩
theorem renV_ok {τ : Nat -> Option Nat} {r : Value -> Option Value} (hr : ∀ v u, r v = some u -> Both τ v u) {v u : Value} (h : renV τ r v = some u) : Both τ v u := by
 unfold renV at h
 split at h
 ·injection h with h; subst h; exact YL fun μ μ' x k => by cases k; exact .bool _
 ·injection h with h; subst h; exact YL fun μ μ' x k => by cases k; exact .int _ _
 ·injection h with h; subst h; exact YL fun μ μ' x k => by cases k; exact .string _
 ·injection h with h; subst h; exact YL fun μ μ' x k => by cases k; exact .any (by assumption)
 ·injection h with h; subst h; exact YL fun μ μ' x k => by cases k; exact .nilptr
 ·split at h
  ·rename_i i hi
   injection h with h; subst h
   exact ⟨tak_ptr hi, tak_ptr hi⟩
  ·cases h
 ·injection h with h; subst h; exact YL fun μ μ' x k => by cases k; exact .nilslice
 ·split at h
  ·rename_i i hi
   injection h with h; subst h
   exact ⟨tak_slice hi, tak_slice hi⟩
  ·cases h
 ·injection h with h; subst h; exact YL fun μ μ' x k => by cases k; exact .nilmap
 ·split at h
  ·rename_i i hi
   injection h with h; subst h
   exact ⟨tak_map hi, tak_map hi⟩
  ·cases h
 ·injection h with h; subst h; exact YL fun μ μ' x k => by cases k; exact .nilFunc
 ·injection h with h; subst h; exact YL fun μ μ' x k => by cases k; exact .nilIface
 ·split at h
  ·rename_i y hy
   injection h with h; subst h
   exact ⟨tak_iface (hr _ _ hy).1, tak_iface (hr _ _ hy).2⟩
  ·cases h
 ·split at h
  ·rename_i ys hy
   injection h with h; subst h
   exact ⟨tak_agg (YE hr hy).1, tak_agg (YE hr hy).2⟩
  ·cases h
 ·split at h
  ·rename_i ys hy
   injection h with h; subst h
   exact ⟨tak_tuple (YE hr hy).1, tak_tuple (YE hr hy).2⟩
  ·cases h
 ·split at h
  ·rename_i a b h1 h2
   injection h with h; subst h
   exact ⟨tak_func (YE hr h1).1 (YE hr h2).1, tak_func (YE hr h1).2 (YE hr h2).2⟩
  ·cases h
 ·cases h
theorem ren_ok {τ : Nat -> Option Nat} : ∀ (n : Nat) {v u : Value}, ren τ n v = some u -> Both τ v u := by
 intro n
 induction n with
 | zero => intro v u h; cases h
 | succ n ih => intro v u h; exact renV_ok (fun _ _ => ih) h
def tau0 (N : Nat) (tbl : List (Nat × Nat)) (k : Nat) : Option Nat := match Nat.blt k N with | true => some k | false => Xp tbl k
def shK (n0 nx k : Nat) : Nat := Nat.add nx (Nat.sub k n0)
def topId (k : Nat) (l : List Value) : Bool :=
 match l with
 | [] => false
 | v :: r =>
  (match v with
   | .pointer (some ⟨b, _, none⟩) => (match Nat.beq b k with | true => true | false => topId k r)
   | .slice (some ⟨b, _, none⟩) _ _ => (match Nat.beq b k with | true => true | false => topId k r)
   | _ => topId k r)
def tau1 (N : Nat) (tbl : List (Nat × Nat)) (args : List Value) (n0 nx : Nat) (new : List (Nat × Xg)) (k : Nat) : Option Nat :=
 match Nat.blt k n0 with
 | true => (match Nat.blt k N with | true => some k | false => (match topId k args with | true => Xp tbl k | false => none))
 | false => (match Xp new k with | some _ => some (shK n0 nx k) | none => none)
def renE (r : Value -> Option Value) (l : List MapEntry) : Option (List MapEntry) :=
 match l with
 | [] => some []
 | e :: t => (match r e.key, r e.val, renE r t with | some a, some b, some s => some (⟨a, b, e.born⟩ :: s) | _, _, _ => none)
def renU (r : Value -> Option Value) (l : List (Value × Option Value)) : Option (List (Value × Option Value)) :=
 match l with
 | [] => some []
 | (k, none) :: t => (match renU r t with | some s => some ((k, none) :: s) | none => none)
 | (k, some v) :: t => (match r v, renU r t with | some u, some s => some ((k, some u) :: s) | _, _ => none)
def renO (r : Value -> Option Value) (n0 nx : Nat) (o : Xg) : Option Xg :=
 match o with
 | .cells xs (.fixed false) => (match renL r xs with | some ys => some (.cells ys (.fixed false)) | none => none)
 | .cells xs (.grown g) => (match renL r xs, Nat.blt g.fam n0 with | some ys, false => some (.cells ys (.grown { esz := g.esz, fam := shK n0 nx g.fam, base := g.base, ty := g.ty })) | _, _ => none)
 | .map es clock => (match renE r es with | some fs => some (.map fs clock) | none => none)
 | .mapU ss => (match renU r ss with | some us => some (.mapU us) | none => none)
 | _ => none
def addNew (r : Value -> Option Value) (n0 nx : Nat) (l : List (Nat × Xg)) (h : Tr Xg) : Option (Tr Xg) :=
 match l with
 | [] => some h
 | (k, o) :: t => (match Nat.blt k n0, Nat.blt k 16000000, renO r n0 nx o, addNew r n0 nx t h with | false, true, some o', some h' => some (h'.put (some o') (shK n0 nx k)) | _, _, _, _ => none)
def shL (n0 nx : Nat) (l : List Nat) : List Nat := match l with | [] => [] | k :: t => shK n0 nx k :: shL n0 nx t
def addFam (n0 nx : Nat) (l : List (Nat × List Nat)) (h : Tr (List Nat)) : Option (Tr (List Nat)) :=
 match l with
 | [] => some h
 | (k, o) :: t => (match Nat.blt k n0, Nat.blt (shK n0 nx k) 16000000, addFam n0 nx t h with | false, true, some h' => some (h'.put (some (shL n0 nx o)) (shK n0 nx k)) | _, _, _ => none)
def renA (r : Value -> Option Value) (l : List (Nat × Value)) : Option (List (Nat × Value)) :=
 match l with
 | [] => some []
 | (t, v) :: k => (match r v, renA r k with | some u, some s => some ((t, u) :: s) | _, _ => none)
def tAdd (N k b : Nat) (tbl : List (Nat × Nat)) : List (Nat × Nat) :=
 match Nat.blt k N with | true => tbl | false => (match Xp tbl k with | some _ => tbl | none => (k, b) :: tbl)
def tL (f : Value -> Value -> List (Nat × Nat) -> List (Nat × Nat)) (xs ys : List Value) (tbl : List (Nat × Nat)) : List (Nat × Nat) :=
 match xs, ys with
 | x :: xs, y :: ys => tL f xs ys (f x y tbl)
 | _, _ => tbl
def tV (N : Nat) (f : Value -> Value -> List (Nat × Nat) -> List (Nat × Nat)) (x y : Value) (tbl : List (Nat × Nat)) : List (Nat × Nat) :=
 match x, y with
 | .pointer (some ⟨k, _, _⟩), .pointer (some ⟨b, _, _⟩) => tAdd N k b tbl
 | .slice (some ⟨k, _, _⟩) _ _, .slice (some ⟨b, _, _⟩) _ _ => tAdd N k b tbl
 | .map (some k), .map (some b) => tAdd N k b tbl
 | .iface _ x, .iface _ y => f x y tbl
 | .agg ⟨xs⟩, .agg ⟨ys⟩ => tL f xs ys tbl
 | .func _ ⟨xs⟩ ⟨ys⟩, .func _ ⟨zs⟩ ⟨us⟩ => tL f ys us (tL f xs zs tbl)
 | _, _ => tbl
def tR (N : Nat) (n : Nat) : Value -> Value -> List (Nat × Nat) -> List (Nat × Nat) :=
 Nat.rec (motive := fun _ => Value -> Value -> List (Nat × Nat) -> List (Nat × Nat)) (fun _ _ t => t) (fun _ ih => tV N ih) n
def tRo (N : Nat) (h : Tr Xg) (ro : List (Nat × Bool × List Value)) (tbl : List (Nat × Nat)) : List (Nat × Nat) :=
 match ro with
 | [] => tbl
 | (k, _, xs) :: r =>
  (match tau0 N tbl k with
   | some i => (match h.get i with | some (.cells ys _) => tRo N h r (tL (tR N 3) xs ys tbl) | _ => tbl)
   | none => tbl)
def notVal (b : Nat) (l : List (Nat × Nat)) : Bool := match l with | [] => true | p :: r => (match Nat.beq p.2 b with | true => false | false => notVal b r)
def okTbl (N n0 : Nat) (l : List (Nat × Nat)) : Bool :=
 match l with
 | [] => true
 | (k, b) :: r => (match Nat.blt b N, Nat.blt k n0, notVal b r with | false, true, true => okTbl N n0 r | _, _, _ => false)
def okCK (b : Bool) (k : CK) : Bool := match b with | false => true | true => (match k with | .fixed _ => true | _ => false)
def okRo (r : Value -> Option Value) (τ : Nat -> Option Nat) (h : Tr Xg) (ro : List (Nat × Bool × List Value)) : Bool :=
 match ro with
 | [] => true
 | (k, b, xs) :: t =>
  (match τ k with
   | some i =>
    (match h.get i with
     | some (.cells ys ck) => (match okCK b ck, renL r xs with | true, some zs => (match vEqs zs ys with | true => okRo r τ h t | false => false) | _, _ => false)
     | _ => false)
   | none => false)
def mGo (N : Nat) (m : XJ) (args : List Value) (A : Xd) (tbl : List (Nat × Nat)) : Option (List (Nat × Value) × Xd) :=
 match okTbl N m.n0 tbl, Nat.ble N m.n0, Nat.ble m.n0 m.n1, okRo (ren (tau0 N tbl) 4) (tau0 N tbl) A.heap m.ro with
 | true, true, true, true =>
  (match renL (ren (tau0 N tbl) 4) m.args with
   | some zs =>
    (match vEqs zs args with
     | true =>
      (match addNew (ren (tau1 N tbl m.args m.n0 A.next m.new) 4) m.n0 A.next m.new A.heap, addFam m.n0 A.next m.fams A.fams, renA (ren (tau1 N tbl m.args m.n0 A.next m.new) 4) m.res with
       | some h, some fm, some ov => some (ov, { heap := h, next := Nat.succ (Nat.add A.next (Nat.sub m.n1 m.n0)), fams := fm })
       | _, _, _ => none)
     | false => none)
   | none => none)
 | _, _, _, _ => none
def mLook (N : Nat) (m : XJ) (args : List Value) (tbl : List (Nat × Nat)) : Bool :=
 match renL (ren (tau0 N tbl) 4) m.args with
 | some zs => vEqs zs args
 | none => false
def mOne (N : Nat) (m : XJ) (args : List Value) (A : Xd) : Option (List (Nat × Value) × Xd) :=
 match mLook N m args (tL (tR N 4) m.args args []) with
 | true => mGo N m args A (tRo N A.heap m.ro (tL (tR N 4) m.args args []))
 | false => none
def mFirst (N : Nat) (ms : List XJ) (args : List Value) (A : Xd) : Option (Nat × List (Nat × Value) × Xd) :=
 match ms with
 | [] => none
 | m :: r => (match mOne N m args A with | some p => some (m.nt, p) | none => mFirst N r args A)
def mTry (T : Tab) (f : FuncId) (args : List Value) (A : Xd) : Option (Nat × List (Nat × Value) × Xd) :=
 match T.memo.get f with
 | none => none
 | some ms => mFirst T.nglob ms args A
theorem roH_get {l : List (Nat × Bool × List Value)} {k : Nat} {o : Xg} (h : (roH l).get k = some o) : ∃ b xs, (k, b, xs) ∈ l /\ o = .cells xs (match b with | true => .fixed true | false => .seen) := by
 induction l with
 | nil => cases h
 | cons p l ih =>
  obtain ⟨a, b, xs⟩ := p
  unfold roH at h
  rcases Tr.get_put h with ⟨rfl, e⟩ | ⟨_, h⟩
  ·injection e with e
   exact ⟨b, xs, by simp, e.symm⟩
  ·obtain ⟨b', ys, h1, h2⟩ := ih h
   exact ⟨b', ys, List.mem_cons_of_mem _ h1, h2⟩
theorem okRo_ok {r : Value -> Option Value} {τ : Nat -> Option Nat} {h : Tr Xg} : ∀ {ro : List (Nat × Bool × List Value)}, okRo r τ h ro = true -> ∀ k b xs, (k, b, xs) ∈ ro -> ∃ i ys ck, τ k = some i /\ h.get i = some (.cells ys ck) /\ renL r xs = some ys /\ (b = true -> ∃ c, ck = .fixed c) := by
 intro ro
 induction ro with
 | nil => intro _ k b xs hm; cases hm
 | cons p ro ih =>
  obtain ⟨a, b0, us⟩ := p
  intro hk k b xs hm
  unfold okRo at hk
  split at hk
  ·rename_i i hi
   split at hk
   ·rename_i ys ck hg
    split at hk
    ·rename_i zs hc hz
     split at hk
     ·rename_i he
      rcases List.mem_cons.1 hm with e | hm
      ·injection e with e1 e2
       injection e2 with e2 e3
       subst e1; subst e2; subst e3
       refine ⟨i, ys, ck, hi, hg, by rw [hz, vEqs_eq he], fun hb => ?_⟩
       subst hb
       cases ck with
       | fixed c => exact ⟨c, rfl⟩
       | _ => cases hc
      ·exact ih hk k b xs hm
     ·cases hk
    ·cases hk
   ·cases hk
  ·cases hk
theorem notVal_ok {b : Nat} : ∀ {l : List (Nat × Nat)}, notVal b l = true -> ∀ k, Xp l k ≠ some b := by
 intro l
 induction l with
 | nil => intro _ k h; cases h
 | cons p l ih =>
  obtain ⟨a, c⟩ := p
  intro h k hk
  unfold notVal at h
  split at h
  ·cases h
  ·rename_i hne
   have hne : c ≠ b := Nat.ne_of_beq_eq_false hne
   rw [XD] at hk
   split at hk
   ·injection hk with hk; exact hne hk
   ·exact ih h k hk
theorem okTbl_ok {N n0 : Nat} : ∀ {l : List (Nat × Nat)}, okTbl N n0 l = true -> (∀ k b, Xp l k = some b -> N <= b /\ k < n0) /\ ∀ k k' b, Xp l k = some b -> Xp l k' = some b -> k = k' := by
 intro l
 induction l with
 | nil => intro _; exact ⟨fun k b h => (by cases h), fun k k' b h => (by cases h)⟩
 | cons p l ih =>
  obtain ⟨a, c⟩ := p
  intro h
  unfold okTbl at h
  split at h
  ·rename_i h1 h2 h3
   obtain ⟨i1, i2⟩ := ih h
   have h1 : N <= c := by
    rcases Nat.lt_or_ge c N with hlt | hge
    ·have : Nat.blt c N = true := Nat.ble_eq_true_of_le hlt
     rw [h1] at this; cases this
    ·exact hge
   have h2 : a < n0 := Nat.le_of_ble_eq_true h2
   refine ⟨fun k b hk => ?_, fun k k' b hk hk' => ?_⟩
   ·rw [XD] at hk
    split at hk
    ·rename_i e; subst e; injection hk with hk; subst hk; exact ⟨h1, h2⟩
    ·exact i1 k b hk
   ·rw [XD] at hk hk'
    split at hk
    ·rename_i e
     injection hk with hk; subst hk
     split at hk'
     ·rename_i e'; rw [← e, ← e']
     ·exact absurd hk' (notVal_ok h3 k')
    ·split at hk'
     ·injection hk' with hk'; subst hk'
      exact absurd hk (notVal_ok h3 k)
     ·exact i2 k k' b hk hk'
  ·cases h
theorem tau0_inj {N n0 : Nat} {tbl : List (Nat × Nat)} (h : okTbl N n0 tbl = true) {k k' b : Nat} (h1 : tau0 N tbl k = some b) (h2 : tau0 N tbl k' = some b) : k = k' := by
 obtain ⟨i1, i2⟩ := okTbl_ok h
 unfold tau0 at h1 h2
 split at h1
 ·rename_i hk
  injection h1 with h1; subst h1
  have hk : k < N := Nat.le_of_ble_eq_true hk
  split at h2
  ·injection h2 with h2; exact h2.symm
  ·have := (i1 _ _ h2).1; omega
 ·split at h2
  ·rename_i hk
   injection h2 with h2; subst h2
   have hk : k' < N := Nat.le_of_ble_eq_true hk
   have := (i1 _ _ h1).1; omega
  ·exact i2 k k' b h1 h2
theorem tau0_lt {N n0 : Nat} {tbl : List (Nat × Nat)} (h : okTbl N n0 tbl = true) (hn : N <= n0) {k b : Nat} (h1 : tau0 N tbl k = some b) : k < n0 := by
 unfold tau0 at h1
 split at h1
 ·rename_i hk
  have hk : k < N := Nat.le_of_ble_eq_true hk
  omega
 ·exact ((okTbl_ok h).1 _ _ h1).2
theorem blt_ge {a b : Nat} (h : Nat.blt a b = false) : b <= a := by
 rcases Nat.lt_or_ge a b with hlt | hge
 ·have : Nat.blt a b = true := Nat.ble_eq_true_of_le hlt
  rw [h] at this; cases this
 ·exact hge
theorem topId_ok {μ : Mu} {k : Nat} : ∀ {l : List Value} {ys : List Value}, topId k l = true -> Xo μ l ys -> ∃ e, μ k = some e := by
 intro l
 induction l with
 | nil => intro ys h; cases h
 | cons v l ih =>
  intro ys h hv
  obtain ⟨y, zs, rfl, h1, h2⟩ := hv.cons_left
  unfold topId at h
  split at h
  ·split at h
   ·rename_i e
    have e := Nat.eq_of_beq_eq_true e
    subst e
    cases h1 with
    | ptr hb => exact ⟨_, hb⟩
   ·exact ih h h2
  ·split at h
   ·rename_i e
    have e := Nat.eq_of_beq_eq_true e
    subst e
    cases h1 with
    | slice hb _ => exact ⟨_, hb⟩
    | gslice hb _ _ _ _ => exact ⟨_, hb⟩
    | zslice hb => exact ⟨_, hb⟩
   ·exact ih h h2
  ·exact ih h h2
theorem alook_newH {l : List (Nat × Xg)} : ∀ {k : Nat} {o : Xg}, k < 16000000 -> Xp l k = some o -> (newH l).get k = some o := by
 induction l with
 | nil => intro k o _ h; cases h
 | cons p l ih =>
  obtain ⟨a, x⟩ := p
  intro k o hk h
  rw [XD] at h
  unfold newH
  split at h
  ·rename_i e; subst e
   injection h with h; subst h
   exact Tr.get_put_there _ _ _ (by omega)
  ·rename_i hne
   rw [Tr.get_put_other _ _ _ _ (Ne.symm hne)]
   exact ih hk h
theorem addNew_all {r : Value -> Option Value} {n0 nx : Nat} {h0 : Tr Xg} : ∀ {l : List (Nat × Xg)} {h : Tr Xg}, addNew r n0 nx l h0 = some h -> ∀ {k : Nat} {o : Xg}, Xp l k = some o -> n0 <= k /\ k < 16000000 /\ ∃ o', renO r n0 nx o = some o' := by
 intro l
 induction l with
 | nil => intro h _ k o hk; cases hk
 | cons p l ih =>
  obtain ⟨a, x⟩ := p
  intro h hh k o hk
  unfold addNew at hh
  split at hh
  ·rename_i o' h' h1 h2 h3 h4
   rw [XD] at hk
   split at hk
   ·rename_i e; subst e
    injection hk with hk; subst hk
    exact ⟨blt_ge h1, blt_lt h2, o', h3⟩
   ·exact ih h4 hk
  ·cases hh
theorem addNew_get {r : Value -> Option Value} {n0 nx : Nat} {h0 : Tr Xg} : ∀ {l : List (Nat × Xg)} {h : Tr Xg}, addNew r n0 nx l h0 = some h -> ∀ {b : Nat} {o : Xg}, h.get b = some o ->
  (∃ k o1, Xp l k = some o1 /\ n0 <= k /\ b = nx + (k - n0) /\ renO r n0 nx o1 = some o) \/ h0.get b = some o := by
 intro l
 induction l with
 | nil => intro h hh b o hb; injection hh with hh; subst hh; exact .inr hb
 | cons p l ih =>
  obtain ⟨a, x⟩ := p
  intro h hh b o hb
  unfold addNew at hh
  split at hh
  ·rename_i o' h' h1 h2 h3 h4
   injection hh with hh; subst hh
   rcases Tr.get_put hb with ⟨rfl, e⟩ | ⟨hne, hb⟩
   ·injection e with e; subst e
    exact .inl ⟨a, x, by rw [XD, if_pos rfl], blt_ge h1, rfl, h3⟩
   ·rcases ih h4 hb with ⟨k, o1, k1, k2, k3, k4⟩ | hb
    ·refine .inl ⟨k, o1, ?_, k2, k3, k4⟩
     rw [XD, if_neg ?_]
     ·exact k1
     ·intro e; subst e; exact hne k3
    ·exact .inr hb
  ·cases hh
theorem addNew_old {r : Value -> Option Value} {n0 nx : Nat} {h0 : Tr Xg} : ∀ {l : List (Nat × Xg)} {h : Tr Xg}, addNew r n0 nx l h0 = some h -> ∀ {b : Nat}, b < nx -> h.get b = h0.get b := by
 intro l
 induction l with
 | nil => intro h hh b _; injection hh with hh; subst hh; rfl
 | cons p l ih =>
  obtain ⟨a, x⟩ := p
  intro h hh b hb
  unfold addNew at hh
  split at hh
  ·rename_i o' h' h1 h2 h3 h4
   injection hh with hh; subst hh
   rw [Tr.get_put_other _ _ _ _ (by show b ≠ nx + (a - n0); omega)]
   exact ih h4 hb
  ·cases hh
theorem shL_mem {n0 nx k : Nat} : ∀ {l : List Nat}, k ∈ l -> nx + (k - n0) ∈ shL n0 nx l := by
 intro l
 induction l with
 | nil => intro h; cases h
 | cons a l ih =>
  intro h
  unfold shL
  rcases List.mem_cons.1 h with rfl | h
  ·exact List.mem_cons_self
  ·exact List.mem_cons_of_mem _ (ih h)
theorem addFam_old {n0 nx : Nat} {h0 : Tr (List Nat)} : ∀ {l : List (Nat × List Nat)} {h : Tr (List Nat)}, addFam n0 nx l h0 = some h -> ∀ {b : Nat}, b < nx -> h.get b = h0.get b := by
 intro l
 induction l with
 | nil => intro h hh b _; injection hh with hh; subst hh; rfl
 | cons p l ih =>
  obtain ⟨a, x⟩ := p
  intro h hh b hb
  unfold addFam at hh
  split at hh
  ·rename_i h' h1 h2 h4
   injection hh with hh; subst hh
   rw [Tr.get_put_other _ _ _ _ (by show b ≠ nx + (a - n0); omega)]
   exact ih h4 hb
  ·cases hh
theorem addFam_new {n0 nx : Nat} {h0 : Tr (List Nat)} : ∀ {l : List (Nat × List Nat)} {h : Tr (List Nat)}, addFam n0 nx l h0 = some h -> ∀ {f : Nat} {x : List Nat}, (famT l).get f = some x -> h.get (nx + (f - n0)) = some (shL n0 nx x) := by
 intro l
 induction l with
 | nil => intro h hh f x hf; cases hf
 | cons p l ih =>
  obtain ⟨a, y⟩ := p
  intro h hh f x hf
  unfold addFam at hh
  split at hh
  ·rename_i h' h1 h2 h4
   injection hh with hh; subst hh
   have ha := blt_ge h1
   have hb : nx + (a - n0) < 16000000 := blt_lt h2
   unfold famT at hf
   rcases Tr.get_put hf with ⟨rfl, e⟩ | ⟨hne, hf⟩
   ·injection e with e; subst e
    exact Tr.get_put_there _ _ _ (by show nx + (f - n0) + 1 < _; omega)
   ·have hfn : n0 <= f := by
     have : ∀ {l : List (Nat × List Nat)} {h : Tr (List Nat)} {h0 : Tr (List Nat)}, addFam n0 nx l h0 = some h -> ∀ {f : Nat} {x : List Nat}, (famT l).get f = some x -> n0 <= f := by
      intro l
      induction l with
      | nil => intro h h0 _ f x hf; cases hf
      | cons p l ih =>
       obtain ⟨a, y⟩ := p
       intro h h0 hh f x hf
       unfold addFam at hh
       split at hh
       ·rename_i h' h1 h2 h4
        unfold famT at hf
        rcases Tr.get_put hf with ⟨rfl, e⟩ | ⟨hne, hf⟩
        ·exact blt_ge h1
        ·exact ih h4 hf
       ·cases hh
     exact this h4 hf
    rw [Tr.get_put_other _ _ _ _ (by show nx + (f - n0) ≠ nx + (a - n0); omega)]
    exact ih h4 hf
  ·cases hh
theorem renA_ok {r : Value -> Option Value} : ∀ {l ov : List (Nat × Value)}, renA r l = some ov -> ∀ {t : Nat} {u : Value}, Xp ov t = some u -> ∃ v, Xp l t = some v /\ r v = some u := by
 intro l
 induction l with
 | nil => intro ov h t u hu; injection h with h; subst h; cases hu
 | cons p l ih =>
  obtain ⟨a, v⟩ := p
  intro ov h t u hu
  unfold renA at h
  split at h
  ·rename_i x s h1 h2
   injection h with h; subst h
   rw [XD] at hu ⊢
   split at hu
   ·rename_i e
    injection hu with hu; subst hu
    exact ⟨v, by rw [if_pos e], h1⟩
   ·rename_i e
    rw [if_neg e]
    exact ih h2 hu
  ·cases h
theorem renE_ok {τ : Nat -> Option Nat} {n : Nat} {μ μ' : Mu} (hr : Along (fun k i => τ k = some i) μ μ') : ∀ {l fs : List MapEntry} {es : List MapEntry}, renE (ren τ n) l = some fs -> XE (XM μ) l es -> XE (XM μ') fs es := by
 intro l
 induction l with
 | nil => intro fs es h k; injection h with h; subst h; rw [k.nil_left]; exact .nil
 | cons e l ih =>
  intro fs es h k
  unfold renE at h
  split at h
  ·rename_i a b s h1 h2 h3
   injection h with h; subst h
   obtain ⟨y, ys, rfl, k1, k2⟩ := k.cons_left
   exact .cons ⟨(ren_ok n h1).1 _ _ _ hr k1.1, (ren_ok n h2).1 _ _ _ hr k1.2.1, k1.2.2⟩ (ih h3 k2)
  ·cases h
theorem renU_ok {τ : Nat -> Option Nat} {n : Nat} : ∀ {l us : List (Value × Option Value)}, renU (ren τ n) l = some us ->
  (∀ k v, (k, some v) ∈ l -> ∃ u, ren τ n v = some u /\ (k, some u) ∈ us) /\ (∀ k u, (k, some u) ∈ us -> ∃ v, (k, some v) ∈ l) := by
 intro l
 induction l with
 | nil => intro us h; injection h with h; subst h; exact ⟨fun k v h => (by cases h), fun k u h => (by cases h)⟩
 | cons p l ih =>
  obtain ⟨k0, o⟩ := p
  intro us h
  cases o with
  | none =>
   unfold renU at h
   split at h
   ·rename_i s hs
    injection h with h; subst h
    obtain ⟨a, b⟩ := ih hs
    refine ⟨fun k v hk => ?_, fun k u hk => ?_⟩
    ·rcases List.mem_cons.1 hk with e | hk
     ·injection e with _ e; cases e
     ·obtain ⟨u, h1, h2⟩ := a k v hk
      exact ⟨u, h1, List.mem_cons_of_mem _ h2⟩
    ·rcases List.mem_cons.1 hk with e | hk
     ·injection e with _ e; cases e
     ·obtain ⟨v, h1⟩ := b k u hk
      exact ⟨v, List.mem_cons_of_mem _ h1⟩
   ·cases h
  | some v0 =>
   unfold renU at h
   split at h
   ·rename_i u0 s hu hs
    injection h with h; subst h
    obtain ⟨a, b⟩ := ih hs
    refine ⟨fun k v hk => ?_, fun k u hk => ?_⟩
    ·rcases List.mem_cons.1 hk with e | hk
     ·injection e with e1 e2
      injection e2 with e2
      subst e1; subst e2
      exact ⟨u0, hu, List.mem_cons_self⟩
     ·obtain ⟨u, h1, h2⟩ := a k v hk
      exact ⟨u, h1, List.mem_cons_of_mem _ h2⟩
    ·rcases List.mem_cons.1 hk with e | hk
     ·injection e with e1 e2
      subst e1
      exact ⟨v0, List.mem_cons_self⟩
     ·obtain ⟨v, h1⟩ := b k u hk
      exact ⟨v, List.mem_cons_of_mem _ h1⟩
   ·cases h
theorem renU_rel {τ : Nat -> Option Nat} {n : Nat} {μ μ' : Mu} (hr : Along (fun k i => τ k = some i) μ μ') {l us : List (Value × Option Value)} {es : List MapEntry} (h : renU (ren τ n) l = some us) (k : URel μ l es) : URel μ' us es := by
 obtain ⟨a, b⟩ := renU_ok h
 refine ⟨fun e he => ?_, fun x u hx => ?_, k.2.2⟩
 ·obtain ⟨v, h1, h2⟩ := k.1 e he
  obtain ⟨u, h3, h4⟩ := a _ _ h1
  exact ⟨u, h4, (ren_ok n h3).1 _ _ _ hr h2⟩
 ·obtain ⟨v, h1⟩ := b _ _ hx
  exact k.2.1 _ _ h1
def colE (e : Ent) : Ent := { e with gr := e.gr.map fun g => { g with fam := 0 } }
def shE (n0 nx : Nat) (e : Ent) : Ent := { e with gr := e.gr.map fun g => { g with fam := nx + (g.fam - n0) } }
theorem colE_eq (e : Ent) : EEq e (colE e) := by
 refine ⟨rfl, rfl, rfl, ?_⟩
 cases h : e.gr with
 | none => exact .inl ⟨rfl, by simp [colE, h]⟩
 | some g => exact .inr ⟨g, { g with fam := 0 }, rfl, by simp [colE, h], rfl, rfl, rfl⟩
theorem shE_eq (n0 nx : Nat) (e : Ent) : EEq e (shE n0 nx e) := by
 refine ⟨rfl, rfl, rfl, ?_⟩
 cases h : e.gr with
 | none => exact .inl ⟨rfl, by simp [shE, h]⟩
 | some g => exact .inr ⟨g, { g with fam := nx + (g.fam - n0) }, rfl, by simp [shE, h], rfl, rfl, rfl⟩
theorem renO_ok {τ : Nat -> Option Nat} {n : Nat} {n0 nx : Nat} {μ μ' : Mu} (hr : Along (fun k i => τ k = some i) μ μ') {B B' : Nat} (hB : B' <= B) {h : Array Obj} {e : Ent} {o o' : Xg} (ho : renO (ren τ n) n0 nx o = some o')
  (k : ORel μ B h e o) : ORel μ' B' h (shE n0 nx e) o' /\ B <= e.blk := by
 have hl : ∀ {xs ys : List Value}, renL (ren τ n) xs = some ys -> ∀ {zs : List Value}, Xo μ xs zs -> Xo μ' ys zs := fun hx _ hz => tak_list hr (YE (fun _ _ => ren_ok n) hx).1 hz
 unfold renO at ho
 split at ho
 ·rename_i xs
  split at ho
  ·rename_i ys hx
   injection ho with ho; subst ho
   obtain ⟨a, arr, t, fr, b, c, d⟩ := k
   exact ⟨⟨by simp [shE, a], arr, t, fr, b, hl hx c, fun _ => ⟨Nat.le_trans hB (d rfl).1, (d rfl).2⟩⟩, (d rfl).1⟩
  ·cases ho
 ·rename_i xs g
  split at ho
  ·rename_i ys hx hf
   injection ho with ho; subst ho
   obtain ⟨a, b, arr, t, fr, c, d, f, i, j⟩ := k
   refine ⟨⟨by simp [shE, a, shK], Nat.le_trans hB b, arr, t, fr, c, d, f, ?_, ?_⟩, b⟩
   ·have := (YE (fun _ _ => ren_ok n) hx).1.1
    show e.dl + ys.length <= arr.size
    omega
   ·intro m y hy
    obtain ⟨h1, h2⟩ := (YE (fun _ _ => ren_ok n) hx).1
    have hm : m < xs.length := by rw [h1]; exact (List.getElem?_eq_some_iff.1 hy).1
    obtain ⟨z, hz1, hz2⟩ := j m _ (List.getElem?_eq_getElem hm)
    exact ⟨z, hz1, h2 m _ y (List.getElem?_eq_getElem hm) hy _ _ _ hr hz2⟩
  ·cases ho
 ·rename_i es clock
  split at ho
  ·rename_i fs hx
   injection ho with ho; subst ho
   obtain ⟨a, b, es', c, d⟩ := k
   exact ⟨⟨by simp [shE, a], Nat.le_trans hB b, es', c, renE_ok hr hx d⟩, b⟩
  ·cases ho
 ·rename_i ss
  split at ho
  ·rename_i us hx
   injection ho with ho; subst ho
   obtain ⟨a, b, es', c, d, e1⟩ := k
   exact ⟨⟨by simp [shE, a], Nat.le_trans hB b, es', c, d, renU_rel hr hx e1⟩, b⟩
  ·cases ho
 ·cases ho
theorem mGo_ok {P : Program} {N : Nat} {f : FuncId} {m : XJ} (hm : Xx P N f m) {μ : Mu} {B : Nat} {A A' : Xd} {w : World} {args : List Value} {args' : Array Value} {tbl ov : List (Nat × _)} (R : Xs μ B A w.heap)
  (G : ∀ g, g < N -> μ g = some ⟨g, 0, none, 0⟩) (ha : Xo μ args args'.toList) (hg : mGo N m args A tbl = some (ov, A')) (cs0 : List Frame) :
  ∃ μ' fr2 w2, Mu.Ext A.next μ μ' /\ Xs μ' B A' w2.heap /\ A.next <= A'.next /\ (∀ b, b < A.next -> A'.heap.get b = A.heap.get b) /\ (fr2.fn = f /\ fr2.kind = .normal /\ fr2.roundOf = none /\ fr2.defers = [] /\ fr2.mode = .returning) /\
   TRel μ' m.nt [] ov fr2.tmps /\ Steps P (lone (Frame.enter P f args' .normal) cs0 w) (lone fr2 cs0 w2) /\ Below B w w2 := by
 unfold mGo at hg
 split at hg
 case h_2 => cases hg
 rename_i c1 c2 c3 c4
 split at hg
 case h_2 => cases hg
 rename_i zs hz
 split at hg
 case h_2 => cases hg
 rename_i hzs
 have hzs := vEqs_eq hzs
 subst hzs
 split at hg
 case h_2 => cases hg
 rename_i h fm ov1 q1 q2 q3
 injection hg with hg
 injection hg with hg1 hg2
 subst hg1
 have hN : N <= m.n0 := Nat.le_of_ble_eq_true c2
 have h01 : m.n0 <= m.n1 := Nat.le_of_ble_eq_true c3
 have ro := okRo_ok c4
 -- the small world
 have hμ0 : ∃ μ0 : Mu, ∀ k, μ0 k = (tau0 N tbl k).bind fun i => (μ i).map colE := ⟨_, fun _ => rfl⟩
 obtain ⟨μ0, hμ0⟩ := hμ0
 have inv0 : ∀ {k e}, μ0 k = some e -> ∃ i e1, tau0 N tbl k = some i /\ μ i = some e1 /\ e = colE e1 := by
  intro k e hk
  rw [hμ0] at hk
  cases ht : tau0 N tbl k with
  | none => rw [ht] at hk; cases hk
  | some i =>
   rw [ht] at hk
   cases hi : μ i with
   | none => rw [Option.bind_some, hi] at hk; cases hk
   | some e1 => rw [Option.bind_some, hi] at hk; injection hk with hk; exact ⟨i, e1, rfl, hi, hk.symm⟩
 have al0 : Along (fun i k => tau0 N tbl k = some i) μ μ0 := by
  intro i k e hk he
  exact ⟨colE e, by rw [hμ0, hk, Option.bind_some, he]; rfl, colE_eq e⟩
 have G0 : ∀ g, g < N -> μ0 g = some ⟨g, 0, none, 0⟩ := by
  intro g hgN
  have : tau0 N tbl g = some g := by
   unfold tau0
   have : Nat.blt g N = true := Nat.ble_eq_true_of_le hgN
   rw [this]
  rw [hμ0, this, Option.bind_some, G g hgN]; rfl
 have R0 : Xs μ0 w.heap.size m.A0 w.heap := by
  refine ⟨Nat.le_refl _, ?_, ?_, ?_, ?_, ?_⟩
  ·intro b o e ho he
   obtain ⟨fl, xs, h1, rfl⟩ := roH_get ho
   obtain ⟨i, ys, bb, h2, h3, h4, h4b⟩ := ro b fl xs h1
   obtain ⟨i', e1, h5, h6, rfl⟩ := inv0 he
   rw [h2] at h5; injection h5 with h5; subst h5
   cases fl with
   | true =>
    obtain ⟨c, rfl⟩ := h4b rfl
    obtain ⟨a, arr, t, fr, k1, k2, _⟩ := R.obj i _ e1 h3 h6
    exact ⟨by simp [colE, a], arr, t, fr, k1, tak_list al0 (YE (fun _ _ => ren_ok 4) h4).2 k2, fun hh => by cases hh⟩
   | false =>
    obtain ⟨arr, t, fr, k1, k2, k3⟩ := cells_of R h3 h6
    obtain ⟨l1, l2⟩ := (YE (fun _ _ => ren_ok 4) h4).2
    refine ⟨(R.dom i e1 h6).2.1, arr, t, fr, k1, by rw [← l1]; exact k2, fun n x hx => ?_⟩
    have hn : n < ys.length := by rw [l1]; exact (List.getElem?_eq_some_iff.1 hx).1
    obtain ⟨y, hy, hr⟩ := k3 n _ (List.getElem?_eq_getElem hn)
    exact ⟨y, hy, l2 n _ x (List.getElem?_eq_getElem hn) hx _ _ _ al0 hr⟩
  ·intro b e he
   obtain ⟨i, e1, h5, h6, rfl⟩ := inv0 he
   obtain ⟨d1, d2, d3, d4⟩ := R.dom i e1 h6
   have hb := tau0_lt c1 hN h5
   refine ⟨hb, d2, fun hn => d3 ?_, fun g hg => ?_⟩
   ·cases hx : e1.gr with
    | none => rfl
    | some g => simp [colE, hx] at hn
   ·cases hx : e1.gr with
    | none => simp [colE, hx] at hg
    | some g1 => simp [colE, hx] at hg; subst hg; show 0 < m.n0; omega
  ·intro b b' e e' he he' hbb
   obtain ⟨i, e1, h5, h6, rfl⟩ := inv0 he
   obtain ⟨i', e1', h5', h6', rfl⟩ := inv0 he'
   rcases R.sep i i' e1 e1' h6 h6' hbb with hh | ⟨g, g', x1, x2, x3, x4⟩
   ·subst hh; exact .inl (tau0_inj c1 h5 h5')
   ·exact .inr ⟨{ g with fam := 0 }, { g' with fam := 0 }, by simp [colE, x1], by simp [colE, x2], rfl, x4⟩
  ·intro b xs g ho
   obtain ⟨fl, xs', _, hh⟩ := roH_get ho
   cases fl <;> cases hh
  ·intro b o ho
   obtain ⟨fl, xs', h1, hh⟩ := roH_get ho
   obtain ⟨i, ys, bb, h2, _⟩ := ro b fl xs' h1
   exact tau0_lt c1 hN h2
 have ha0 : Xo μ0 m.args args'.toList := tak_list al0 (YE (fun _ _ => ren_ok 4) hz).2 ha
 obtain ⟨μ1, fr2, w2, hle, R1, hfr, htm, hst, hbl⟩ := hm cs0 R0 G0 ha0
 -- the great one
 have hμ' : ∃ μ' : Mu, ∀ i, μ' i = if i < A.next then μ i else (Xp m.new (i - A.next + m.n0)).bind fun _ => (μ1 (i - A.next + m.n0)).map (shE m.n0 A.next) := ⟨_, fun _ => rfl⟩
 obtain ⟨μ', hμ'⟩ := hμ'
 have old : ∀ {i}, i < A.next -> μ' i = μ i := fun hi => by rw [hμ', if_pos hi]
 have new : ∀ {k o}, m.n0 <= k -> Xp m.new k = some o -> μ' (A.next + (k - m.n0)) = (μ1 k).map (shE m.n0 A.next) := by
  intro k o hk hn
  have : A.next + (k - m.n0) - A.next + m.n0 = k := by omega
  rw [hμ', if_neg (by omega), this, hn]; rfl
 have invN : ∀ {i e}, ¬ i < A.next -> μ' i = some e -> ∃ k o e1, m.n0 <= k /\ i = A.next + (k - m.n0) /\ Xp m.new k = some o /\ μ1 k = some e1 /\ e = shE m.n0 A.next e1 := by
  intro i e hi he
  rw [hμ', if_neg hi] at he
  cases hn : Xp m.new (i - A.next + m.n0) with
  | none => rw [hn] at he; cases he
  | some o =>
   rw [hn, Option.bind_some] at he
   cases h1 : μ1 (i - A.next + m.n0) with
   | none => rw [h1] at he; cases he
   | some e1 => rw [h1] at he; injection he with he; exact ⟨i - A.next + m.n0, o, e1, by omega, by omega, hn, h1, he.symm⟩
 have al1 : Along (fun k i => tau1 N tbl m.args m.n0 A.next m.new k = some i) μ1 μ' := by
  intro k i e hk he
  unfold tau1 at hk
  have known : ∀ {i}, tau0 N tbl k = some i -> (∃ e0, μ0 k = some e0) -> ∃ e', μ' i = some e' /\ EEq e e' := by
   intro i hi ⟨e0, he0⟩
   obtain ⟨i', e1, h5, h6, rfl⟩ := inv0 he0
   rw [hi] at h5; injection h5 with h5; subst h5
   have := hle k _ he0
   rw [he] at this; injection this with this; subst this
   exact ⟨e1, by rw [old (R.dom _ _ h6).1]; exact h6, (colE_eq e1).symm⟩
  split at hk
  ·split at hk
   ·rename_i hkN
    injection hk with hk; subst hk
    have hkN := blt_lt hkN
    refine known ?_ ⟨_, G0 k hkN⟩
    unfold tau0
    have : Nat.blt k N = true := Nat.ble_eq_true_of_le hkN
    rw [this]
   ·rename_i hkN
    split at hk
    ·rename_i ht
     refine known ?_ (topId_ok ht ha0)
     unfold tau0
     rw [hkN]; exact hk
    ·cases hk
  ·rename_i hkn
   have hkn := blt_ge hkn
   split at hk
   ·rename_i o hn
    injection hk with hk; subst hk
    refine ⟨shE m.n0 A.next e, ?_, shE_eq _ _ _⟩
    show μ' (A.next + (k - m.n0)) = _
    rw [new hkn hn, he]; rfl
   ·cases hk
 have ext : Mu.Ext A.next μ μ' := ⟨fun b e he => by rw [old (R.dom b e he).1]; exact he, fun b hb hn => by rw [old hb]; exact hn⟩
 have hsz : w.heap.size <= w2.heap.size := hbl.size
 have same : ∀ {e b}, μ b = some e -> w2.heap[e.blk]? = w.heap[e.blk]? := fun he => hbl.block _ (R.dom _ _ he).2.1
 -- a new block lies behind the old heap
 have behind : ∀ {k o e1}, Xp m.new k = some o -> μ1 k = some e1 -> w.heap.size <= e1.blk /\ ∀ o', renO (ren (tau1 N tbl m.args m.n0 A.next m.new) 4) m.n0 A.next o = some o' -> ORel μ' B w2.heap (shE m.n0 A.next e1) o' := by
  intro k o e1 hn h1
  obtain ⟨_, hk, o', ho'⟩ := addNew_all q1 hn
  have hr := R1.obj k o e1 (alook_newH hk hn) h1
  exact ⟨(renO_ok al1 R.base ho' hr).2, fun o'' ho'' => (renO_ok al1 R.base ho'' hr).1⟩
 refine ⟨μ', fr2, w2, ext, ?_, ?_, ?_, hfr, ?_, hst, hbl.mono R.base⟩
 ·subst hg2
  refine ⟨Nat.le_trans R.base hsz, ?_, ?_, ?_, ?_, ?_⟩
  ·intro b o e ho he
   rcases addNew_get q1 ho with ⟨k, o1, k1, k2, rfl, k4⟩ | ho
   ·rw [new k2 k1] at he
    cases h1 : μ1 k with
    | none => rw [h1] at he; cases he
    | some e1 =>
     rw [h1] at he; injection he with he; subst he
     exact (behind k1 h1).2 o k4
   ·have hb := R.live b o ho
    rw [old hb] at he
    exact (R.obj b o e ho he).mono ext.1 (same he)
  ·intro b e he
   by_cases hb : b < A.next
   ·rw [old hb] at he
    obtain ⟨d1, d2, d3, d4⟩ := R.dom b e he
    exact ⟨by show b < A.next + (m.n1 - m.n0) + 1; omega, Nat.lt_of_lt_of_le d2 hsz, d3, fun g hg => by have := d4 g hg; show g.fam < A.next + (m.n1 - m.n0) + 1; omega⟩
   ·obtain ⟨k, o, e1, k1, k2, k3, k4, rfl⟩ := invN hb he
    obtain ⟨d1, d2, d3, d4⟩ := R1.dom k e1 k4
    have d1 : k < m.n1 := d1
    refine ⟨by show b < A.next + (m.n1 - m.n0) + 1; omega, d2, fun hn => d3 ?_, fun g hg => ?_⟩
    ·cases hx : e1.gr with
     | none => rfl
     | some g => simp [shE, hx] at hn
    ·cases hx : e1.gr with
     | none => simp [shE, hx] at hg
     | some g1 =>
      simp [shE, hx] at hg; subst hg
      have : g1.fam < m.n1 := d4 g1 hx
      show A.next + (g1.fam - m.n0) < A.next + (m.n1 - m.n0) + 1
      omega
  ·intro b b' e e' he he' hbb
   by_cases hb : b < A.next
   ·rw [old hb] at he
    by_cases hb' : b' < A.next
    ·rw [old hb'] at he'
     exact R.sep b b' e e' he he' hbb
    ·obtain ⟨k, o, e1, k1, k2, k3, k4, rfl⟩ := invN hb' he'
     have h1 := (behind k3 k4).1
     have h2 := (R.dom b e he).2.1
     have hbb : e.blk = e1.blk := hbb
     omega
   ·obtain ⟨k, o, e1, k1, k2, k3, k4, rfl⟩ := invN hb he
    by_cases hb' : b' < A.next
    ·rw [old hb'] at he'
     have h1 := (behind k3 k4).1
     have h2 := (R.dom b' e' he').2.1
     have hbb : e1.blk = e'.blk := hbb
     omega
    ·obtain ⟨k', o', e1', k1', k2', k3', k4', rfl⟩ := invN hb' he'
     rcases R1.sep k k' e1 e1' k4 k4' hbb with hh | ⟨g, g', x1, x2, x3, x4⟩
     ·subst hh; exact .inl (by rw [k2, k2'])
     ·exact .inr ⟨{ g with fam := A.next + (g.fam - m.n0) }, { g' with fam := A.next + (g'.fam - m.n0) }, by simp [shE, x1], by simp [shE, x2], by simp [x3], x4⟩
  ·intro b xs g ho
   rcases addNew_get q1 ho with ⟨k, o1, k1, k2, rfl, k4⟩ | ho
   ·unfold renO at k4
    split at k4
    ·split at k4 <;> cases k4
    ·rename_i xs1 g1
     split at k4
     ·rename_i ys hx hf
      injection k4 with k4
      injection k4 with k5 k6
      injection k6 with k6
      subst k6
      obtain ⟨_, hk, _⟩ := addNew_all q1 k1
      obtain ⟨l1, l, l2, l3⟩ := R1.memb k xs1 g1 (alook_newH hk k1)
      have l1 : g1.fam < m.n1 := l1
      exact ⟨by show A.next + (g1.fam - m.n0) < A.next + (m.n1 - m.n0) + 1; omega, _, addFam_new q2 l2, shL_mem l3⟩
     ·cases k4
    ·split at k4 <;> cases k4
    ·split at k4 <;> cases k4
    ·cases k4
   ·obtain ⟨l1, l, l2, l3⟩ := R.memb b xs g ho
    exact ⟨by show g.fam < A.next + (m.n1 - m.n0) + 1; omega, l, by show fm.get g.fam = _; rw [addFam_old q2 l1]; exact l2, l3⟩
  ·intro b o ho
   rcases addNew_get q1 ho with ⟨k, o1, k1, k2, rfl, k4⟩ | ho
   ·obtain ⟨_, hk, _⟩ := addNew_all q1 k1
    have : k < m.n1 := R1.live k o1 (alook_newH hk k1)
    show A.next + (k - m.n0) < A.next + (m.n1 - m.n0) + 1
    omega
   ·have := R.live b o ho
    show b < A.next + (m.n1 - m.n0) + 1
    omega
 ·subst hg2
  show A.next <= A.next + (m.n1 - m.n0) + 1
  omega
 ·subst hg2
  intro b hb
  exact addNew_old q1 hb
 ·refine ⟨htm.1, fun t v hv => ?_⟩
  obtain ⟨v0, h1, h2⟩ := renA_ok q3 (show Xp ov1 t = some v from hv)
  obtain ⟨v', h3, h4⟩ := htm.2 t v0 h1
  exact ⟨v', h3, (ren_ok 4 h2).1 _ _ _ al1 h4⟩
theorem mFirst_ok {N : Nat} : ∀ {ms : List XJ} {args : List Value} {A : Xd} {r : Nat × List (Nat × Value) × Xd}, mFirst N ms args A = some r -> ∃ m ∈ ms, ∃ tbl, r.1 = m.nt /\ mGo N m args A tbl = some r.2 := by
 intro ms
 induction ms with
 | nil => intro args A r h; cases h
 | cons m ms ih =>
  intro args A r h
  unfold mFirst at h
  split at h
  ·rename_i p hp
   injection h with h; subst h
   unfold mOne at hp
   split at hp
   ·exact ⟨m, by simp, _, rfl, hp⟩
   ·cases hp
  ·obtain ⟨m', h1, h2⟩ := ih h
   exact ⟨m', List.mem_cons_of_mem _ h1, h2⟩
theorem mTry_ok {P : Program} {T : Tab} (C : Xy P T) {f : FuncId} {μ : Mu} {B : Nat} {A A' : Xd} {w : World} {args : List Value} {args' : Array Value} {nt : Nat} {ov : List (Nat × Value)} (R : Xs μ B A w.heap)
  (G : GRel μ T.nglob T.anc) (ha : Xo μ args args'.toList) (hg : mTry T f args A = some (nt, ov, A')) (cs0 : List Frame) :
  ∃ μ' fr2 w2, Mu.Ext A.next μ μ' /\ Xs μ' B A' w2.heap /\ A.next <= A'.next /\ (∀ b, b < A.next -> A'.heap.get b = A.heap.get b) /\ (fr2.fn = f /\ fr2.kind = .normal /\ fr2.roundOf = none /\ fr2.defers = [] /\ fr2.mode = .returning) /\
   TRel μ' nt [] ov fr2.tmps /\ Steps P (lone (Frame.enter P f args' .normal) cs0 w) (lone fr2 cs0 w2) /\ Below B w w2 := by
 unfold mTry at hg
 split at hg
 ·cases hg
 ·rename_i ms hms
  obtain ⟨m, h1, tbl, h2, h3⟩ := mFirst_ok hg
  have h2 : nt = m.nt := h2
  subst h2
  exact mGo_ok (C.memo f ms hms m h1) R G.1 ha h3 cs0
end
section
inductive Xt where
 | code (c : Code)
 | inBlock (id : Nat)
 | inLoop (body : Code)
 | inScope (body : Code)
 | inRegion (ops : Array Oper) (rest : List Oper)
 | inDraw (ops : Array Oper) (t : Nat) (V : List (Nat × Value)) (base : Nat)
 | inRangeFunc (l : Nat)
 | endRangeFunc (l : Nat)
 | beginRound
inductive AMode where
 | run
 | returning
 | panicking (chain : List PanicEntry)
structure Xh where
 fn : FuncId
 nt : Nat
 vars : List (Option Value)
 over : List (Nat × Value)
 todo : List Xt
 defers : List Deferred
 mode : AMode
 kind : CallKind
 roundOf : Option Nat
structure ASt where
 fr : Xh
 cs : List Xh
 A : Xd
inductive Xm where
 | next (s : ASt)
 | branch (l : List ASt)
 | done (f : FuncId) (v : Value)
 | stuck
def Xh.put (fr : Xh) (d : Option Tmp) (v : Value) : Option Xh :=
 match d with
 | none => some fr
 | some t =>
  match Nat.blt t fr.nt, tset fr.vars fr.over t v with
  | true, (vs, ov) => some { fr with vars := vs, over := ov }
  | false, _ => none
def Xh.finish (fr : Xh) (v : Value) : Option Xh :=
 match fr.todo with
 | .inRegion ops (o :: rest) :: k => ({ fr with todo := .inRegion ops rest :: k }).put o.dst v
 | .inRangeFunc l :: k => some { fr with todo := .endRangeFunc l :: k }
 | .beginRound :: k => some { fr with todo := k }
 | _ => none
def Yy : Op -> Bool
 | .move _ | .assign _ | .pick .. | .load .. | .nilCheck _ | .binOp .. | .unOp .. | .convert .. | .makeInterface .. | .makeFunc .. | .slice .. | .fieldAddr .. | .field .. | .indexAddr .. | .index .. | .lookup .. | .build .. | .extract .. | .typeAssert .. | .entry _ => true
 | .call { callee := .builtin .len, .. } | .call { callee := .builtin .min, .. } | .call { callee := .builtin .max, .. } => true
 | _ => false
def isAl : Op -> Bool
 | .alloc _ | .box .. | .buildSlice .. | .makeMap .. | .makeSlice .. => true
 | _ => false
def isChain (o : Op) : Bool := match Yy o, isAl o with | false, false => true | _, _ => false
def Ka (ops : List Oper) (i : Nat) : List Nat :=
 match ops with
 | [] => []
 | o :: r => (match isChain o.op with | false => Ka r (Nat.succ i) | true => i :: Ka r (Nat.succ i))
def alsOf (ops : List Oper) (i : Nat) : List Nat :=
 match ops with
 | [] => []
 | o :: r => (match isAl o.op with | false => alsOf r (Nat.succ i) | true => i :: alsOf r (Nat.succ i))
def Xh.drawFinish (fr : Xh) (v : Value) : Option Xh :=
 match fr.mode, fr.todo with
 | .run, .inDraw ops t V base :: k =>
  (match t with
   | 0 => none
   | t' + 1 => (match nth (Ka ops.toList 0) t' with | some c => (match Xp V c with | none => some { fr with todo := .inDraw ops t ((c, v) :: V) base :: k } | some _ => none) | none => none))
 | .run, _ => fr.finish v
 | _, _ => none
def Kv (id : Nat) : List Xt -> Option (List Xt)
 | .inBlock id' :: k => (match Nat.beq id' id with | true => some k | false => Kv id k)
 | _ :: k => Kv id k
 | [] => none
def aYielded (v : Option Value) (want : Bool) : Option Bool :=
 match v, want with
 | some (.bool true), true => some true
 | some (.bool false), false => some true
 | some (.bool true), false => some false
 | some (.bool false), true => some false
 | some (.tuple _), _ => some false
 | _, _ => none
def Kd (fr : Xh) (ops : List Oper) (o : Oper) : Option Bool :=
 match o.guard with
 | none => some true
 | some (j, want) =>
  match nth ops j with
  | some g => (match g.dst with | some t => aYielded (Yl fr.vars fr.over t) want | none => none)
  | none => none
def rais (m : AMode) (vs : List PanicEntry) : AMode :=
 match m with
 | .panicking chain => .panicking (vs ++ chain)
 | _ => .panicking vs
def YZ (T : Tab) (f : FuncId) (args : List Value) (kind : CallKind) : Option Xh :=
 match T.fn.get f with
 | some a => some { fn := f, nt := a.ntmps, vars := app (List.rec (motive := fun _ => List (Option Value)) [] (fun v _ r => some v :: r) args) (Nat.rec (motive := fun _ => List (Option Value)) [] (fun _ r => none :: r) (Nat.sub a.nvars (len args))), over := [], todo := [.code a.body], defers := [], mode := .run, kind := kind, roundOf := none }
 | none => none
def aBranch (s : ASt) (rs : List (Value × Xd)) : Option (List ASt) :=
 match rs with
 | [] => some []
 | r :: rest => (match s.fr.finish r.1, aBranch s rest with | some fr, some l => some ({ s with fr := fr, A := r.2 } :: l) | _, _ => none)
def apVal (s : ASt) (v : Value) (A : Xd) : Xm := (match s.fr.finish v with | some fr => .next { s with fr := fr, A := A } | none => .stuck)
def retFrame (f nt : Nat) (over : List (Nat × Value)) : Xh := { fn := f, nt := nt, vars := [], over := over, todo := [], defers := [], mode := .returning, kind := .normal, roundOf := none }
def inM (T : Tab) (f : FuncId) (args : List Value) (fr : Xh) (cs : List Xh) (A : Xd) : ASt :=
 match mTry T f args A with
 | some (nt, ov, A') => { fr := retFrame f nt ov, cs := cs, A := A' }
 | none => { fr := fr, cs := cs, A := A }
def apEnter (T : Tab) (s : ASt) (f : FuncId) (args : List Value) : Xm := (match YZ T f args .normal with | some fr => .next (inM T f args fr (s.fr :: s.cs) s.A) | none => .stuck)
def apDefer (s : ASt) (d : Deferred) : Xm := (match s.fr.roundOf, ({ s.fr with defers := d :: s.fr.defers } : Xh).finish undef with | none, some fr => .next { s with fr := fr } | _, _ => .stuck)
def apRecover (s : ASt) : Xm :=
  (match s.fr.roundOf, s.fr.kind, s.cs with
   | none, .deferred, c :: rest =>
    (match c.mode with
     | .panicking ({ v := v, recovered := false, goexit := false } :: older) =>
      (match s.fr.finish v with | some fr => .next { s with fr := fr, cs := { c with mode := .panicking ({ v := v, recovered := true } :: older) } :: rest } | none => .stuck)
     | .run => .stuck
     | .returning => (match s.fr.finish .nilIface with | some fr => .next { s with fr := fr } | none => .stuck)
     | _ => .stuck)
   | _, _, _ => .stuck)
def apPanic (s : ASt) (v : Value) : Xm := .next { s with fr := { s.fr with mode := rais s.fr.mode [{ v := v, recovered := false }] } }
def apRound (s : ASt) (l : Nat) (L : ALoop) (vs : List (Option Value)) (ov : List (Nat × Value)) : Xm :=
  .next { s with fr := { fn := L.fn, nt := L.nt, vars := vs, over := ov, todo := [.code L.assign, .beginRound, .code L.body], defers := [], mode := .run, kind := .normal, roundOf := some l }, cs := s.fr :: s.cs }
def apBranch (s : ASt) (rs : List (Value × Xd)) : Xm := (match aBranch s rs with | some l => .branch l | none => .stuck)
def Yv (T : Tab) (s : ASt) (r : XH) : Xm :=
 match r with
 | .val v A => apVal s v A
 | .skip A => apVal s undef A
 | .enter f args => apEnter T s f args
 | .defer d => apDefer s d
 | .recover => apRecover s
 | .panic v => apPanic s v
 | .round l L vs ov => apRound s l L vs ov
 | .branch rs => apBranch s rs
def mem (x : Nat) (l : List Nat) : Bool := match l with | [] => false | y :: r => (match Nat.beq y x with | true => true | false => mem x r)
def uni (a b : List Nat) : List Nat := match a with | [] => b | x :: r => (match mem x b with | true => uni r b | false => x :: uni r b)
def befOf (acc : List (List Nat)) (es : List Edge) : List Nat :=
 match es with
 | [] => []
 | e :: r => (match Region.binds .any e with | true => uni (e.on :: (match nth acc e.on with | some l => l | none => [])) (befOf acc r) | false => befOf acc r)
def befs (acc : List (List Nat)) (ops : List Oper) : List (List Nat) :=
 match ops with
 | [] => acc
 | o :: r => befs (app acc [befOf acc o.after.toList]) r
structure DI where
 bef : List (List Nat)
 chain : List Nat
 als : List Nat
 dsts : List (Nat × Nat)
def dstsOf (ops : List Oper) (i : Nat) : List (Nat × Nat) :=
 match ops with
 | [] => []
 | o :: r => (match o.dst with | some d => (d, i) :: dstsOf r (Nat.succ i) | none => dstsOf r (Nat.succ i))
def Xv (ops : List Oper) : DI := { bef := befs [] ops, chain := Ka ops 0, als := alsOf ops 0, dsts := dstsOf ops 0 }
def X2 (D : DI) (i j : Nat) : Bool := match nth D.bef j with | some l => mem i l | none => false
def Yq (D : DI) (j : Nat) (pending : List Nat) : Bool := match pending with | [] => true | c :: r => (match X2 D c j with | true => false | false => Yq D j r)
def Yr (D : DI) (j : Nat) (done : List Nat) : Bool := match done with | [] => true | c :: r => (match X2 D j c with | true => false | false => Yr D j r)
def dtmp (D : DI) (V : List (Nat × Value)) (vars : List (Option Value)) (over : List (Nat × Value)) (j t : Nat) : Option Value :=
 match Xp D.dsts t with
 | some k => (match X2 D k j with | true => Xp V k | false => (match Nat.beq k j with | true => Yl vars over t | false => (match X2 D j k with | true => Yl vars over t | false => none)))
 | none => Yl vars over t
def dev (N : Nat) (D : DI) (V : List (Nat × Value)) (vars : List (Option Value)) (over : List (Nat × Value)) (j : Nat) (x : Operand) : Option Value :=
 match x with
 | .tmp t => dtmp D V vars over j t
 | x => Xn N vars over x
def Ku (D : DI) (V : List (Nat × Value)) (o : Oper) (j : Nat) : Option Bool :=
 match o.guard with
 | none => some true
 | some (g, want) => (match X2 D g j with | true => aYielded (Xp V g) want | false => none)
def qop (T : Tab) (A : Xd) (ev : Operand -> Option Value) (o : Op) : Option Value :=
 match Yy o with
 | false => none
 | true =>
  match aop T A ev o with
  | some (.val v _) =>
   (match o with
    | .convert _ _ _ => (match v with | .slice _ _ _ => none | v => some v)
    | _ => some v)
  | _ => none
def notGrownB : Xg -> Bool
 | .cells _ (.grown _) => false
 | _ => true
def needAl (D : DI) (V : List (Nat × Value)) (done pending : List Nat) (js : List Nat) : Bool :=
 match js with
 | [] => false
 | j :: r =>
  match Xp V j with
  | some _ => needAl D V done pending r
  | none => (match Yq D j pending, Yr D j done with | true, true => true | _, _ => needAl D V done pending r)
def dpre (T : Tab) (D : DI) (vars : List (Option Value)) (over : List (Nat × Value)) (done pending : List Nat) (base : Nat) (ops : List Oper) (j : Nat) (A : Xd) (V : List (Nat × Value)) : Option (Xd × List (Nat × Value)) :=
 match ops with
 | [] => some (A, V)
 | o :: r =>
  match isChain o.op with
  | true => dpre T D vars over done pending base r (Nat.succ j) A V
  | false =>
   match Xp V j with
   | some _ => dpre T D vars over done pending base r (Nat.succ j) A V
   | none =>
    match Yq D j pending, Yr D j done with
    | true, true =>
     (match Ku D V o j with
      | some true =>
       (match isAl o.op with
        | true =>
         (match alop T (dev T.nglob D V vars over j) o.op with
          | some (ob, mk) => (match notGrownB ob, Nat.blt (Nat.add base j) 16000000 with | true, true => dpre T D vars over done pending base r (Nat.succ j) (YT A (Nat.add base j) ob) ((j, mk (Nat.add base j)) :: V) | _, _ => none)
          | none => none)
        | false =>
         (match qop T A (dev T.nglob D V vars over j) o.op with
          | some v => dpre T D vars over done pending base r (Nat.succ j) A ((j, v) :: V)
          | none => dpre T D vars over done pending base r (Nat.succ j) A V))
      | some false => dpre T D vars over done pending base r (Nat.succ j) A ((j, undef) :: V)
      | none => dpre T D vars over done pending base r (Nat.succ j) A V)
    | _, _ => dpre T D vars over done pending base r (Nat.succ j) A V
def dpass (T : Tab) (D : DI) (A : Xd) (vars : List (Option Value)) (over : List (Nat × Value)) (done pending : List Nat) (ops : List Oper) (j : Nat) (V : List (Nat × Value)) : Option (List (Nat × Value)) :=
 match ops with
 | [] => some V
 | o :: r =>
  match Yy o.op with
  | false =>
   (match isAl o.op, Yq D j pending, Yr D j done, Xp V j with
    | true, true, true, none => none
    | _, _, _, _ => dpass T D A vars over done pending r (Nat.succ j) V)
  | true =>
   match Yq D j pending, Yr D j done with
   | true, true =>
    (match (match Ku D V o j with
      | some true => qop T A (dev T.nglob D V vars over j) o.op
      | some false => some undef
      | none => none) with
     | some v =>
      (match Xp V j with
       | none => dpass T D A vars over done pending r (Nat.succ j) ((j, v) :: V)
       | some u => (match vEq u v with | true => dpass T D A vars over done pending r (Nat.succ j) V | false => none))
     | none => none)
   | _, _ => dpass T D A vars over done pending r (Nat.succ j) V
def okEdges (es : List Edge) (j : Nat) : Bool :=
 match es with
 | [] => true
 | e :: r => (match Region.binds .any e, Nat.blt e.on j with | true, false => false | _, _ => okEdges r j)
def hasD (l : List (Nat × Nat)) (g : Nat) : Bool := match l with | [] => false | p :: r => (match Nat.beq p.2 g with | true => true | false => hasD r g)
def okOps (D : DI) (ops : List Oper) (j : Nat) : Bool :=
 match ops with
 | [] => true
 | o :: r =>
  match okEdges o.after.toList j, (match o.guard with | none => true | some (g, _) => (match X2 D g j with | true => hasD D.dsts g | false => false)) with
  | true, true => okOps D r (Nat.succ j)
  | _, _ => false
def okChain (D : DI) (c : List Nat) : Bool :=
 match c with
 | a :: b :: r => (match X2 D a b with | true => okChain D (b :: r) | false => false)
 | _ => true
def lookD (l : List (Nat × Nat)) (k : Nat) : Option Nat := match l with | [] => none | (a, b) :: r => (match Nat.beq a k with | true => some b | false => lookD r k)
def nodupD (l : List (Nat × Nat)) : Bool :=
 match l with
 | [] => true
 | p :: r => (match lookD r p.1 with | none => nodupD r | some _ => false)
def okDst (nt : Nat) (l : List (Nat × Nat)) : Bool :=
 match l with
 | [] => true
 | p :: r => (match Nat.blt p.1 nt with | true => okDst nt r | false => false)
def okDraw (ops : List Oper) (nt : Nat) : Bool :=
 match okOps (Xv ops) ops 0, okChain (Xv ops) (Xv ops).chain, nodupD (Xv ops).dsts, okDst nt (Xv ops).dsts with
 | true, true, true, true => true
 | _, _, _, _ => false
def takeL (l : List Nat) (n : Nat) : List Nat := match n, l with | 0, _ => [] | n + 1, x :: r => x :: takeL r n | _, [] => []
def dflush (V : List (Nat × Value)) (ds : List (Nat × Nat)) (fr : Xh) : Option Xh :=
 match ds with
 | [] => some fr
 | (d, j) :: r => (match Xp V j with | some v => (match fr.put (some d) v with | some fr' => dflush V r fr' | none => none) | none => none)
def aLeave (s : ASt) (jump : Option Code) : Xm :=
 match s.fr.roundOf with
 | none =>
  (match jump with
   | none => .next { s with fr := { s.fr with mode := .returning } }
   | some .ret => .next { s with fr := { s.fr with mode := .returning } }
   | _ => .stuck)
 | some l =>
  match s.A.heap.get l, s.cs, s.fr.kind with
  | some (.loop L), c :: rest, .normal =>
   (match c.drawFinish (.bool jump.isNone) with
    | some c' => .next { fr := c', cs := rest, A := YT s.A l (.loop { L with st := if jump.isNone then .ready else .done, pending := jump }) }
    | none => .stuck)
  | _, _, _ => .stuck
def YH (over : List (Nat × Value)) : List (Nat × Value) := match over with | a :: b :: c :: d :: _ => [a, b, c, d] | l => l
def toS (s : ASt) (todo : List Xt) : Xm := .next { s with fr := { s.fr with todo := todo } }
def aCond (T : Tab) (s : ASt) (c : Operand) (a b : Code) (k : List Xt) : Xm := (match Xn T.nglob s.fr.vars s.fr.over c with | some (.bool true) => toS s (.code a :: k) | some (.bool false) => toS s (.code b :: k) | _ => .stuck)
def aExit (s : ASt) (id : Nat) (k : List Xt) : Xm := (match Kv id k with | some k' => toS s k' | none => aLeave s (some (.exit id)))
def aReg (s : ASt) (ops : Array Oper) (k : List Xt) : Xm := .next { s with fr := { s.fr with over := YH s.fr.over, todo := .inRegion ops ops.toList :: k } }
def aRegD (s : ASt) (ops : Array Oper) (k : List Xt) : Xm := (match okDraw ops.toList s.fr.nt with | true => .next { s with fr := { s.fr with over := YH s.fr.over, todo := .inDraw ops 0 [] s.A.next :: k }, A := { s.A with next := Nat.add s.A.next (len ops.toList) } } | false => .stuck)
def aRF (T : Tab) (s : ASt) (f : Operand) (params : Array Tmp) (assign body : Code) (k : List Xt) : Xm :=
  (match Xn T.nglob s.fr.vars s.fr.over f with
   | some fv =>
    match s.fr.roundOf with
    | none =>
     (let A1 := XX s.A (.deferred (some []))
      let L : ALoop := { st := .ready, pending := none, fn := s.fr.fn, vars := s.fr.vars, over := s.fr.over, nt := s.fr.nt, params := params.toList, assign := assign, body := body, defers := s.A.next }
      let A2 := XX A1 (.loop L)
      match rFunc T A2 fv [.func (.yield A1.next) #[] #[]] with
      | some r => Yv T { fr := { s.fr with todo := .inRangeFunc A1.next :: k, defers := { target := .collected s.A.next, args := #[] } :: s.fr.defers }, cs := s.cs, A := A2 } r
      | none => .stuck)
    | some l =>
     (match s.A.heap.get l with
      | some (.loop L0) =>
       (let L : ALoop := { st := .ready, pending := none, fn := s.fr.fn, vars := s.fr.vars, over := s.fr.over, nt := s.fr.nt, params := params.toList, assign := assign, body := body, defers := L0.defers }
        let A2 := XX s.A (.loop L)
        match rFunc T A2 fv [.func (.yield s.A.next) #[] #[]] with
        | some r => Yv T { fr := { s.fr with todo := .inRangeFunc s.A.next :: k }, cs := s.cs, A := A2 } r
        | none => .stuck)
      | _ => .stuck)
   | none => .stuck)
def aCode (T : Tab) (s : ASt) (c : Code) (k : List Xt) : Xm :=
 match c with
 | .skip | .label _ => toS s k
 | .seq a b => toS s (.code a :: .code b :: k)
 | .cond c a b => aCond T s c a b k
 | .block id b => toS s (.code b :: .inBlock id :: k)
 | .loop b => toS s (.code b :: .inLoop b :: k)
 | .scope b => toS s (.code b :: .inScope b :: k)
 | .exit id => aExit s id k
 | .ret => aLeave s (some .ret)
 | .region _ ops false => aReg s ops k
 | .region _ ops true => aRegD s ops k
 | .rangeFunc f params assign body => aRF T s f params assign body k
 | _ => .stuck
def dslot (T : Tab) (D : DI) (A : Xd) (vars : List (Option Value)) (over : List (Nat × Value)) (done pending : List Nat) (base : Nat) (ops : List Oper) (V : List (Nat × Value)) : Option (Xd × List (Nat × Value)) :=
 match needAl D V done pending D.als with
 | false => (match dpass T D A vars over done pending ops 0 V with | some V1 => some (A, V1) | none => none)
 | true =>
  match dpre T D vars over done pending base ops 0 A V with
  | some (A1, V1) => (match dpass T D A1 vars over done pending ops 0 V1 with | some V2 => some (A1, V2) | none => none)
  | none => none
def aDraw (T : Tab) (s : ASt) (ops : Array Oper) (t : Nat) (V : List (Nat × Value)) (base : Nat) (k : List Xt) : Xm :=
 match dslot T (Xv ops.toList) s.A s.fr.vars s.fr.over (takeL (Xv ops.toList).chain t) (Xf (Xv ops.toList).chain t) base ops.toList V with
 | some (A1, V1) =>
  (match nth (Xv ops.toList).chain t with
   | none => (match dflush V1 (Xv ops.toList).dsts { s.fr with todo := k } with | some fr => .next { s with fr := fr, A := A1 } | none => .stuck)
   | some c =>
    match nth ops.toList c with
    | some o =>
     (match Ku (Xv ops.toList) V1 o c, Xp V1 c with
      | some false, none => .next { s with fr := { s.fr with todo := .inDraw ops (Nat.succ t) ((c, undef) :: V1) base :: k }, A := A1 }
      | some true, none =>
       (match aop T A1 (dev T.nglob (Xv ops.toList) V1 s.fr.vars s.fr.over c) o.op with
        | some (.val v A) => .next { s with fr := { s.fr with todo := .inDraw ops (Nat.succ t) ((c, v) :: V1) base :: k }, A := A }
        | some (.skip A) => .next { s with fr := { s.fr with todo := .inDraw ops (Nat.succ t) ((c, undef) :: V1) base :: k }, A := A }
        | some (.enter f args) => (match YZ T f args .normal with | some fr => .next (inM T f args fr ({ s.fr with todo := .inDraw ops (Nat.succ t) V1 base :: k } :: s.cs) A1) | none => .stuck)
        | _ => .stuck)
      | _, _ => .stuck)
    | none => .stuck)
 | none => .stuck
def aOper (T : Tab) (s : ASt) (ops : Array Oper) (o : Oper) : Xm :=
  (match Kd s.fr ops.toList o with
   | some true => (match aop T s.A (Xn T.nglob s.fr.vars s.fr.over) o.op with | some r => Yv T s r | none => .stuck)
   | some false => (match s.fr.finish undef with | some fr => .next { s with fr := fr } | none => .stuck)
   | none => .stuck)
def aBegin (s : ASt) (k : List Xt) : Xm :=
  (match s.fr.roundOf with
   | some l => (match s.A.heap.get l with
    | some (.loop L) => (match L.st with | .ready => .next { s with fr := { s.fr with todo := k }, A := YT s.A l (.loop { L with st := .busy }) } | _ => .stuck)
    | _ => .stuck)
   | none => .stuck)
def aEndRF (s : ASt) (l : Nat) (k : List Xt) : Xm :=
  (match s.A.heap.get l with
   | some (.loop L) => (match L.st with
    | .busy => .stuck
    | _ => .next { s with fr := { s.fr with todo := (match L.pending with | some c => .code c :: k | none => k) }, A := YT s.A l (.loop { L with st := .exhausted }) })
   | _ => .stuck)
def aReg1 (T : Tab) (s : ASt) (ops : Array Oper) (rest : List Oper) (k : List Xt) : Xm := match rest with | [] => toS s k | o :: _ => aOper T s ops o
def aItem (T : Tab) (s : ASt) (i : Xt) (k : List Xt) : Xm :=
 match i with
 | .code c => aCode T s c k
 | .inBlock _ => toS s k
 | .inScope _ => toS s k
 | .inLoop b => toS s (.code b :: .inLoop b :: k)
 | .inRegion ops rest => aReg1 T s ops rest k
 | .inDraw ops t V base => aDraw T s ops t V base k
 | .beginRound => aBegin s k
 | .endRangeFunc l => aEndRF s l k
 | .inRangeFunc _ => .stuck
def aExec (T : Tab) (s : ASt) : Xm :=
 match s.fr.todo with
 | [] => aLeave s none
 | i :: k => aItem T s i k
def aResults (T : Tab) (A : Xd) (fr : Xh) (rs : List ResultVar) : Option (List Value) :=
 match rs with
 | [] => some []
 | .tmp t :: r => (match Yl fr.vars fr.over t, aResults T A fr r with | some v, some l => some (v :: l) | _, _ => none)
 | .cell a t :: r => (match Yl fr.vars fr.over a with
  | some p => (match opLoad T A t p, aResults T A fr r with | some (v, _), some l => some (v :: l) | _, _ => none)
  | none => none)
def tup (vs : List Value) : Value := match vs with | [v] => v | vs => .tuple ⟨vs⟩
def dropRec (l : List PanicEntry) : List PanicEntry := l.dropWhile (!·.goexit)
def forgetD (ds : List (Nat × Nat)) (vars : List (Option Value)) : List (Option Value) :=
 match ds with
 | [] => vars
 | (d, _) :: r => forgetD r (lset none vars d)
def aUnwind (T : Tab) (s : ASt) : Xm :=
 match s.fr.defers with
 | { target := .collected b, .. } :: ds =>
  (match s.A.heap.get b with
   | some (.deferred (some calls)) => .next { s with fr := { s.fr with defers := app calls ds }, A := YT s.A b (.deferred none) }
   | _ => .stuck)
 | { target := .fn (.func f) captured, args := args } :: ds =>
  (match YZ T f (app args.toList captured.toList) .deferred with
   | some fr => .next { fr := fr, cs := { s.fr with defers := ds } :: s.cs, A := s.A }
   | none => .stuck)
 | _ :: _ => .stuck
 | [] =>
  match s.fr.mode with
  | .run => .stuck
  | .panicking chain => (match s.cs, T.fn.get s.fr.fn with | c :: rest, some _ => (match c.todo with
   | .inDraw ops _ _ _ :: _ => .next { s with fr := { c with mode := rais c.mode chain, vars := forgetD (Xv ops.toList).dsts c.vars, over := [], todo := [] }, cs := rest }
   | _ => .next { s with fr := { c with mode := rais c.mode chain }, cs := rest }) | _, _ => .stuck)
  | .returning =>
   match T.fn.get s.fr.fn with
   | none => .stuck
   | some a =>
    match aResults T s.A s.fr a.results with
    | none => .stuck
    | some vs =>
     match s.cs, s.fr.kind, s.fr.roundOf with
     | [], .normal, none => .done s.fr.fn (tup vs)
     | c :: rest, .normal, none => (match c.drawFinish (tup vs) with | some c' => .next { s with fr := c', cs := rest } | none => .stuck)
     | c :: rest, .deferred, none =>
      (match c.mode with
       | .panicking ({ recovered := true, .. } :: older) =>
        (match dropRec older with
         | [] => .next { s with fr := { c with mode := .returning }, cs := rest }
         | r => .next { s with fr := { c with mode := .panicking r }, cs := rest })
       | .run => .stuck
       | _ => .next { s with fr := c, cs := rest })
     | _, _, _ => .stuck
def astep (T : Tab) (s : ASt) : Xm :=
 match s.fr.mode with
 | .run => aExec T s
 | _ => aUnwind T s
end
section
def PERel (μ : Mu) (a b : PanicEntry) : Prop := Xj μ a.v b.v /\ a.recovered = b.recovered /\ a.goexit = b.goexit
theorem PERel.mono {μ μ' : Mu} (h : Mu.Le μ μ') {a b : PanicEntry} (k : PERel μ a b) : PERel μ' a b := ⟨k.1.mono h, k.2⟩
inductive Kg (μ : Mu) : AMode -> FrameMode -> Prop
 | run : Kg μ .run .run
 | returning : Kg μ .returning .returning
 | panicking {a b : List PanicEntry} (h : XE (PERel μ) a b) : Kg μ (.panicking a) (.panicking b)
theorem Kg.mono {μ μ' : Mu} (h : Mu.Le μ μ') {a : AMode} {b : FrameMode} (k : Kg μ a b) : Kg μ' a b := by
 cases k with
 | run => exact .run
 | returning => exact .returning
 | panicking hl => exact .panicking (hl.mono fun _ _ => PERel.mono h)
inductive Yk (μ : Mu) : Xt -> Item -> Prop
 | code (c : Code) : Yk μ (.code c) (.code c)
 | inBlock (id : Nat) : Yk μ (.inBlock id) (.inBlock id)
 | inLoop (c : Code) : Yk μ (.inLoop c) (.inLoop c)
 | inScope (c : Code) : Yk μ (.inScope c) (.inScope c)
 | inRegion {ops : Array Oper} {i : Nat} (h : i <= ops.size) : Yk μ (.inRegion ops (ops.toList.drop i)) (.inRegion ops (List.range' i (ops.size - i)))
 | inRangeFunc {l : Nat} {e : Ent} (h : μ l = some e) : Yk μ (.inRangeFunc l) (.inRangeFunc e.blk)
 | endRangeFunc {l : Nat} {e : Ent} (h : μ l = some e) : Yk μ (.endRangeFunc l) (.endRangeFunc e.blk)
 | beginRound : Yk μ .beginRound .beginRound
theorem Yk.mono {μ μ' : Mu} (h : Mu.Le μ μ') {a : Xt} {b : Item} (k : Yk μ a b) : Yk μ' a b := by
 cases k with
 | code c => exact .code c
 | inBlock id => exact .inBlock id
 | inLoop c => exact .inLoop c
 | inScope c => exact .inScope c
 | inRegion hi => exact .inRegion hi
 | inRangeFunc hl => exact .inRangeFunc (h _ _ hl)
 | endRangeFunc hl => exact .endRangeFunc (h _ _ hl)
 | beginRound => exact .beginRound
inductive KD (μ : Mu) : Option Nat -> Option Nat -> Prop
 | none : KD μ none none
 | some {l : Nat} {e : Ent} (h : μ l = some e) : KD μ (some l) (some e.blk)
theorem KD.mono {μ μ' : Mu} (h : Mu.Le μ μ') {a b : Option Nat} (k : KD μ a b) : KD μ' a b := by
 cases k with
 | none => exact .none
 | some hl => exact .some (h _ _ hl)
structure Core (μ : Mu) (fr : Xh) (fr' : Frame) : Prop where
 fn : fr'.fn = fr.fn
 kind : fr'.kind = fr.kind
 round : KD μ fr.roundOf fr'.roundOf
 defers : XE (DefRel μ) fr.defers fr'.defers
 mode : Kg μ fr.mode fr'.mode
theorem Core.mono {μ μ' : Mu} (h : Mu.Le μ μ') {a : Xh} {b : Frame} (k : Core μ a b) : Core μ' a b :=
 ⟨k.fn, k.kind, k.round.mono h, k.defers.mono fun _ _ => DefRel.mono h, k.mode.mono h⟩
abbrev YM (μ : Mu) : List Xt -> List Item -> Prop := XE (Yk μ)
theorem YM.mono {μ μ' : Mu} (h : Mu.Le μ μ') {a : List Xt} {b : List Item} (k : YM μ a b) : YM μ' a b := XE.mono (fun _ _ => Yk.mono h) k
structure YQ (μ : Mu) (fr : Xh) (fr' : Frame) : Prop where
 core : Core μ fr fr'
 tm : TRel μ fr.nt fr.vars fr.over fr'.tmps
 todo : fr.mode = .run -> YM μ fr.todo fr'.todo
theorem YQ.mono {μ μ' : Mu} (h : Mu.Le μ μ') {a : Xh} {b : Frame} (k : YQ μ a b) : YQ μ' a b :=
 ⟨k.core.mono h, k.tm.mono h, fun hm => (k.todo hm).mono h⟩
def PendOk (T : Tab) (A : Xd) (D : DI) (V : List (Nat × Value)) (vars : List (Option Value)) (over : List (Nat × Value)) (base j : Nat) (o : Oper) (v : Value) : Prop :=
 ∃ Vi : List (Nat × Value), (∀ k u, Xp Vi k = some u -> Xp V k = some u) /\
  ((Ku D Vi o j = some false /\ v = undef) \/
   (Ku D Vi o j = some true /\ ∃ ob mk, alop T (dev T.nglob D Vi vars over j) o.op = some (ob, mk) /\ v = mk (base + j) /\ A.heap.get (base + j) = some ob /\ notGrownB ob = true))
structure Ki (T : Tab) (μ : Mu) (A : Xd) (lo hi : Nat) (nt : Nat) (vars : List (Option Value)) (over : List (Nat × Value)) (ops : Array Oper) (t : Nat) (V : List (Nat × Value)) (base : Nat) (rest : List Nat) (tm : Array Value) : Prop where
 ok : okDraw ops.toList nt = true
 nt : nt <= tm.size
 lo : lo <= base
 hi : base + ops.size <= hi
 ord : ∃ S : List Nat, (S ++ rest).Pairwise (fun a b => X2 (Xv ops.toList) b a = false) /\ (S ++ rest).Nodup /\ ∀ i, i ∈ S ++ rest ↔ i < ops.size
 chain : rest.filter (fun i => mem i (Xv ops.toList).chain) = (Xv ops.toList).chain.drop t
 done : ∀ i o, i ∉ rest -> ops[i]? = some o -> ∃ v, Xp V i = some v /\ ∀ d, o.dst = some d -> ∃ v', tm[d]? = some v' /\ Xj μ v v'
 old : ∀ u v, Yl vars over u = some v -> (∀ k, Xp (Xv ops.toList).dsts u = some k -> k ∈ rest) -> ∃ v', tm[u]? = some v' /\ Xj μ v v'
 pend : ∀ j o, j ∈ rest -> ops[j]? = some o -> isAl o.op = true -> μ (base + j) = none /\ ∀ v, Xp V j = some v -> PendOk T A (Xv ops.toList) V vars over base j o v
def Kept (n : Nat) (μ : Mu) (A A' : Xd) : Prop := ∀ b o, b < n -> μ b = none -> A.heap.get b = some o -> notGrownB o = true -> A'.heap.get b = some o
theorem notGrown_of {o : Xg} (h : notGrownB o = true) : o.notGrown := by
 cases o with
 | cells xs k => cases k with
  | fixed ro => trivial
  | seen => trivial
  | grown g => cases h
 | _ => trivial
theorem Ye.kept {μ : Mu} {A A' : Xd} (h : Ye μ A A') (n : Nat) : Kept n μ A A' := fun b o _ h1 h2 h3 => h.2 b o h1 h2 (notGrown_of h3)
theorem PendOk.mono {T : Tab} {A A' : Xd} {D : DI} {V V' : List (Nat × Value)} {vars : List (Option Value)} {over : List (Nat × Value)} {base j : Nat} {o : Oper} {v : Value}
  (h : PendOk T A D V vars over base j o v) (hV : ∀ k u, Xp V k = some u -> Xp V' k = some u)
  (hA : ∀ ob, A.heap.get (base + j) = some ob -> notGrownB ob = true -> A'.heap.get (base + j) = some ob) : PendOk T A' D V' vars over base j o v := by
 obtain ⟨Vi, h1, h2⟩ := h
 refine ⟨Vi, fun k u hk => hV k u (h1 k u hk), ?_⟩
 rcases h2 with h2 | ⟨h2, ob, mk, h3, h4, h5, h6⟩
 ·exact .inl h2
 ·exact .inr ⟨h2, ob, mk, h3, h4, hA ob h5 h6, h6⟩
theorem Ki.mono {T : Tab} {μ μ' : Mu} {A A' : Xd} {lo hi hi' nt : Nat} {vars : List (Option Value)} {over : List (Nat × Value)} {ops : Array Oper} {t : Nat} {V : List (Nat × Value)} {base : Nat} {rest : List Nat} {tm : Array Value}
  (h : Ki T μ A lo hi nt vars over ops t V base rest tm) (hm : Mu.Ext hi μ μ') (hA : Kept hi μ A A') (hhi : hi <= hi') : Ki T μ' A' lo hi' nt vars over ops t V base rest tm where
 ok := h.ok
 nt := h.nt
 lo := h.lo
 hi := Nat.le_trans h.hi hhi
 ord := h.ord
 chain := h.chain
 done := fun i o h1 h2 => let ⟨v, a, b⟩ := h.done i o h1 h2; ⟨v, a, fun d hd => let ⟨v', c, e⟩ := b d hd; ⟨v', c, e.mono hm.1⟩⟩
 old := fun u v h1 h2 => let ⟨v', a, b⟩ := h.old u v h1 h2; ⟨v', a, b.mono hm.1⟩
 pend := fun j o h1 h2 h3 => by
  obtain ⟨a, b⟩ := h.pend j o h1 h2 h3
  have hj : base + j < hi := by
   have := (Array.getElem?_eq_some_iff.1 h2).1
   have := h.hi
   omega
  exact ⟨hm.2 _ hj a, fun v hv => (b v hv).mono (fun _ _ h => h) fun ob h5 h6 => hA _ _ hj a h5 h6⟩
inductive FRel (T : Tab) (μ : Mu) (A : Xd) (lo hi : Nat) (fr : Xh) (fr' : Frame) : Prop
 | plain (h : YQ μ fr fr')
 | draw {ops : Array Oper} {t : Nat} {V : List (Nat × Value)} {base : Nat} {k : List Xt} {rest : List Nat} {k' : List Item} (core : Core μ fr fr') (run : fr.mode = .run)
   (h1 : fr.todo = .inDraw ops t V base :: k) (h2 : fr'.todo = .inRegion ops rest :: k') (h3 : YM μ k k')
   (h4 : Ki T μ A lo hi fr.nt fr.vars fr.over ops t V base rest fr'.tmps)
inductive CRel (T : Tab) (μ : Mu) (A : Xd) (lo hi : Nat) (fr : Xh) (fr' : Frame) : Prop
 | plain (h : YQ μ fr fr')
 | wait {ops : Array Oper} {t c : Nat} {V : List (Nat × Value)} {base : Nat} {k : List Xt} {rest : List Nat} {k' : List Item} (core : Core μ fr fr') (run : fr.mode = .run)
   (h1 : fr.todo = .inDraw ops (Nat.succ t) V base :: k) (h2 : fr'.todo = .inRegion ops (c :: rest) :: k') (h3 : YM μ k k') (hc : nth (Xv ops.toList).chain t = some c)
   (h4 : Ki T μ A lo hi fr.nt fr.vars fr.over ops t V base (c :: rest) fr'.tmps)
theorem CRel.mono {T : Tab} {μ μ' : Mu} {A A' : Xd} {lo hi hi' : Nat} {fr : Xh} {fr' : Frame} (h : CRel T μ A lo hi fr fr') (hm : Mu.Ext hi μ μ') (hA : Kept hi μ A A') (hhi : hi <= hi') : CRel T μ' A' lo hi' fr fr' := by
 cases h with
 | plain h => exact .plain (h.mono hm.1)
 | wait core run h1 h2 h3 hc h4 => exact .wait (core.mono hm.1) run h1 h2 (h3.mono hm.1) hc (h4.mono hm hA hhi)
inductive Kf (T : Tab) (μ : Mu) (A : Xd) : Nat -> List Xh -> List Frame -> Prop
 | nil (hi : Nat) : Kf T μ A hi [] []
 | cons {lo hi : Nat} {c : Xh} {c' : Frame} {cs : List Xh} {cs' : List Frame} (h : CRel T μ A lo hi c c') (hl : lo <= hi) (t : Kf T μ A lo cs cs') : Kf T μ A hi (c :: cs) (c' :: cs')
theorem Mu.Ext.le {n m : Nat} (h : n <= m) {μ μ' : Mu} (k : Mu.Ext m μ μ') : Mu.Ext n μ μ' := ⟨k.1, fun b hb => k.2 b (by omega)⟩
theorem Kept.le {n m : Nat} (h : n <= m) {μ : Mu} {A A' : Xd} (k : Kept m μ A A') : Kept n μ A A' := fun b o hb => k b o (by omega)
theorem Kf.mono {T : Tab} {μ μ' : Mu} {A A' : Xd} {hi hi' : Nat} {cs : List Xh} {cs' : List Frame} (h : Kf T μ A hi cs cs') (hm : Mu.Ext hi μ μ') (hA : Kept hi μ A A') (hhi : hi <= hi') : Kf T μ' A' hi' cs cs' := by
 induction h generalizing hi' with
 | nil hi => exact .nil _
 | cons h hl t ih => exact .cons (h.mono hm hA hhi) (Nat.le_trans hl hhi) (ih (hm.le hl) (hA.le hl) (Nat.le_refl _))
structure SRel (T : Tab) (B : Nat) (μ : Mu) (s : ASt) (fr' : Frame) (cs' : List Frame) (w : World) : Prop where
 mem : Xs μ B s.A w.heap
 glob : GRel μ T.nglob T.anc
 fr : ∃ lo, lo <= s.A.next /\ FRel T μ s.A lo s.A.next s.fr fr' /\ Kf T μ s.A lo s.cs cs'
def Kh (P : Program) (T : Tab) (B : Nat) (cs0 : List Frame) (m : Machine) (w : World) (s' : ASt) : Prop :=
 ∃ μ fr' cs' w', SRel T B μ s' fr' cs' w' /\ Steps P m (lone fr' (cs' ++ cs0) w') /\ Below B w w'
end
section
variable {P : Program} {T : Tab} {B : Nat} {cs0 : List Frame}
def Out (P : Program) (T : Tab) (B : Nat) (cs0 : List Frame) (fr' : Frame) (cs' : List Frame) (w : World) : Xm -> Prop
 | .next s' => Kh P T B cs0 (lone fr' (cs' ++ cs0) w) w s'
 | .branch l => ∃ s' ∈ l, Kh P T B cs0 (lone fr' (cs' ++ cs0) w) w s'
 | .done f v => ∃ μ v', fr'.leaving P w (.returned v') /\ Xj μ v v' /\ fr'.fn = f /\ cs' = []
 | .stuck => True
theorem GRel.mono {μ μ' : Mu} {N : Nat} {ν : Mu} (h : GRel μ N ν) (hm : Mu.Le μ μ') : GRel μ' N ν := ⟨fun g hg => hm _ _ (h.1 g hg), h.2.trans hm⟩
def putC (tm : Array Value) (d : Option Tmp) (v : Value) : Array Value := match d with | some d => tm.setIfInBounds d v | none => tm
theorem put_ok {μ : Mu} {fr fr1 : Xh} {tm : Array Value} (h : TRel μ fr.nt fr.vars fr.over tm) {d : Option Tmp} {v v' : Value} (hv : Xj μ v v') (hp : fr.put d v = some fr1) :
  TRel μ fr.nt fr1.vars fr1.over (putC tm d v') /\ fr1 = { fr with vars := fr1.vars, over := fr1.over } := by
 cases d with
 | none => injection hp with hp; subst hp; exact ⟨h, rfl⟩
 | some t =>
  have hp : (match Nat.blt t fr.nt, tset fr.vars fr.over t v with | true, (vs, ov) => some { fr with vars := vs, over := ov } | false, _ => none) = some fr1 := hp
  split at hp
  ·rename_i vs ov ht he
   injection hp with hp; subst hp
   have := h.set (t := t) (v := v) (v' := v') (by simpa using ht) hv
   rw [he] at this
   exact ⟨this, rfl⟩
  ·cases hp
theorem item_region {μ : Mu} {ops : Array Oper} {o : Oper} {rest : List Oper} {y : Item} (h : Yk μ (.inRegion ops (o :: rest)) y) :
  ∃ i, i < ops.size /\ ops[i]? = some o /\ rest = ops.toList.drop (i + 1) /\ y = .inRegion ops (i :: List.range' (i + 1) (ops.size - (i + 1))) := by
 generalize hx : Xt.inRegion ops (o :: rest) = x at h
 cases h with
 | @inRegion ops' i hi =>
  injection hx with h1 h2
  subst h1
  have hlt : i < ops.size := by
   rcases Nat.lt_or_ge i ops.size with h | h
   ·exact h
   ·rw [List.drop_eq_nil_of_le (by simpa using h)] at h2; cases h2
  have hd := List.drop_eq_getElem_cons (l := ops.toList) (i := i) (by simpa using hlt)
  rw [hd] at h2
  injection h2 with h2 h3
  refine ⟨i, hlt, ?_, h3, ?_⟩
  ·rw [h2]; simp [hlt]
  ·have : ops.size - i = (ops.size - (i + 1)) + 1 := by omega
   rw [this, List.range'_succ]
 | _ => cases hx
theorem Ks {μ : Mu} {fr fr1 : Xh} {fr' : Frame} (h : YQ μ fr fr') (hr : fr.mode = .run) {v v' : Value} (hv : Xj μ v v') (hf : fr.finish v = some fr1) : YQ μ fr1 (fr'.finish v') := by
 unfold Xh.finish at hf
 split at hf
 ·rename_i ops o rest k ht
  have htd := h.todo hr
  rw [ht] at htd
  obtain ⟨y, k', hk, hy, hk'⟩ := htd.cons_left
  obtain ⟨i, hi, ho, hrr, rfl⟩ := item_region hy
  obtain ⟨p1, p2⟩ := put_ok (fr := { fr with todo := .inRegion ops rest :: k }) (tm := fr'.tmps) h.tm hv hf
  have hc := h.core
  have hfin : fr'.finish v' = { fr' with tmps := putC fr'.tmps o.dst v', todo := .inRegion ops (List.range' (i + 1) (ops.size - (i + 1))) :: k' } := by
   simp only [Frame.finish, hk, ho, Option.bind_some]
   cases o.dst <;> rfl
  rw [hfin]
  rw [p2]
  exact ⟨⟨hc.fn, hc.kind, hc.round, hc.defers, hc.mode⟩, p1, fun _ => .cons (hrr ▸ .inRegion (by omega)) hk'⟩
 ·rename_i l k ht
  injection hf with hf; subst hf
  have htd := h.todo hr
  rw [ht] at htd
  obtain ⟨y, k', hk, hy, hk'⟩ := htd.cons_left
  cases hy with
  | @inRangeFunc _ e hl =>
   have hc := h.core
   have hfin : fr'.finish v' = { fr' with todo := .endRangeFunc e.blk :: k' } := by simp only [Frame.finish, hk]
   rw [hfin]
   exact ⟨⟨hc.fn, hc.kind, hc.round, hc.defers, hc.mode⟩, h.tm, fun _ => .cons (.endRangeFunc hl) hk'⟩
 ·rename_i k ht
  injection hf with hf; subst hf
  have htd := h.todo hr
  rw [ht] at htd
  obtain ⟨y, k', hk, hy, hk'⟩ := htd.cons_left
  cases hy
  have hc := h.core
  have hfin : fr'.finish v' = { fr' with todo := k' } := by simp only [Frame.finish, hk]
  rw [hfin]
  exact ⟨⟨hc.fn, hc.kind, hc.round, hc.defers, hc.mode⟩, h.tm, fun _ => hk'⟩
 ·cases hf
theorem todo_kind {μ : Mu} {fr : Xh} {fr' : Frame} (h : YQ μ fr fr') (hr : fr.mode = .run) : (match fr'.todo with | .call _ true _ _ :: _ => CallKind.wrapped | _ => .normal) = .normal := by
 have ht := h.todo hr
 generalize hx : fr.todo = x at ht
 generalize hy : fr'.todo = y at ht
 cases x with
 | nil => rw [ht.nil_left]
 | cons a x =>
  obtain ⟨b, y', rfl, hab, _⟩ := ht.cons_left
  cases hab <;> rfl
theorem nones_get (n t : Nat) : (Nat.rec (motive := fun _ => List (Option Value)) [] (fun _ r => none :: r) n)[t]? = some none \/ (Nat.rec (motive := fun _ => List (Option Value)) [] (fun _ r => none :: r) n : List (Option Value))[t]? = none := by
 induction n generalizing t with
 | zero => exact .inr rfl
 | succ n ih =>
  cases t with
  | zero => exact .inl rfl
  | succ t => simpa using ih t
theorem somes_eq (xs : List Value) : (List.rec (motive := fun _ => List (Option Value)) [] (fun v _ r => some v :: r) xs) = xs.map some := by
 induction xs with
 | nil => rfl
 | cons x xs ih => exact congrArg (some x :: ·) ih
theorem enter_ok (C : Xy P T) {μ : Mu} {f : FuncId} {args : List Value} {args' : Array Value} (ha : Xo μ args args'.toList) {kind : CallKind} {fr1 : Xh} (h : YZ T f args kind = some fr1) :
  YQ μ fr1 (Frame.enter P f args' kind) := by
 unfold YZ at h
 split at h
 case h_2 => cases h
 rename_i a hf
 injection h with h; subst h
 obtain ⟨fn, h1, h2, h3, h4⟩ := C.fn f a hf
 have he : Frame.enter P f args' kind = { fn := f, tmps := args' ++ Array.replicate (a.ntmps - args'.size) undef, todo := [.code a.body], defers := [], mode := .run, kind := kind } := by
  simp [Frame.enter, h1, h2, h3]
 rw [he]
 refine ⟨⟨rfl, rfl, .none, .nil, .run⟩, ⟨?_, ?_⟩, fun _ => .cons (.code _) .nil⟩
 ·simp; omega
 ·intro t v hv
  unfold Yl at hv
  rw [XT, Yi, somes_eq] at hv
  rcases Nat.lt_or_ge t args.length with hlt | hge
  ·rw [List.getElem?_append_left (by simpa using hlt)] at hv
   simp only [List.getElem?_map, List.getElem?_eq_getElem hlt, Option.map_some] at hv
   injection hv with hv; subst hv
   obtain ⟨y, hy, hr⟩ := ha.get (List.getElem?_eq_getElem hlt)
   refine ⟨y, ?_, hr⟩
   have hlt' : t < args'.size := by have := ha.1; simp at this; omega
   rw [Array.getElem?_append_left hlt']; simpa using hy
  ·rw [List.getElem?_append_right (by simpa using hge)] at hv
   rcases nones_get (Nat.sub a.nvars (len args)) (t - (args.map some).length) with h0 | h0
   ·rw [h0] at hv; cases hv
   ·rw [h0] at hv; cases hv
theorem aBranch_mem {s : ASt} : ∀ {rs : List (Value × Xd)} {l : List ASt}, aBranch s rs = some l -> ∀ r ∈ rs, ∃ fr, s.fr.finish r.1 = some fr /\ { s with fr := fr, A := r.2 } ∈ l := by
 intro rs
 induction rs with
 | nil => intro l _ r hr; cases hr
 | cons r0 rs ih =>
  intro l h r hr
  unfold aBranch at h
  split at h
  case h_2 => cases h
  rename_i fr l' hf hl
  injection h with h; subst h
  rcases List.mem_cons.1 hr with rfl | hr
  ·exact ⟨fr, hf, by simp⟩
  ·obtain ⟨fr2, a, b⟩ := ih hl r hr
   exact ⟨fr2, a, by simp [b]⟩
theorem rais_ok {μ : Mu} {m : AMode} {fr' : Frame} (h : Kg μ m fr'.mode) {vs vs' : List PanicEntry} (hv : XE (PERel μ) vs vs') : Kg μ (rais m vs) (fr'.raise vs').mode := by
 generalize hm : fr'.mode = m' at h
 cases h with
 | run => simp only [Frame.raise, hm]; exact .panicking hv
 | returning => simp only [Frame.raise, hm]; exact .panicking hv
 | panicking hl => simp only [Frame.raise, hm]; exact .panicking (hv.app hl)
theorem raise_core {μ : Mu} {fr : Xh} {fr' : Frame} (h : Core μ fr fr') {vs vs' : List PanicEntry} (hv : XE (PERel μ) vs vs') : Core μ { fr with mode := rais fr.mode vs } (fr'.raise vs') := by
 have hm := rais_ok h.mode hv
 refine ⟨?_, ?_, ?_, ?_, hm⟩
 ·rw [← h.fn]; unfold Frame.raise; split <;> rfl
 ·rw [← h.kind]; unfold Frame.raise; split <;> rfl
 ·have := h.round; unfold Frame.raise; split <;> exact this
 ·have := h.defers; unfold Frame.raise; split <;> exact this
theorem raise_plain {μ : Mu} {fr : Xh} {fr' : Frame} (h : YQ μ fr fr') {vs vs' : List PanicEntry} (hv : XE (PERel μ) vs vs') : YQ μ { fr with mode := rais fr.mode vs } (fr'.raise vs') := by
 refine ⟨raise_core h.core hv, ?_, ?_⟩
 ·have := h.tm; unfold Frame.raise; split <;> exact this
 ·intro hm
  exfalso
  have hm : rais fr.mode vs = .run := hm
  unfold rais at hm
  split at hm <;> cases hm
theorem inM_ok (C : Xy P T) {μ : Mu} {f : FuncId} {args : List Value} {args' : Array Value} {A : Xd} {w : World} {fr : Xh} {cs : List Xh} {cs' : List Frame} (R : Xs μ B A w.heap) (G : GRel μ T.nglob T.anc) (ha : Xo μ args args'.toList)
  (he : YZ T f args .normal = some fr) (hs : Kf T μ A A.next cs cs') : Kh P T B cs0 (lone (Frame.enter P f args' .normal) (cs' ++ cs0) w) w (inM T f args fr cs A) := by
 unfold inM
 split
 ·rename_i nt ov A' hg
  obtain ⟨μ', fr2, w2, ext, R', hn, hA, ⟨f1, f2, f3, f4, f5⟩, htm, hst, hb⟩ := mTry_ok C R G ha hg (cs' ++ cs0)
  refine ⟨μ', fr2, cs', w2, ⟨R', G.mono ext.1, A.next, hn, .plain ⟨⟨f1, f2, by rw [f3]; exact .none, by rw [f4]; exact .nil, by rw [f5]; exact .returning⟩, htm, fun h => by cases h⟩, ?_⟩, hst, hb⟩
  exact hs.mono ext (fun b o hb _ h _ => by rw [hA b hb]; exact h) (Nat.le_refl _)
 ·exact ⟨μ, _, cs', w, ⟨R, G, A.next, Nat.le_refl _, .plain (enter_ok C ha he), hs⟩, Steps.refl _ _, Below.refl _ _⟩
theorem apply_ok (C : Xy P T) {μ : Mu} {s : ASt} {fr' : Frame} {cs' : List Frame} {w w0 : World} {m : Machine} {lo : Nat}
  (R : Xs μ B s.A w.heap) (G : GRel μ T.nglob T.anc) (hlo : lo <= s.A.next) (hp : YQ μ s.fr fr') (hrn : s.fr.mode = .run) (hs : Kf T μ s.A lo s.cs cs')
  {sem : Sem Next} (hstep : ∀ fr2 cs2 w2, (stepG.apply P true fr' (cs' ++ cs0) none sem w).bare = .go { frame := fr2, callers := cs2, status := .running, dying := none } w2 -> Steps P m (lone fr2 cs2 w2))
  (hw : Below B w0 w) {r : XH} (hr : Kn P T μ B s.A w sem r) :
  (∀ s', Yv T s r = .next s' -> Kh P T B cs0 m w0 s') /\ (∀ l, Yv T s r = .branch l -> ∃ s' ∈ l, Kh P T B cs0 m w0 s') /\ (∀ f v, Yv T s r ≠ .done f v) := by
 have hval : ∀ {v : Value} {A' : Xd} {fr1 : Xh}, NextVal P μ B s.A w sem v A' -> s.fr.finish v = some fr1 -> Kh P T B cs0 m w0 { s with fr := fr1, A := A' } := by
  intro v A' fr1 ⟨v', w', μ', h1, h2, h3, h4, h5, h6⟩ hf
  refine ⟨μ', fr'.finish v', cs', w', ⟨h3, G.mono h2.1, lo, Nat.le_trans hlo h6.1, .plain (Ks (hp.mono h2.1) hrn h4 hf), hs.mono (h2.le hlo) (h6.kept _) (Nat.le_refl _)⟩, ?_, hw.trans h5⟩
  refine hstep _ _ _ ?_
  simp [stepG.apply, h1]
 cases r with
 | val v A' =>
  have hr : NextVal P μ B s.A w sem v A' := hr
  simp only [Yv, apVal]
  split
  ·rename_i fr1 hf
   refine ⟨?_, nofun, nofun⟩
   intro s' e; injection e with e; subst e
   exact hval hr hf
  ·exact ⟨nofun, nofun, nofun⟩
 | skip A' =>
  obtain ⟨w', h1, h3, h5, h6⟩ := hr
  simp only [Yv, apVal]
  split
  ·rename_i fr1 hf
   refine ⟨?_, nofun, nofun⟩
   intro s' e; injection e with e; subst e
   refine ⟨μ, fr'.finish undef, cs', w', ⟨h3, G, lo, Nat.le_trans hlo h6.1, .plain (Ks hp hrn (Xo.tuple .nil) hf), hs.mono (Mu.Ext.refl _ _) (h6.kept _) (Nat.le_refl _)⟩, ?_, hw.trans h5⟩
   refine hstep _ _ _ ?_
   simp [stepG.apply, h1]
  ·exact ⟨nofun, nofun, nofun⟩
 | enter f args =>
  obtain ⟨args', h1, h2, a, ha⟩ := hr
  simp only [Yv, apEnter]
  split
  ·rename_i fr1 hf
   refine ⟨?_, nofun, nofun⟩
   intro s' e; injection e with e; subst e
   obtain ⟨μ', fr2, cs2, w2, k1, k2, k3⟩ := inM_ok (cs0 := cs0) C R G h2 hf (.cons (.plain hp) hlo hs)
   refine ⟨μ', fr2, cs2, w2, k1, Steps.trans ?_ k2, hw.trans k3⟩
   refine hstep _ _ _ ?_
   have hk := todo_kind hp hrn
   simp only [stepG.apply, Sem.runT_eq, h1, if_true, GStep.bare_after, GStep.bare_go]
   exact congrArg (fun kd => GStep.go { frame := Frame.enter P f args' kd, callers := fr' :: (cs' ++ cs0), status := .running, dying := none } w) hk
  ·exact ⟨nofun, nofun, nofun⟩
 | defer d =>
  obtain ⟨d', h1, h2⟩ := hr
  simp only [Yv, apDefer]
  split
  ·rename_i fr1 hro hf
   refine ⟨?_, nofun, nofun⟩
   intro s' e; injection e with e; subst e
   have hp1 : YQ μ { s.fr with defers := d :: s.fr.defers } { fr' with defers := d' :: fr'.defers } := ⟨⟨hp.core.fn, hp.core.kind, hp.core.round, .cons h2 hp.core.defers, hp.core.mode⟩, hp.tm, hp.todo⟩
   refine ⟨μ, ({ fr' with defers := d' :: fr'.defers } : Frame).finish undef, cs', w, ⟨R, G, lo, hlo, .plain (Ks hp1 hrn (Xo.tuple .nil) hf), hs⟩, ?_, hw⟩
   refine hstep _ _ _ ?_
   simp only [stepG.apply, Sem.runT_eq, h1, if_true, GStep.bare_after, GStep.bare_go]
  ·exact ⟨nofun, nofun, nofun⟩
 | panic v =>
  obtain ⟨v', h1, h2⟩ := hr
  simp only [Yv, apPanic]
  refine ⟨?_, nofun, nofun⟩
  intro s' e; injection e with e; subst e
  refine ⟨μ, fr'.raise [{ v := v', recovered := false }], cs', w, ⟨R, G, lo, hlo, .plain (raise_plain hp (.cons ⟨h2, rfl, rfl⟩ .nil)), hs⟩, ?_, hw⟩
  refine hstep _ _ _ ?_
  simp [stepG.apply, h1]
 | round l L vs ov =>
  obtain ⟨e, tm, h1, h2, h3, h4⟩ := hr
  simp only [Yv, apRound]
  refine ⟨?_, nofun, nofun⟩
  intro s' e; injection e with e; subst e
  refine ⟨μ, Frame.round e.blk L.fn tm L.assign L.body .normal, fr' :: cs', w, ⟨R, G, s.A.next, Nat.le_refl _, .plain ⟨⟨rfl, rfl, .some h1, .nil, .run⟩, h4, fun _ => .cons (.code _) (.cons .beginRound (.cons (.code _) .nil))⟩, .cons (.plain hp) hlo hs⟩, ?_, hw⟩
  refine hstep _ _ _ ?_
  simp only [stepG.apply, Sem.runT_eq, h3, if_true, GStep.bare_after, GStep.bare_go]
  rfl
 | branch rs =>
  obtain ⟨r, hr1, hr2⟩ := hr
  simp only [Yv, apBranch]
  split
  ·rename_i l hl
   refine ⟨nofun, ?_, nofun⟩
   intro l' e; injection e with e; subst e
   obtain ⟨fr1, hf, hm⟩ := aBranch_mem hl r hr1
   exact ⟨_, hm, hval hr2 hf⟩
  ·exact ⟨nofun, nofun, nofun⟩
 | recover =>
  have h1 : sem.run P w = .ok .recover w := hr
  simp only [Yv, apRecover]
  split
  case h_2 => exact ⟨nofun, nofun, nofun⟩
  rename_i c rest hro hkd hcs
  have hro' : fr'.roundOf = none := by
   have := hp.core.round
   rw [hro] at this
   generalize fr'.roundOf = ro at this
   cases this; rfl
  have hkd' : fr'.kind = .deferred := by rw [hp.core.kind, hkd]
  rw [hcs] at hs
  generalize hcs' : cs' = cs2 at hs
  cases hs with
  | @cons lo2 _ _ c' _ cs2' hc hl ht =>
  subst hcs'
  split
  ·rename_i v older hmode
   split
   case h_2 => exact ⟨nofun, nofun, nofun⟩
   rename_i fr1 hf
   refine ⟨?_, nofun, nofun⟩
   intro s' e; injection e with e; subst e
   cases hc with
   | wait core run => rw [hmode] at run; cases run
   | plain hc =>
   have hm := hc.core.mode
   rw [hmode] at hm
   generalize hm' : c'.mode = mm at hm
   cases hm with
   | panicking hl2 =>
   obtain ⟨y, older', rfl, hy, ho⟩ := hl2.cons_left
   obtain ⟨v', rc, gx⟩ := y
   obtain ⟨hv, rfl, rfl⟩ := hy
   refine ⟨μ, fr'.finish v', { c' with mode := .panicking ({ v := v', recovered := true } :: older') } :: cs2', w, ⟨R, G, lo, hlo, .plain (Ks hp hrn hv hf), .cons (.plain ⟨⟨hc.core.fn, hc.core.kind, hc.core.round, hc.core.defers, .panicking (.cons ⟨hv, rfl, rfl⟩ ho)⟩, hc.tm, fun h => by cases h⟩) hl ht⟩, ?_, hw⟩
   refine hstep _ _ _ ?_
   simp [stepG.apply, h1, hro', tryRecover, hkd', hm']
  ·exact ⟨nofun, nofun, nofun⟩
  ·rename_i hmode
   split
   case h_2 => exact ⟨nofun, nofun, nofun⟩
   rename_i fr1 hf
   refine ⟨?_, nofun, nofun⟩
   intro s' e; injection e with e; subst e
   have hm' : c'.mode = .returning := by
    have hm : Kg μ c.mode c'.mode := by cases hc with
     | plain hc => exact hc.core.mode
     | wait core => exact core.mode
    rw [hmode] at hm
    generalize c'.mode = mm at hm
    cases hm; rfl
   refine ⟨μ, fr'.finish .nilIface, c' :: cs2', w, ⟨R, G, lo, hlo, .plain (Ks hp hrn .nilIface hf), by rw [hcs]; exact .cons hc hl ht⟩, ?_, hw⟩
   refine hstep _ _ _ ?_
   simp [stepG.apply, h1, hro', tryRecover, hkd', hm']
  ·exact ⟨nofun, nofun, nofun⟩
end
section
variable {P : Program} {T : Tab} {B : Nat} {cs0 : List Frame}
theorem rho_plain {μ : Mu} {fr : Xh} {fr' : Frame} (G : GRel μ T.nglob T.anc) (h : TRel μ fr.nt fr.vars fr.over fr'.tmps) : RhoRel μ (Xn T.nglob fr.vars fr.over) fr'.eval := by
 intro x v hx
 cases x with
 | tmp t =>
  have hx : Yl fr.vars fr.over t = some v := hx
  obtain ⟨v', h1, h2⟩ := h.2 t v hx
  simp only [Frame.eval, Array.getD_eq_getD_getElem?, h1]
  exact h2
 | const c =>
  have hx : (match X5 c with | true => some c | false => none) = some v := hx
  split at hx
  ·rename_i hc; injection hx with hx; subst hx; exact XU hc μ
  ·cases hx
 | global g =>
  have hx : (match Nat.blt g T.nglob with | true => some (Value.pointer (some ⟨g, 0, none⟩)) | false => none) = some v := hx
  split at hx
  ·rename_i hc; injection hx with hx; subst hx
   exact .ptr (e := ⟨g, 0, none, 0⟩) (G.1 g (by simpa using hc))
  ·cases hx
 | func f =>
  injection hx with hx; subst hx
  exact Xo.func (fun l h => by cases h) .nil .nil
theorem exit_ok {μ : Mu} {id : Nat} : ∀ {k : List Xt} {k' : List Item}, YM μ k k' ->
  (∀ r, Kv id k = some r -> ∃ r', exitTo id k' = some r' /\ YM μ r r') /\ (Kv id k = none -> exitTo id k' = none) := by
 intro k
 induction k with
 | nil => intro k' h; rw [h.nil_left]; exact ⟨nofun, fun _ => rfl⟩
 | cons x k ih =>
  intro k' h
  obtain ⟨y, k2, rfl, hxy, ht⟩ := h.cons_left
  cases hxy with
  | inBlock id' =>
   simp only [Kv, exitTo]
   by_cases e : id' = id
   ·subst e
    simp
    exact ht
   ·have h1 : Nat.beq id' id = false := by cases h : Nat.beq id' id with | false => rfl | true => exact absurd (Nat.eq_of_beq_eq_true h) e
    have h2 : (id' == id) = false := by simpa using e
    rw [h1]
    simp only [h2]
    exact ih ht
  | _ => simpa [Kv, exitTo] using ih ht
end
section
theorem mem_eq {x : Nat} {l : List Nat} : mem x l = true ↔ x ∈ l := by
 induction l with
 | nil => simp [mem]
 | cons y l ih =>
  unfold mem
  split
  ·rename_i h; have := Nat.eq_of_beq_eq_true h; subst this; simp
  ·rename_i h; rw [ih]
   have hne : x ≠ y := fun e => by subst e; rw [Nat.beq_refl] at h; cases h
   simp [hne]
theorem mem_false {x : Nat} {l : List Nat} : mem x l = false ↔ x ∉ l := by
 rw [← mem_eq]; simp
theorem mem_uni {x : Nat} {a b : List Nat} : x ∈ uni a b ↔ x ∈ a \/ x ∈ b := by
 induction a with
 | nil => simp [uni]
 | cons y a ih =>
  unfold uni
  split
  ·rename_i h; rw [mem_eq] at h; rw [ih]; simp; grind
  ·rw [List.mem_cons, ih]; simp; grind
theorem mem_befOf {acc : List (List Nat)} {x : Nat} : ∀ {es : List Edge}, x ∈ befOf acc es ↔ ∃ e ∈ es, Region.binds .any e = true /\ (x = e.on \/ ∃ l, acc[e.on]? = some l /\ x ∈ l) := by
 intro es
 induction es with
 | nil => simp [befOf]
 | cons e es ih =>
  unfold befOf
  split
  ·rename_i h
   rw [mem_uni, ih, List.mem_cons, XT]
   constructor
   ·rintro ((rfl | hx) | ⟨e', a, b⟩)
    ·exact ⟨e, by simp, h, .inl rfl⟩
    ·split at hx
     ·rename_i l hl; exact ⟨e, by simp, h, .inr ⟨l, hl, hx⟩⟩
     ·cases hx
    ·exact ⟨e', by simp [a], b⟩
   ·rintro ⟨e', a, b, c⟩
    rcases List.mem_cons.1 a with rfl | a
    ·rcases c with rfl | ⟨l, hl, hx⟩
     ·exact .inl (.inl rfl)
     ·refine .inl (.inr ?_); rw [hl]; exact hx
    ·exact .inr ⟨e', a, b, c⟩
  ·rename_i h
   rw [ih]
   constructor
   ·rintro ⟨e', a, b⟩; exact ⟨e', by simp [a], b⟩
   ·rintro ⟨e', a, b, c⟩
    rcases List.mem_cons.1 a with rfl | a
    ·rw [h] at b; cases b
    ·exact ⟨e', a, b, c⟩
theorem befs_pre : ∀ (ops : List Oper) (acc : List (List Nat)) (i : Nat), i < acc.length -> (befs acc ops)[i]? = acc[i]? := by
 intro ops
 induction ops with
 | nil => intro acc i _; rfl
 | cons o ops ih =>
  intro acc i hi
  unfold befs
  rw [ih _ _ (by rw [Yi]; simp; omega), Yi, List.getElem?_append_left hi]
theorem befs_get : ∀ (ops : List Oper) (acc : List (List Nat)) (j : Nat) (o : Oper), ops[j]? = some o ->
  (befs acc ops)[acc.length + j]? = some (befOf ((befs acc ops).take (acc.length + j)) o.after.toList) := by
 intro ops
 induction ops with
 | nil => intro acc j o h; simp at h
 | cons o' ops ih =>
  intro acc j o h
  cases j with
  | zero =>
   simp at h; subst h
   unfold befs
   rw [befs_pre _ _ _ (by rw [Yi]; simp), Yi]
   simp only [Nat.add_zero, List.getElem?_append_right (Nat.le_refl _), Nat.sub_self, List.getElem?_cons_zero]
   congr 2
   have : ∀ (ops : List Oper) (acc acc2 : List (List Nat)), (befs (acc ++ acc2) ops).take acc.length = acc := by
    intro ops
    induction ops with
    | nil => intro acc acc2; simp [befs]
    | cons o ops ih => intro acc acc2; unfold befs; rw [Yi, List.append_assoc]; exact ih _ _
   exact (this _ _ _).symm
  | succ j =>
   simp at h
   have := ih (app acc [befOf acc o'.after.toList]) j o h
   unfold befs
   rw [Yi] at this ⊢
   simp only [List.length_append, List.length_singleton] at this
   have e : acc.length + (j + 1) = acc.length + 1 + j := by omega
   rw [e]
   exact this
theorem before_of {ops : List Oper} {k j : Nat} {o : Oper} (ho : ops[j]? = some o) (h : X2 (Xv ops) k j = true) :
  ∃ e ∈ o.after.toList, Region.binds .any e = true /\ (k = e.on \/ X2 (Xv ops) k e.on = true) := by
 have hg := befs_get ops [] j o ho
 simp at hg
 unfold X2 at h
 rw [XT] at h
 have h : (match (befs [] ops)[j]? with | some l => mem k l | none => false) = true := h
 rw [hg] at h
 rw [mem_eq, mem_befOf] at h
 obtain ⟨e, a, b, c⟩ := h
 refine ⟨e, a, b, ?_⟩
 rcases c with c | ⟨l, hl, hx⟩
 ·exact .inl c
 ·right
  unfold X2
  rw [XT]
  show (match (befs [] ops)[e.on]? with | some l => mem k l | none => false) = true
  have hlt : (befs [] ops)[e.on]? = some l := by
   rw [List.getElem?_take] at hl
   split at hl
   ·exact hl
   ·cases hl
  rw [hlt, mem_eq]; exact hx
theorem mem_chainOf {ops : List Oper} : ∀ {n x : Nat}, x ∈ Ka ops n ↔ ∃ o, n <= x /\ ops[x - n]? = some o /\ isChain o.op = true := by
 induction ops with
 | nil => intro n x; simp [Ka]
 | cons o ops ih =>
  intro n x
  have hs : ∀ (o' : Oper), (n <= x /\ (o :: ops)[x - n]? = some o') ↔ (x = n /\ o = o') \/ (Nat.succ n <= x /\ ops[x - Nat.succ n]? = some o') := by
   intro o'
   constructor
   ·rintro ⟨a, b⟩
    rcases Nat.eq_or_lt_of_le a with e | h
    ·subst e; simp at b; exact .inl ⟨rfl, b⟩
    ·refine .inr ⟨h, ?_⟩
     have : x - n = (x - Nat.succ n) + 1 := by omega
     rw [this] at b; simpa using b
   ·rintro (⟨rfl, rfl⟩ | ⟨a, b⟩)
    ·simp
    ·refine ⟨by omega, ?_⟩
     have : x - n = (x - Nat.succ n) + 1 := by omega
     rw [this]; simpa using b
  have hs2 : (∃ o', n <= x /\ (o :: ops)[x - n]? = some o' /\ isChain o'.op = true) ↔ (x = n /\ isChain o.op = true) \/ ∃ o', Nat.succ n <= x /\ ops[x - Nat.succ n]? = some o' /\ isChain o'.op = true := by
   constructor
   ·rintro ⟨o', a, b, c⟩
    rcases (hs o').1 ⟨a, b⟩ with ⟨h1, rfl⟩ | ⟨h1, h2⟩
    ·exact .inl ⟨h1, c⟩
    ·exact .inr ⟨o', h1, h2, c⟩
   ·rintro (⟨h1, c⟩ | ⟨o', h1, h2, c⟩)
    ·obtain ⟨a, b⟩ := (hs o).2 (.inl ⟨h1, rfl⟩); exact ⟨o, a, b, c⟩
    ·obtain ⟨a, b⟩ := (hs o').2 (.inr ⟨h1, h2⟩); exact ⟨o', a, b, c⟩
  rw [hs2]
  unfold Ka
  split
  ·rename_i h; rw [ih]; simp [h]
  ·rename_i h; rw [List.mem_cons, ih]; simp [h]
end
section
theorem okEdges_spec {j : Nat} : ∀ {es : List Edge}, okEdges es j = true -> ∀ e ∈ es, Region.binds .any e = true -> e.on < j := by
 intro es
 induction es with
 | nil => intro _ e he; cases he
 | cons e0 es ih =>
  intro h e he hb
  unfold okEdges at h
  split at h
  ·cases h
  ·rename_i hne
   rcases List.mem_cons.1 he with rfl | he
   ·cases hlt : Nat.blt e.on j with
    | true => simpa using hlt
    | false => exact absurd hlt (hne hb)
   ·exact ih h e he hb
theorem hasD_spec {l : List (Nat × Nat)} {g : Nat} (h : hasD l g = true) : ∃ d, (d, g) ∈ l := by
 induction l with
 | nil => cases h
 | cons p l ih =>
  unfold hasD at h
  split at h
  ·rename_i hb; exact ⟨p.1, by rw [← Nat.eq_of_beq_eq_true hb]; exact List.mem_cons_self⟩
  ·obtain ⟨d, hd⟩ := ih h; exact ⟨d, List.mem_cons_of_mem _ hd⟩
structure OkOp (D : DI) (o : Oper) (j : Nat) : Prop where
 edges : okEdges o.after.toList j = true
 guard : ∀ g want, o.guard = some (g, want) -> X2 D g j = true /\ ∃ d, (d, g) ∈ D.dsts
theorem okOps_spec {D : DI} : ∀ {ops : List Oper} {n : Nat}, okOps D ops n = true -> ∀ j o, ops[j]? = some o -> OkOp D o (n + j) := by
 intro ops
 induction ops with
 | nil => intro n _ j o h; simp at h
 | cons o0 ops ih =>
  intro n h j o ho
  unfold okOps at h
  split at h
  case h_2 => cases h
  rename_i h2 h3
  cases j with
  | zero =>
   simp at ho; subst ho
   refine ⟨h2, ?_⟩
   intro g want hg
   rw [hg] at h3
   have h3 : (match X2 D g (n + 0) with | true => hasD D.dsts g | false => false) = true := h3
   split at h3
   ·rename_i hb; exact ⟨hb, hasD_spec h3⟩
   ·cases h3
  | succ j =>
   simp at ho
   have := ih h j o ho
   have e : n + (j + 1) = Nat.succ n + j := by omega
   rw [e]; exact this
theorem mem_dstsOf {ops : List Oper} : ∀ {n d i : Nat}, (d, i) ∈ dstsOf ops n ↔ ∃ o, n <= i /\ ops[i - n]? = some o /\ o.dst = some d := by
 induction ops with
 | nil => intro n d i; simp [dstsOf]
 | cons o ops ih =>
  intro n d i
  have hs2 : (∃ o', n <= i /\ (o :: ops)[i - n]? = some o' /\ o'.dst = some d) ↔ (i = n /\ o.dst = some d) \/ ∃ o', Nat.succ n <= i /\ ops[i - Nat.succ n]? = some o' /\ o'.dst = some d := by
   constructor
   ·rintro ⟨o', a, b, c⟩
    rcases Nat.eq_or_lt_of_le a with e | h
    ·subst e; simp at b; subst b; exact .inl ⟨rfl, c⟩
    ·refine .inr ⟨o', h, ?_, c⟩
     have : i - n = (i - Nat.succ n) + 1 := by omega
     rw [this] at b; simpa using b
   ·rintro (⟨rfl, c⟩ | ⟨o', a, b, c⟩)
    ·exact ⟨o, by omega, by simp, c⟩
    ·refine ⟨o', by omega, ?_, c⟩
     have : i - n = (i - Nat.succ n) + 1 := by omega
     rw [this]; simpa using b
  rw [hs2]
  unfold dstsOf
  split
  ·rename_i d0 h
   rw [List.mem_cons, ih, h]
   constructor
   ·rintro (h1 | h1)
    ·injection h1 with a b; subst a; subst b; exact .inl ⟨rfl, rfl⟩
    ·exact .inr h1
   ·rintro (⟨rfl, c⟩ | h1)
    ·injection c with c; subst c; exact .inl rfl
    ·exact .inr h1
  ·rename_i h; rw [ih, h]; simp
theorem lookD_none {l : List (Nat × Nat)} {k : Nat} : lookD l k = none -> ∀ i, (k, i) ∉ l := by
 induction l with
 | nil => intro _ i h; cases h
 | cons p l ih =>
  obtain ⟨a, b⟩ := p
  intro h i hm
  unfold lookD at h
  split at h
  ·cases h
  ·rename_i hne
   rcases List.mem_cons.1 hm with e | hm
   ·injection e with e1 e2; subst e1; rw [Nat.beq_refl] at hne; cases hne
   ·exact ih h i hm
theorem nodupD_look {l : List (Nat × Nat)} (h : nodupD l = true) : ∀ {d i : Nat}, (d, i) ∈ l ↔ Xp l d = some i := by
 induction l with
 | nil => intro d i; simp [alook_nil]
 | cons p l ih =>
  intro d i
  unfold nodupD at h
  split at h
  case h_2 => cases h
  rename_i hn
  have hn := lookD_none hn
  obtain ⟨a, b⟩ := p
  rw [XD, List.mem_cons]
  by_cases e : a = d
  ·subst e
   simp
   constructor
   ·rintro (rfl | h1)
    ·rfl
    ·exact absurd h1 (hn i)
   ·intro h1; exact .inl h1.symm
  ·simp [e, Ne.symm e]
   exact ih h
theorem okDst_spec {nt : Nat} {l : List (Nat × Nat)} (h : okDst nt l = true) : ∀ p ∈ l, p.1 < nt := by
 induction l with
 | nil => intro p hp; cases hp
 | cons q l ih =>
  intro p hp
  unfold okDst at h
  split at h
  case h_2 => cases h
  rename_i hq
  rcases List.mem_cons.1 hp with rfl | hp
  ·simpa using hq
  ·exact ih h p hp
end
section
theorem linearise_go_acc' (md : Region.Mode) (ops : Array Oper) : ∀ (fuel t : Nat) (listed : Array Bool) (acc : List Nat),
  Region.linearise.go md ops fuel t listed acc = acc.reverse ++ Region.linearise.go md ops fuel t listed [] := by
 intro fuel
 induction fuel with
 | zero => intro t listed acc; simp [Region.linearise.go]
 | succ fuel ih =>
  intro t listed acc
  simp only [Region.linearise.go]
  split
  ·rename_i i hi
   rw [ih _ _ (i :: acc), ih _ _ [i]]; simp
  ·simp
def Shut (D : DI) (listed : Array Bool) : Prop := ∀ j, listed.getD j false = true -> ∀ k, X2 D k j = true -> listed.getD k false = true
theorem Kp {listed : Array Bool} {i j : Nat} (hi : i < listed.size) : (listed.setIfInBounds i true).getD j false = true ↔ j = i \/ listed.getD j false = true := by
 simp only [Array.getD_eq_getD_getElem?, Array.getElem?_setIfInBounds]
 by_cases e : i = j
 ·subst e; simp [hi]
 ·simp [e, Ne.symm e]
theorem linearise_ok {ops : Array Oper} (hok : ∀ j o, ops[j]? = some o -> okEdges o.after.toList j = true) : ∀ (fuel t : Nat) (listed : Array Bool), listed.size = ops.size -> Shut (Xv ops.toList) listed ->
  ((List.range ops.size).filter fun i => !listed.getD i false).length <= fuel ->
  (Region.linearise.go .any ops fuel t listed []).Nodup /\ (∀ i, i ∈ Region.linearise.go .any ops fuel t listed [] ↔ i < ops.size /\ listed.getD i false = false) /\
  (Region.linearise.go .any ops fuel t listed []).Pairwise (fun a b => X2 (Xv ops.toList) b a = false) := by
 intro fuel
 induction fuel with
 | zero =>
  intro t listed hsz _ hf
  simp only [Region.linearise.go, List.reverse_nil]
  refine ⟨List.nodup_nil, fun i => ⟨fun h => (by cases h), fun ⟨h1, h2⟩ => ?_⟩, List.Pairwise.nil⟩
  have : i ∈ ((List.range ops.size).filter fun i => !listed.getD i false) := by
   rw [List.mem_filter]; exact ⟨by simpa using h1, by rw [h2]; rfl⟩
  have h0 := List.eq_nil_of_length_eq_zero (Nat.le_zero.1 hf)
  rw [h0] at this; cases this
 | succ fuel ih =>
  intro t listed hsz hsh hf
  simp only [Region.linearise.go]
  generalize hrs : ((List.range ops.size).filter fun i => !listed.getD i true && ((ops[i]?).map (·.after.all fun e => !Region.binds .any e || listed.getD e.on false)).getD false) = rs
  have hready : ∀ i, i ∈ rs ↔ ∃ o, ops[i]? = some o /\ listed.getD i false = false /\ ∀ e ∈ o.after, Region.binds .any e = true -> listed.getD e.on false = true := by
   intro i
   rw [← hrs, List.mem_filter]
   constructor
   ·rintro ⟨h1, h2⟩
    have hlt : i < ops.size := by simpa using h1
    rw [Array.getElem?_eq_getElem hlt] at h2 ⊢
    simp only [Option.map_some, Option.getD_some, Bool.and_eq_true, Bool.not_eq_true', Array.all_eq_true'] at h2
    refine ⟨_, rfl, ?_, ?_⟩
    ·have := h2.1
     simp only [Array.getD_eq_getD_getElem?, Array.getElem?_eq_getElem (show i < listed.size by omega)] at this ⊢
     exact this
    ·intro e he hb
     have := h2.2 e he
     rw [hb] at this
     simpa using this
   ·rintro ⟨o, ho, h1, h2⟩
    have hlt := (Array.getElem?_eq_some_iff.1 ho).1
    refine ⟨by simpa using hlt, ?_⟩
    rw [ho]
    simp only [Option.map_some, Option.getD_some, Bool.and_eq_true, Bool.not_eq_true', Array.all_eq_true']
    refine ⟨?_, ?_⟩
    ·simp only [Array.getD_eq_getD_getElem?, Array.getElem?_eq_getElem (show i < listed.size by omega)] at h1 ⊢
     exact h1
    ·intro e he
     cases hb : Region.binds .any e with
     | false => rfl
     | true => simpa using h2 e he hb
  have hnext : ∀ i, i ∈ rs -> (i < ops.size /\ listed.getD i false = false /\ Shut (Xv ops.toList) (listed.setIfInBounds i true)) := by
   intro i hi
   obtain ⟨o, ho, h1, h2⟩ := (hready i).1 hi
   have hlt := (Array.getElem?_eq_some_iff.1 ho).1
   refine ⟨hlt, h1, ?_⟩
   intro j hj k hk
   rw [Kp (by omega)] at hj ⊢
   rcases hj with rfl | hj
   ·obtain ⟨e, he, hb, hc⟩ := before_of (ops := ops.toList) (by simpa using ho) hk
    have hl := h2 e (by simpa using he) hb
    rcases hc with rfl | hc
    ·exact .inr hl
    ·exact .inr (hsh _ hl _ hc)
   ·exact .inr (hsh _ hj _ hk)
  split
  ·rename_i i hi
   have him : i ∈ rs := List.mem_of_getElem? hi
   obtain ⟨hlt, h1, hsh'⟩ := hnext i him
   rw [linearise_go_acc']
   simp only [List.reverse_cons, List.reverse_nil, List.nil_append, List.singleton_append]
   have hcnt : ((List.range ops.size).filter fun j => !(listed.setIfInBounds i true).getD j false).length <= fuel := by
    have hsub : ((List.range ops.size).filter fun j => !(listed.setIfInBounds i true).getD j false) = ((List.range ops.size).filter fun j => !listed.getD j false).erase i := by
     rw [List.Nodup.erase_eq_filter (List.nodup_range.filter _), List.filter_filter]
     apply List.filter_congr
     intro j _
     have := Kp (listed := listed) (i := i) (j := j) (by omega)
     cases hj : (listed.setIfInBounds i true).getD j false with
     | true =>
      rcases this.1 hj with rfl | h
      ·simp
      ·rw [h]; simp
     | false =>
      have hn : ¬(j = i \/ listed.getD j false = true) := fun h => by rw [this.2 h] at hj; cases hj
      have hn1 : j ≠ i := fun e => hn (.inl e)
      have hn2 : listed.getD j false = false := by cases h : listed.getD j false with
       | false => rfl
       | true => exact absurd (.inr h) hn
      rw [hn2]; simp [hn1]
    have hmem : i ∈ ((List.range ops.size).filter fun j => !listed.getD j false) := by
     rw [List.mem_filter]; exact ⟨by simpa using hlt, by rw [h1]; rfl⟩
    rw [hsub, List.length_erase_of_mem hmem]
    omega
   obtain ⟨a, b, c⟩ := ih (t / rs.length) (listed.setIfInBounds i true) (by simpa using hsz) hsh' hcnt
   have hnot : ∀ j, j ∈ Region.linearise.go .any ops fuel (t / rs.length) (listed.setIfInBounds i true) [] -> j ≠ i /\ (listed.setIfInBounds i true).getD j false = false := by
    intro j hj
    have h2 := ((b j).1 hj).2
    refine ⟨?_, h2⟩
    rintro rfl
    rw [(Kp (by omega)).2 (.inl rfl)] at h2; cases h2
   refine ⟨?_, ?_, ?_⟩
   ·exact List.nodup_cons.2 ⟨fun hm => (hnot i hm).1 rfl, a⟩
   ·intro j
    rw [List.mem_cons, b]
    constructor
    ·rintro (rfl | ⟨h2, h3⟩)
     ·exact ⟨hlt, h1⟩
     ·refine ⟨h2, ?_⟩
      cases h : listed.getD j false with
      | false => rfl
      | true => rw [(Kp (by omega)).2 (.inr h)] at h3; cases h3
    ·rintro ⟨h2, h3⟩
     by_cases e : j = i
     ·exact .inl e
     ·refine .inr ⟨h2, ?_⟩
      cases h : (listed.setIfInBounds i true).getD j false with
      | false => rfl
      | true =>
       rcases (Kp (by omega)).1 h with h | h
       ·exact absurd h e
       ·rw [h3] at h; cases h
   ·refine List.pairwise_cons.2 ⟨?_, c⟩
    intro j hj
    obtain ⟨hne, hjl⟩ := hnot j hj
    cases hb : X2 (Xv ops.toList) j i with
    | false => rfl
    | true =>
     have := hsh' i ((Kp (by omega)).2 (.inl rfl)) j hb
     rw [this] at hjl; cases hjl
  ·rename_i hnone
   have hrs0 : rs = [] := by
    cases rs with
    | nil => rfl
    | cons x xs =>
     have hlt : t % (x :: xs).length < (x :: xs).length := Nat.mod_lt _ (by simp)
     rw [List.getElem?_eq_getElem hlt] at hnone; cases hnone
   simp only [List.reverse_nil]
   refine ⟨List.nodup_nil, fun i => ⟨fun h => (by cases h), fun ⟨h1, h2⟩ => ?_⟩, List.Pairwise.nil⟩
   exfalso
   have hall : ∀ m, m < ops.size -> listed.getD m false = true := by
    intro m
    induction m using Nat.strongRecOn with
    | _ m ihm =>
     intro hm
     cases hlm : listed.getD m false with
     | true => rfl
     | false =>
      have ho := Array.getElem?_eq_getElem hm
      have : m ∈ rs := (hready m).2 ⟨_, ho, hlm, fun e he hb => by
       have := okEdges_spec (hok m _ ho) e (by simpa using he) hb
       exact ihm e.on this (by omega)⟩
      rw [hrs0] at this; cases this
   rw [hall i h1] at h2; cases h2
theorem schedule_ok {ops : Array Oper} (hok : ∀ j o, ops[j]? = some o -> okEdges o.after.toList j = true) (t : Nat) :
  (Region.schedule true ops t).Nodup /\ (∀ i, i ∈ Region.schedule true ops t ↔ i < ops.size) /\ (Region.schedule true ops t).Pairwise (fun a b => X2 (Xv ops.toList) b a = false) := by
 have hz : ∀ j, (Array.replicate ops.size false).getD j false = false := by
  intro j
  simp only [Array.getD_eq_getD_getElem?, Array.getElem?_replicate]
  split <;> rfl
 have := linearise_ok hok ops.size t (Array.replicate ops.size false) (by simp) (fun j hj => by rw [hz] at hj; cases hj)
  (by refine Nat.le_trans (List.length_filter_le _ _) (by simp))
 simp only [Region.schedule, Bool.true_or, if_true, Region.linearise]
 refine ⟨this.1, fun i => ?_, this.2.2⟩
 rw [this.2.1]; simp [hz]
end
section
theorem YI {ops : List Oper} {nt : Nat} (h : okDraw ops nt = true) :
  okOps (Xv ops) ops 0 = true /\ okChain (Xv ops) (Xv ops).chain = true /\ nodupD (Xv ops).dsts = true /\ okDst nt (Xv ops).dsts = true := by
 unfold okDraw at h
 split at h
 ·rename_i a b c d; exact ⟨a, b, c, d⟩
 ·cases h
theorem before_lt {ops : Array Oper} {nt : Nat} (h : okDraw ops.toList nt = true) : ∀ {j k : Nat} {o : Oper}, ops[j]? = some o -> X2 (Xv ops.toList) k j = true -> k < j := by
 intro j
 induction j using Nat.strongRecOn with
 | _ j ih =>
  intro k o ho hb
  obtain ⟨e, he, hbe, hc⟩ := before_of (ops := ops.toList) (by simpa using ho) hb
  have hok := (okOps_spec (YI h).1 j o (by simpa using ho)).edges
  rw [Nat.zero_add] at hok
  have hlt := okEdges_spec hok e he hbe
  rcases hc with rfl | hc
  ·exact hlt
  ·have hj := (Array.getElem?_eq_some_iff.1 ho).1
   have := ih e.on hlt (Array.getElem?_eq_getElem (show e.on < ops.size by omega)) hc
   omega
theorem dst_look {ops : Array Oper} {nt : Nat} (h : okDraw ops.toList nt = true) {i : Nat} {o : Oper} (ho : ops[i]? = some o) {d : Tmp} (hd : o.dst = some d) :
  Xp (Xv ops.toList).dsts d = some i /\ d < nt := by
 obtain ⟨_, _, h3, h4⟩ := YI h
 have hm : (d, i) ∈ (Xv ops.toList).dsts := mem_dstsOf.2 ⟨o, Nat.zero_le _, by simpa using ho, hd⟩
 exact ⟨(nodupD_look h3).1 hm, okDst_spec h4 _ hm⟩
theorem putC_size (tm : Array Value) (d : Option Tmp) (v : Value) : (putC tm d v).size = tm.size := by cases d <;> simp [putC]
theorem putC_other {tm : Array Value} {d : Option Tmp} {v : Value} {u : Nat} (h : d ≠ some u) : (putC tm d v)[u]? = tm[u]? := by
 cases d with
 | none => rfl
 | some x =>
  simp only [putC, Array.getElem?_setIfInBounds]
  have : x ≠ u := fun e => h (by rw [e])
  simp [this]
theorem putC_same {tm : Array Value} {d : Tmp} {v : Value} (h : d < tm.size) : (putC tm (some d) v)[d]? = some v := by
 simp [putC, h]
variable {P : Program} {T : Tab} {B : Nat}
theorem Ki.exec' {μ μ' : Mu} {A : Xd} {lo hi nt : Nat} {vars : List (Option Value)} {over : List (Nat × Value)} {ops : Array Oper} {t t' : Nat} {V V' : List (Nat × Value)} {base i : Nat} {rest : List Nat} {tm : Array Value}
  (h : Ki T μ A lo hi nt vars over ops t V base (i :: rest) tm) {o : Oper} (ho : ops[i]? = some o) {v v' : Value} (hv : Xj μ' v v')
  (hm : Mu.Le μ μ') (hpd : ∀ j, j ∈ rest -> μ (base + j) = none -> μ' (base + j) = none)
  (ht : (mem i (Xv ops.toList).chain = true /\ t' = t + 1) \/ (mem i (Xv ops.toList).chain = false /\ t' = t))
  (hV : (V' = V /\ Xp V i = some v) \/ (V' = (i, v) :: V /\ Xp V i = none)) : Ki T μ' A lo hi nt vars over ops t' V' base rest (putC tm o.dst v') := by
 obtain ⟨S, h1, h2, h3⟩ := h.ord
 have hnd : (i :: rest).Nodup := h2.sublist (List.sublist_append_right _ _)
 have hi : i ∉ rest := (List.nodup_cons.1 hnd).1
 have hVi : Xp V' i = some v := by
  rcases hV with ⟨rfl, h⟩ | ⟨rfl, _⟩
  ·exact h
  ·simp [XD]
 have hVo : ∀ j, j ≠ i -> Xp V' j = Xp V j := by
  intro j hj
  rcases hV with ⟨rfl, _⟩ | ⟨rfl, _⟩
  ·rfl
  ·simp [XD, Ne.symm hj]
 have hVs : ∀ k u, Xp V k = some u -> Xp V' k = some u := by
  intro k u hk
  by_cases e : k = i
  ·subst e
   rcases hV with ⟨rfl, _⟩ | ⟨rfl, hn⟩
   ·exact hk
   ·rw [hn] at hk; cases hk
  ·rw [hVo k e]; exact hk
 refine ⟨h.ok, by rw [putC_size]; exact h.nt, h.lo, h.hi, ⟨S ++ [i], by simpa using h1, by simpa using h2, fun j => by rw [← h3 j]; simp⟩, ?_, ?_, ?_, ?_⟩
 ·have hc := h.chain
  rw [List.filter_cons] at hc
  rcases ht with ⟨ht, rfl⟩ | ⟨ht, rfl⟩
  ·rw [ht, if_pos rfl] at hc
   have : (Xv ops.toList).chain.drop (t + 1) = ((Xv ops.toList).chain.drop t).drop 1 := by rw [List.drop_drop]
   rw [this, ← hc]; rfl
  ·rw [ht] at hc; simpa using hc
 ·intro j o' hj ho'
  by_cases e : j = i
  ·subst e
   rw [ho] at ho'; injection ho' with ho'; subst ho'
   refine ⟨v, hVi, fun d hd => ⟨v', ?_, hv⟩⟩
   rw [hd]
   exact putC_same (Nat.lt_of_lt_of_le (dst_look h.ok ho hd).2 h.nt)
  ·obtain ⟨u, a, b⟩ := h.done j o' (fun hm => (List.mem_cons.1 hm).elim e hj) ho'
   refine ⟨u, by rw [hVo j e]; exact a, fun d hd => ?_⟩
   obtain ⟨u', c, f⟩ := b d hd
   refine ⟨u', ?_, f.mono hm⟩
   rw [putC_other]
   ·exact c
   ·intro hd2
    have x1 := (dst_look h.ok ho' hd).1
    have x2 := (dst_look h.ok ho hd2).1
    rw [x1] at x2; injection x2 with x2; exact e x2
 ·intro u w hu hk
  obtain ⟨w', a, b⟩ := h.old u w hu (fun k hk' => List.mem_cons_of_mem _ (hk k hk'))
  refine ⟨w', ?_, b.mono hm⟩
  rw [putC_other]
  ·exact a
  ·intro hd2
   exact hi (hk i (dst_look h.ok ho hd2).1)
 ·intro j o' hj ho' hal
  obtain ⟨a, b⟩ := h.pend j o' (List.mem_cons_of_mem _ hj) ho' hal
  refine ⟨hpd j hj a, fun u hu => ?_⟩
  have hne : j ≠ i := fun e => hi (e ▸ hj)
  rw [hVo j hne] at hu
  exact (b u hu).mono hVs fun _ h _ => h
theorem Ki.exec {μ : Mu} {A : Xd} {lo hi nt : Nat} {vars : List (Option Value)} {over : List (Nat × Value)} {ops : Array Oper} {t t' : Nat} {V V' : List (Nat × Value)} {base i : Nat} {rest : List Nat} {tm : Array Value}
  (h : Ki T μ A lo hi nt vars over ops t V base (i :: rest) tm) {o : Oper} (ho : ops[i]? = some o) {v v' : Value} (hv : Xj μ v v')
  (ht : (mem i (Xv ops.toList).chain = true /\ t' = t + 1) \/ (mem i (Xv ops.toList).chain = false /\ t' = t))
  (hV : (V' = V /\ Xp V i = some v) \/ (V' = (i, v) :: V /\ Xp V i = none)) : Ki T μ A lo hi nt vars over ops t' V' base rest (putC tm o.dst v') :=
 h.exec' ho hv (Mu.Le.refl _) (fun _ _ h => h) ht hV
theorem rho_draw {μ : Mu} {A : Xd} {lo hi : Nat} {fr : Xh} {fr' : Frame} {ops : Array Oper} {t : Nat} {V Vi : List (Nat × Value)} {base i : Nat} {rest : List Nat} (G : GRel μ T.nglob T.anc)
  (h : Ki T μ A lo hi fr.nt fr.vars fr.over ops t V base (i :: rest) fr'.tmps) (hVi : ∀ k u, Xp Vi k = some u -> Xp V k = some u) :
  RhoRel μ (dev T.nglob (Xv ops.toList) Vi fr.vars fr.over i) fr'.eval := by
 obtain ⟨S, h1, h2, h3⟩ := h.ord
 have hlt : ∀ k, k ∈ S ++ i :: rest -> k < ops.size := fun k => (h3 k).1
 have hpw := List.pairwise_append.1 h1
 intro x v hx
 cases x with
 | tmp u =>
  have hx : dtmp (Xv ops.toList) Vi fr.vars fr.over i u = some v := hx
  have hgo : (∃ v', fr'.tmps[u]? = some v' /\ Xj μ v v') -> Xj μ v (fr'.eval (.tmp u)) := by
   rintro ⟨v', a, b⟩
   simp only [Frame.eval, Array.getD_eq_getD_getElem?, a]
   exact b
  refine hgo ?_
  unfold dtmp at hx
  have hkd : ∀ k, Xp (Xv ops.toList).dsts u = some k -> ∃ o, ops[k]? = some o /\ o.dst = some u := by
   intro k hk
   have hm := (nodupD_look (YI h.ok).2.2.1).2 hk
   obtain ⟨o, _, a, b⟩ := mem_dstsOf.1 hm
   exact ⟨o, by simpa using a, b⟩
  split at hx
  ·rename_i k hk
   obtain ⟨o, ho, hd⟩ := hkd k hk
   have hks : k ∈ S ++ i :: rest := (h3 k).2 (Array.getElem?_eq_some_iff.1 ho).1
   split at hx
   ·rename_i hb
    -- done
    have hnr : k ∉ i :: rest := by
     intro hm
     rcases List.mem_cons.1 hm with rfl | hm
     ·have := before_lt h.ok ho hb; omega
     ·have := (List.pairwise_cons.1 hpw.2.1).1 k hm
      rw [hb] at this; cases this
    obtain ⟨w, a, b⟩ := h.done k o hnr ho
    rw [hVi k v hx] at a; injection a with a; subst a
    exact b u hd
   ·have hin : k ∈ i :: rest -> ∃ v', fr'.tmps[u]? = some v' /\ Xj μ v v' := by
     intro hm
     refine h.old u v ?_ (fun k2 hk2 => by rw [hk] at hk2; injection hk2 with hk2; subst hk2; exact hm)
     split at hx
     ·exact hx
     ·split at hx
      ·exact hx
      ·cases hx
    apply hin
    split at hx
    ·rename_i he; rw [Nat.eq_of_beq_eq_true he]; exact List.mem_cons_self
    ·split at hx
     ·rename_i hb
      rcases List.mem_append.1 hks with hm | hm
      ·have := hpw.2.2 k hm i List.mem_cons_self
       rw [hb] at this; cases this
      ·exact hm
     ·cases hx
  ·rename_i hn
   exact h.old u v hx (fun k hk => by rw [hn] at hk; cases hk)
 | const c =>
  have hx : (match X5 c with | true => some c | false => none) = some v := hx
  split at hx
  ·rename_i hc; injection hx with hx; subst hx; exact XU hc μ
  ·cases hx
 | global g =>
  have hx : (match Nat.blt g T.nglob with | true => some (Value.pointer (some ⟨g, 0, none⟩)) | false => none) = some v := hx
  split at hx
  ·rename_i hc; injection hx with hx; subst hx
   exact .ptr (e := ⟨g, 0, none, 0⟩) (G.1 g (by simpa using hc))
  ·cases hx
 | func f =>
  injection hx with hx; subst hx
  exact Xo.func (fun l h => by cases h) .nil .nil
end
section
variable {P : Program} {T : Tab} {B : Nat}
theorem yield_ok {μ : Mu} {ops : Array Oper} {tm : Array Value} {g : Nat} {og : Oper} (hg : ops[g]? = some og) {u u' : Value} {d : Tmp} (hd : og.dst = some d) (ht : tm[d]? = some u') (hu : Xj μ u u') {want b : Bool}
  (h : aYielded (some u) want = some b) : (yielded ops tm g == some want) = b := by
 have hy : yielded ops tm g = (match u' with | .bool b => some b | _ => none) := by
  unfold yielded
  simp only [hg, Option.bind_some, hd, ht]
  cases u' <;> rfl
 rw [hy]
 cases hu with
 | bool x => cases x <;> cases want <;> injection h with h <;> subst h <;> rfl
 | tuple hn hx => cases want <;> injection h with h <;> subst h <;> rfl
 | _ => cases want <;> cases h
theorem Kx {μ : Mu} {A : Xd} {lo hi nt : Nat} {vars : List (Option Value)} {over : List (Nat × Value)} {ops : Array Oper} {t : Nat} {V Vi : List (Nat × Value)} {base i : Nat} {rest : List Nat} {tm : Array Value}
  (h : Ki T μ A lo hi nt vars over ops t V base (i :: rest) tm) (hVi : ∀ k u, Xp Vi k = some u -> Xp V k = some u) {o : Oper} (ho : ops[i]? = some o) {b : Bool}
  (hw : Ku (Xv ops.toList) Vi o i = some b) : Region.wanted o (yielded ops tm) = b := by
 unfold Ku at hw
 unfold Region.wanted
 split at hw
 ·rename_i hg; injection hw with hw; subst hw; simp [hg]
 ·rename_i g want hg
  rw [hg]
  split at hw
  case h_2 => cases hw
  rename_i hb
  obtain ⟨S, h1, h2, h3⟩ := h.ord
  have hpw := List.pairwise_append.1 h1
  have hlt := before_lt h.ok ho hb
  have hgs : g < ops.size := by have := (Array.getElem?_eq_some_iff.1 ho).1; omega
  obtain ⟨og, hog⟩ : ∃ og, ops[g]? = some og := ⟨_, Array.getElem?_eq_getElem hgs⟩
  have hnr : g ∉ i :: rest := by
   intro hm
   rcases List.mem_cons.1 hm with rfl | hm
   ·omega
   ·have := (List.pairwise_cons.1 hpw.2.1).1 g hm
    rw [hb] at this; cases this
  obtain ⟨u, a, c⟩ := h.done g og hnr hog
  cases hVg : Xp Vi g with
  | none => rw [hVg] at hw; cases want <;> cases hw
  | some u0 =>
  have := hVi g u0 hVg
  rw [a] at this; injection this with this; subst this
  rw [hVg] at hw
  cases hd : og.dst with
  | none =>
   have hok := (okOps_spec (YI h.ok).1 i o (by simpa using ho)).guard g want hg
   obtain ⟨d, hdm⟩ := hok.2
   obtain ⟨o2, _, x1, x2⟩ := mem_dstsOf.1 hdm
   have x1 : ops[g]? = some o2 := by simpa using x1
   rw [hog] at x1; injection x1 with x1; subst x1
   rw [hd] at x2; cases x2
  | some d =>
   obtain ⟨u', e, f⟩ := c d hd
   exact yield_ok hog hd e f hw
end
section
end
end
end Go.Proofs.YtckflfichfnclaaGreatDoor.Sim
