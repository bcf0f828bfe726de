/- A machine that runs closed calls of the program by the kernel: operations that only read or compute. No condition. -/
import Derived.Laws.StructEq
import Derived.Test.YthcadcdfoenclaaGreatDoorSimA
namespace Go.Proofs.YthcadcdfoenclaaGreatDoor.Sim
open Go Go.RowKit

section
def closedCell : Value → Bool
  | .bool _ | .int _ _ | .string _ | .pointer none | .slice none 0 0 | .map none | .nilFunc | .nilIface => true
  | _ => false
noncomputable def closedB (v : Value) : Bool :=
  match v with
  | .agg cs => List.rec (motive := fun _ => Bool) true (fun c _ r => match closedCell c with | true => r | false => false) cs.toList
  | .tuple ⟨[]⟩ => true
  | v => closedCell v
theorem closedCell_rel {v : Value} (h : closedCell v = true) (μ : Mu) : VRel μ v v := by
  unfold closedCell at h
  split at h <;> first
    | exact .bool _
    | exact .int _ _
    | exact .string _
    | exact .nilptr
    | exact .nilslice
    | exact .nilmap
    | exact .nilFunc
    | exact .nilIface
    | cases h
theorem closedB_rel {v : Value} (h : closedB v = true) (μ : Mu) : VRel μ v v := by
  unfold closedB at h
  split at h
  · rename_i cs
    refine VsRel.agg ⟨rfl, fun i x y hx hy => ?_⟩
    rw [hx] at hy; injection hy with hy; subst hy
    have key : ∀ l : List Value, (List.rec (motive := fun _ => Bool) true (fun c _ r => match closedCell c with | true => r | false => false) l : Bool) = true → ∀ c ∈ l, closedCell c = true := by
      intro l
      induction l with
      | nil => intro _ c hc; simp at hc
      | cons a l ih =>
        intro hl c hc
        have hl' : (match closedCell a with | true => (List.rec (motive := fun _ => Bool) true (fun c _ r => match closedCell c with | true => r | false => false) l : Bool) | false => false) = true := hl
        cases ha : closedCell a with
        | false => rw [ha] at hl'; cases hl'
        | true =>
          rw [ha] at hl'
          rcases List.mem_cons.1 hc with rfl | hc
          · exact ha
          · exact ih hl' c hc
    exact closedCell_rel (key _ h _ (List.mem_of_getElem? hx)) μ
  · exact .tuple rfl (fun i x y hx => by simp at hx)
  · exact closedCell_rel h μ

structure TI where
  desc : TypeDesc
  size : Nat
  bytes : Nat
  zero : Value
  cmp : Bool

structure AFn where
  body : Code
  ntmps : Nat
  nvars : Nat
  results : List ResultVar

structure Memo where
  args : List Value
  ro : List (Nat × Bool × List Value)
  n0 : Nat
  nt : Nat
  res : List (Nat × Value)
  new : List (Nat × AObj)
  fams : List (Nat × List Nat)
  n1 : Nat
noncomputable def roH (l : List (Nat × Bool × List Value)) : Tr AObj := match l with | [] => .e | (k, b, xs) :: r => (roH r).put (some (.cells xs (match b with | true => .fixed true | false => .seen))) k
noncomputable def newH (l : List (Nat × AObj)) : Tr AObj := match l with | [] => .e | (k, o) :: r => (newH r).put (some o) k
noncomputable def famT (l : List (Nat × List Nat)) : Tr (List Nat) := match l with | [] => .e | (k, o) :: r => (famT r).put (some o) k
noncomputable def Memo.A0 (m : Memo) : AMem := { heap := roH m.ro, next := m.n0, fams := .e }
noncomputable def Memo.A1 (m : Memo) : AMem := { heap := newH m.new, next := m.n1, fams := famT m.fams }
def MemoOk (P : Program) (N : Nat) (f : FuncId) (m : Memo) : Prop :=
  ∀ {B : Nat} {μ : Mu} {w : World} {args' : Array Value} (cs0 : List Frame), MRel μ B m.A0 w.heap → (∀ g, g < N → μ g = some ⟨g, 0, none, 0⟩) → VsRel μ m.args args'.toList →
    ∃ μ1 fr2 w2, Mu.Le μ μ1 ∧ MRel μ1 B m.A1 w2.heap ∧ (fr2.fn = f ∧ fr2.kind = .normal ∧ fr2.roundOf = none ∧ fr2.defers = [] ∧ fr2.mode = .returning) ∧ TRel μ1 m.nt [] m.res fr2.tmps ∧
      Steps P (lone (Frame.enter P f args' .normal) cs0 w) (lone fr2 cs0 w2) ∧ Below B w w2

structure Tab where
  ty : Tr TI
  fn : Tr AFn
  eqs : Tr (List (TypeId × Nat))
  meth : Tr (List (String × FuncId))
  ext : Tr Nat
  nglob : Nat
  memo : Tr (List Memo) := .e
  anc : Mu := fun _ => none

def methOf (l : List (String × FuncId)) (name : String) : Option FuncId :=
  match l with
  | [] => none
  | (n, f) :: r => if n = name then some f else methOf r name

def ExtIs (k : Nat) (fn : Func) : Prop :=
  match k with
  | 0 => Extern.find fn = some Extern.BytealgCount.count
  | 1 => Extern.find fn = some Extern.BytealgIndexByte.indexByte
  | 2 => Extern.find fn = some Extern.BytealgCompare.compare
  | 10 => Extern.find fn = some (Extern.Atomic.loadT (.int .u32))
  | 11 => Extern.find fn = some Extern.Atomic.storeT
  | 12 => Extern.find fn = some (Extern.Atomic.casT (.int .i32))
  | 13 => Extern.find fn = some (Extern.Atomic.update (Op.intArith .add) .i32 true)
  | 20 => ∃ m : Addr → Mark, Extern.find fn = some (Extern.Race.marked m)
  | 21 => ∃ m : Mark, Extern.find fn = some (fun _ => do mark m; pure Extern.Race.none_)
  | _ => False
def ExtOk (P : Program) (f : FuncId) (k : Nat) : Prop :=
  ∃ fn, P.funcs[f]? = some fn ∧ fn.body = none ∧ (fn.name == "runtime.NumGoroutine") = false ∧ (Extern.findNext fn).isNone = true ∧ ExtIs k fn

structure Cert (P : Program) (T : Tab) : Prop where
  ty : ∀ t ti, T.ty.get t = some ti → P.underlying t = some ti.desc ∧ ∃ info, P.info? t = some info ∧ info.size = ti.size ∧ info.bytes = ti.bytes ∧ info.zero = some ti.zero ∧ info.comparable = ti.cmp ∧ closedB ti.zero = true ∧ ti.zero.cells.size = ti.size
  fn : ∀ f a, T.fn.get f = some a → ∃ fn, P.funcs[f]? = some fn ∧ fn.body = some a.body ∧ fn.ntmps = a.ntmps ∧ fn.results.toList = a.results ∧ (fn.name == "runtime.NumGoroutine") = false
  eqs : ∀ t l, T.eqs.get t = some l → P.eqGuardType P.depth t = false ∧
    (∀ fs, P.underlying t = some (.struct fs) → P.stoodInHeld t = false ∧ (fs.toList.filter fun f => decide (f.name ≠ "_")).map (fun f => (f.type, f.offset)) = l)
  meth : ∀ t l name f, T.meth.get t = some l → methOf l name = some f → ∀ v w, (method (P.types.size + Made.depth) t v name).run P w = .ok (f, v) w
  ext : ∀ f k, T.ext.get f = some k → ExtOk P f k
  mixed : P.follows .mixedOrders = true
  memo : ∀ f ms, T.memo.get f = some ms → ∀ m ∈ ms, MemoOk P T.nglob f m

section
variable {P : Program} {T : Tab} (C : Cert P T) {t : TypeId} {ti : TI} (h : T.ty.get t = some ti) (w : World)
include C h
theorem Cert.underlying : (underlying t).run P w = .ok ti.desc w := by
  obtain ⟨a, _⟩ := C.ty t ti h
  simp [Go.underlying, a]
theorem Cert.typeInfo : ∃ info, (typeInfo t).run P w = .ok info w ∧ info.size = ti.size ∧ info.bytes = ti.bytes ∧ info.zero = some ti.zero ∧ info.comparable = ti.cmp := by
  obtain ⟨_, info, a, b, c, d, e, _⟩ := C.ty t ti h
  exact ⟨info, by simp [Go.typeInfo, a], b, c, d, e⟩
theorem Cert.sizeOf : (sizeOf t).run P w = .ok ti.size w := by
  obtain ⟨info, a, b, _⟩ := C.typeInfo h w
  simp [Go.sizeOf, a, b]
theorem Cert.zeroValue : (zeroValue t).run P w = .ok ti.zero w := by
  obtain ⟨info, a, _, _, d, _⟩ := C.typeInfo h w
  simp [Go.zeroValue, a, d]
theorem Cert.closed : closedB ti.zero = true := by
  obtain ⟨_, info, _, _, _, _, _, e, _⟩ := C.ty t ti h
  exact e
theorem Cert.zsize : ti.zero.cells.size = ti.size := by
  obtain ⟨_, info, _, _, _, _, _, _, e⟩ := C.ty t ti h
  exact e
def isAggD : TypeDesc → Bool
  | .struct _ | .array _ _ => true
  | _ => false
theorem Cert.isAgg : (isAgg t).run P w = .ok (isAggD ti.desc) w := by
  simp only [Go.isAgg, Sem.run_bind, C.underlying h, Result.andThen_ok]
  unfold isAggD
  split <;> simp_all
end

def Ok (P : Program) (μ : Mu) (B : Nat) (A : AMem) (w : World) (s : Sem Value) (v : Value) (A' : AMem) : Prop :=
  ∃ v' w' μ', s.run P w = .ok v' w' ∧ Mu.Ext A.next μ μ' ∧ MRel μ' B A' w'.heap ∧ VRel μ' v v' ∧ Below B w w' ∧ Keep μ A A'
theorem Ok.pure {P : Program} {μ : Mu} {B : Nat} {A : AMem} {w : World} {s : Sem Value} {v v' : Value} (R : MRel μ B A w.heap) (h : s.run P w = .ok v' w) (hv : VRel μ v v') : Ok P μ B A w s v A :=
  ⟨v', w, μ, h, Mu.Ext.refl _ μ, R, hv, Below.refl _ _, Keep.refl _ _⟩

theorem new_rel {μ : Mu} {B : Nat} {A : AMem} {w : World} (R : MRel μ B A w.heap) {xs : List Value} {arr : Array Value} {t : TypeId} (hx : VsRel μ xs arr.toList) :
    MRel (μ.add A.next ⟨w.heap.size, 0, none, 0⟩) B (aalloc A (.cells xs (.fixed false))) (w.alloc (.cells arr t)).heap ∧ Keep μ A (aalloc A (.cells xs (.fixed false))) ∧ Below B w (w.alloc (.cells arr t)) ∧
      Mu.Ext A.next μ (μ.add A.next ⟨w.heap.size, 0, none, 0⟩) :=
  aalloc_spec R (show AObj.notGrown (.cells xs (.fixed false)) from trivial) fun _ hm => ⟨rfl, arr, t, (0, 0), heap_alloc_new _ _, hx.mono hm, fun _ => ⟨R.base, rfl⟩⟩

def AllocOk (P : Program) (μ : Mu) (B : Nat) (w : World) (s : Sem Value) (o : AObj) (mk : Nat → Value) : Prop :=
  ∃ (o' : Obj) (v' : Value), s.run P w = .ok v' (w.alloc o') ∧ o.notGrown ∧ (∀ μ' : Mu, Mu.Le μ μ' → ORel μ' B (w.alloc o').heap ⟨w.heap.size, 0, none, 0⟩ o) ∧
    (∀ (μ' : Mu) (n : Nat), μ' n = some ⟨w.heap.size, 0, none, 0⟩ → VRel μ' (mk n) v')
theorem AllocOk.ok {P : Program} {μ : Mu} {B : Nat} {A : AMem} {w : World} (R : MRel μ B A w.heap) {s : Sem Value} {o : AObj} {mk : Nat → Value} (h : AllocOk P μ B w s o mk) : Ok P μ B A w s (mk A.next) (aalloc A o) := by
  obtain ⟨o', v', h1, h2, h3, h4⟩ := h
  obtain ⟨a, b, c, d⟩ := aalloc_spec R h2 h3
  exact ⟨_, _, _, h1, d, a, h4 _ _ (by simp), c, b⟩
def mkPtr (n : Nat) : Value := .pointer (some ⟨n, 0, none⟩)
theorem anew_alloc {P : Program} {μ : Mu} {B : Nat} {w : World} (hB : B ≤ w.heap.size) {xs : List Value} {arr : Array Value} {t : TypeId} (hx : VsRel μ xs arr.toList) {s : Sem Value}
    (hs : s.run P w = .ok (.pointer (some ⟨w.heap.size, 0, none⟩)) (w.alloc (.cells arr t))) : AllocOk P μ B w s (.cells xs (.fixed false)) mkPtr := by
  refine ⟨_, _, hs, trivial, fun μ' hm => ⟨rfl, arr, t, (0, 0), heap_alloc_new _ _, hx.mono hm, fun _ => ⟨hB, rfl⟩⟩, fun μ' n hn => ?_⟩
  exact .ptr (b := n) (off := 0) (e := ⟨w.heap.size, 0, none, 0⟩) hn

noncomputable def lay (A : AMem) (r : Option (AObj × (Nat → Value))) : Option (Value × AMem) :=
  match r with
  | some (o, mk) => some (mk A.next, aalloc A o)
  | none => none
theorem lay_ok {P : Program} {μ : Mu} {B : Nat} {A : AMem} {w : World} (R : MRel μ B A w.heap) {q : Option (AObj × (Nat → Value))} {r : Value × AMem} (h : lay A q = some r) {s : Sem Value}
    (hs : ∀ o mk, q = some (o, mk) → AllocOk P μ B w s o mk) : Ok P μ B A w s r.1 r.2 := by
  unfold lay at h
  split at h
  · injection h with h; subst h; exact (hs _ _ rfl).ok R
  · cases h

noncomputable def alAlloc (T : Tab) (elem : TypeId) : Option (AObj × (Nat → Value)) :=
  match T.ty.get elem with
  | some ti => some (.cells ti.zero.cells.toList (.fixed false), mkPtr)
  | none => none
theorem alAlloc_ok {P : Program} {T : Tab} (C : Cert P T) {μ : Mu} {B : Nat} {w : World} (hB : B ≤ w.heap.size) {elem : TypeId} {o : AObj} {mk : Nat → Value} (h : alAlloc T elem = some (o, mk)) :
    AllocOk P μ B w (Instr.alloc elem true (.tuple #[])) o mk := by
  unfold alAlloc at h
  split at h
  · rename_i ti ht
    injection h with h; injection h with h1 h2; subst h1; subst h2
    refine anew_alloc hB ((closedB_rel (C.closed ht) μ).cells) (t := elem) ?_
    simp [Instr.alloc, C.zeroValue ht, newVar, newRow]
  · cases h
noncomputable def opAlloc (T : Tab) (A : AMem) (elem : TypeId) : Option (Value × AMem) := lay A (alAlloc T elem)
theorem opAlloc_ok {P : Program} {T : Tab} (C : Cert P T) {μ : Mu} {B : Nat} {A : AMem} {w : World} (R : MRel μ B A w.heap) {elem : TypeId} {r : Value × AMem} (h : opAlloc T A elem = some r) :
    Ok P μ B A w (Instr.alloc elem true (.tuple #[])) r.1 r.2 := lay_ok R h fun _ _ hq => alAlloc_ok C R.base hq

noncomputable def alBox (x : Value) : Option (AObj × (Nat → Value)) := some (.cells x.cells.toList (.fixed false), mkPtr)
theorem alBox_ok {P : Program} {μ : Mu} {B : Nat} {w : World} (hB : B ≤ w.heap.size) {elem : TypeId} {x x' : Value} (hx : VRel μ x x') {o : AObj} {mk : Nat → Value} (h : alBox x = some (o, mk)) :
    AllocOk P μ B w (Instr.box elem x') o mk := by
  injection h with h; injection h with h1 h2; subst h1; subst h2
  refine anew_alloc hB hx.cells (t := elem) ?_
  simp [Instr.box, newVar, newRow]
noncomputable def opBox (A : AMem) (x : Value) : Option (Value × AMem) := lay A (alBox x)
theorem opBox_ok {P : Program} {μ : Mu} {B : Nat} {A : AMem} {w : World} (R : MRel μ B A w.heap) {elem : TypeId} {x x' : Value} (hx : VRel μ x x') {r : Value × AMem} (h : opBox A x = some r) :
    Ok P μ B A w (Instr.box elem x') r.1 r.2 := lay_ok R h fun _ _ hq => alBox_ok R.base hx hq

noncomputable def opLoad (T : Tab) (A : AMem) (t : TypeId) (a : Value) : Option (Value × AMem) :=
  match a with
  | .pointer (some ⟨b, off, none⟩) =>
    match T.ty.get t with
    | some ti =>
      match isAggD ti.desc with
      | true => (match aload A b off ti.size with | some ys => some (.agg ⟨ys⟩, A) | none => none)
      | false => (match aload A b off 1 with | some (x :: _) => some (x, A) | _ => none)
    | none => none
  | _ => none
theorem opLoad_ok {P : Program} {T : Tab} (C : Cert P T) {μ : Mu} {B : Nat} {A : AMem} {w : World} (R : MRel μ B A w.heap) {t : TypeId} {a a' : Value} (ha : VRel μ a a') {r : Value × AMem} (h : opLoad T A t a = some r) :
    Ok P μ B A w (Instr.loadAt t a') r.1 r.2 := by
  unfold opLoad at h
  split at h
  · rename_i b off
    cases ha with
    | @ptr _ _ e he =>
    split at h
    · rename_i ti ht
      split at h
      · rename_i hagg
        split at h
        · rename_i ys hl
          injection h with h; subst h
          obtain ⟨zs, hz, hv, _⟩ := aload_spec P R he hl
          refine .pure R (v' := .agg zs) ?_ (VsRel.agg hv)
          simp [Instr.loadAt, Instr.sureAddr, loadVar, C.isAgg ht, hagg, C.sizeOf ht, hz]
        · cases h
      · rename_i hagg
        split at h
        · rename_i x xs hl
          injection h with h; subst h
          have hx : xs = [] := by
            obtain ⟨zs, _, hv, hn⟩ := aload_spec P R he hl
            cases xs with
            | nil => rfl
            | cons y ys => simp at hn
          subst hx
          obtain ⟨z, hz, hv⟩ := aload1_spec P R he hl
          refine .pure R (v' := z) ?_ hv
          simp only [Instr.loadAt, Instr.sureAddr, loadVar, Sem.run_bind, Sem.run_pure, Result.andThen_ok, C.isAgg ht, hagg, Bool.false_eq_true, if_false]
          exact hz
        · cases h
    · cases h
  · cases h

noncomputable def opStore (T : Tab) (A : AMem) (t : TypeId) (a x : Value) : Option AMem :=
  match a with
  | .pointer (some ⟨b, off, none⟩) =>
    match T.ty.get t with
    | some ti =>
      match Nat.beq (len x.cells.toList) ti.size with
      | true => astore A b off x.cells.toList
      | false => none
    | none => none
  | _ => none
theorem opStore_ok {P : Program} {T : Tab} (C : Cert P T) {μ : Mu} {B : Nat} {A A' : AMem} {w : World} (R : MRel μ B A w.heap) {t : TypeId} {a a' x x' : Value} (ha : VRel μ a a') (hx : VRel μ x x') (h : opStore T A t a x = some A') :
    ∃ w', (Instr.storeAt t a' x').run P w = .ok () w' ∧ MRel μ B A' w'.heap ∧ Below B w w' ∧ Keep μ A A' := by
  unfold opStore at h
  split at h
  · rename_i b off
    cases ha with
    | @ptr _ _ e he =>
    split at h
    · rename_i ti ht
      split at h
      · rename_i hsz
        have hsz := Nat.eq_of_beq_eq_true hsz
        have hc := hx.cells
        obtain ⟨w', h1, h2, h3, h4, _⟩ := astore_spec P R he hc h
        refine ⟨w', ?_, h2, h3, h4⟩
        have hl := hc.1
        simp at hl hsz
        have hn : ¬ (x'.cells.size ≠ ti.size) := by omega
        simp only [Instr.storeAt, Instr.sureAddr, storeVar, Sem.run_bind, Sem.run_pure, Result.andThen_ok, C.sizeOf ht, hn, if_false]
        exact h1
      · cases h
    · cases h
  · cases h
end

section
section
variable {P : Program} {T : Tab} {μ : Mu} {B : Nat} {A : AMem} {w : World}

noncomputable def aPart (T : Tab) (t : TypeId) (cs : List Value) (off : Nat) : Option Value :=
  match T.ty.get t with
  | some ti =>
    match isAggD ti.desc with
    | true => (match takeN (dropN cs off) ti.size with | some ys => some (.agg ⟨ys⟩) | none => none)
    | false => nth cs off
  | none => none
theorem aPart_ok (C : Cert P T) {t : TypeId} {cs : List Value} {arr : Array Value} (hc : VsRel μ cs arr.toList) {off : Nat} {v : Value} (h : aPart T t cs off = some v) (w : World) :
    ∃ v', (part t arr off).run P w = .ok v' w ∧ VRel μ v v' := by
  unfold aPart at h
  split at h
  · rename_i ti ht
    split at h
    · rename_i hagg
      split at h
      · rename_i ys hl
        injection h with h; subst h
        obtain ⟨rfl, hle⟩ := takeN_some hl
        rw [dropN_eq] at hle ⊢
        refine ⟨.agg (arr.extract off (off + ti.size)), ?_, VsRel.agg ?_⟩
        · simp [part, C.isAgg ht, hagg, C.sizeOf ht]
        · have := (hc.drop off).take ti.size
          simpa [List.take_drop, Nat.add_comm] using this
      · cases h
    · rename_i hagg
      rw [nth_eq] at h
      obtain ⟨y, hy, hr⟩ := hc.get h
      refine ⟨y, ?_, hr⟩
      have hy' : arr[off]? = some y := by simpa using hy
      simp [part, C.isAgg ht, hagg, hy']
  · cases h

noncomputable def opField (T : Tab) (t : TypeId) (x : Value) (f : Nat) : Option Value :=
  match x, T.ty.get t with
  | .agg ⟨cs⟩, some { desc := .struct ⟨fs⟩, .. } =>
    match nth fs f with
    | some fd => aPart T fd.type cs fd.offset
    | none => none
  | _, _ => none
theorem opField_ok (C : Cert P T) {t : TypeId} {x x' : Value} (hx : VRel μ x x') {f : Nat} {v : Value} (h : opField T t x f = some v) (w : World) :
    ∃ v', (Instr.field t x' f).run P w = .ok v' w ∧ VRel μ v v' := by
  unfold opField at h
  split at h
  · rename_i cs fs _ _ _ _ ht
    obtain ⟨ys, rfl, hv⟩ := of_agg hx
    split at h
    · rename_i fd hf
      obtain ⟨v', h1, h2⟩ := aPart_ok C hv h w
      refine ⟨v', ?_, h2⟩
      rw [nth_eq] at hf
      simp [Instr.field, C.underlying ht, hf, asAgg, h1]
    · cases h
  · cases h

noncomputable def opFieldAddr (T : Tab) (t : TypeId) (x : Value) (f : Nat) : Option Value :=
  match x, T.ty.get t with
  | .pointer (some ⟨b, off, none⟩), some { desc := .struct ⟨fs⟩, .. } =>
    match nth fs f with
    | some fd =>
      match T.ty.get fd.type with
      | some ti => (match ti.size with | 0 => none | _ + 1 => some (.pointer (some ⟨b, Nat.add off fd.offset, none⟩)))
      | none => none
    | none => none
  | _, _ => none
theorem opFieldAddr_ok (C : Cert P T) {t : TypeId} {x x' : Value} (hx : VRel μ x x') {f : Nat} {v : Value} (h : opFieldAddr T t x f = some v) (w : World) :
    ∃ v', (Instr.fieldAt t x' f).run P w = .ok v' w ∧ VRel μ v v' := by
  unfold opFieldAddr at h
  split at h
  · rename_i b off fs _ _ _ _ ht
    cases hx with
    | @ptr _ _ e he =>
    split at h
    · rename_i fd hf
      split at h
      · rename_i ti hti
        split at h
        · cases h
        · rename_i n hn
          injection h with h; subst h
          refine ⟨.pointer (some ⟨e.blk, e.dl + (off + fd.offset), none⟩), ?_, .ptr he⟩
          rw [nth_eq] at hf
          have hs : ¬ (ti.size = 0) := by omega
          simp [Instr.fieldAt, C.underlying ht, hf, Instr.sureAddr, fieldPlace, C.sizeOf hti, hs, Nat.add_assoc]
      · cases h
    · cases h
  · cases h

noncomputable def opIndexAddr (T : Tab) (t : TypeId) (x ix : Value) : Option Value :=
  match ix with
  | .int _ (.ofNat i) =>
    match x, T.ty.get t with
    | .slice (some ⟨b, off, none⟩) n _, some { desc := .slice el, .. } =>
      match Nat.blt i n, T.ty.get el with
      | true, some ti => some (.pointer (some ⟨b, Nat.add off (Nat.mul i ti.size), none⟩))
      | _, _ => none
    | .pointer (some ⟨b, off, none⟩), some { desc := .array n el, .. } =>
      match Nat.blt i n, T.ty.get el with
      | true, some ti => some (.pointer (some ⟨b, Nat.add off (Nat.mul i ti.size), none⟩))
      | _, _ => none
    | _, _ => none
  | _ => none
theorem blt_lt {a b : Nat} (h : Nat.blt a b = true) : a < b := by rwa [Nat.blt_eq] at h
theorem opIndexAddr_ok (C : Cert P T) {t : TypeId} {x x' ix ix' : Value} (hx : VRel μ x x') (hi : VRel μ ix ix') {v : Value} (h : opIndexAddr T t x ix = some v) (w : World) :
    ∃ v', (Instr.indexAt t x' ix').run P w = .ok v' w ∧ VRel μ v v' := by
  unfold opIndexAddr at h
  split at h
  · rename_i k i
    cases hi
    split at h
    · rename_i b off n cap el _ _ _ _ ht
      split at h
      · rename_i ti hlt hti
        have hlt := blt_lt hlt
        injection h with h; subst h
        have hb : (0 : Int) ≤ (i : Int) ∧ (i : Int) < (n : Int) := by omega
        cases hx with
        | @slice _ _ _ _ e he hg =>
          refine ⟨.pointer (some ⟨e.blk, e.dl + (off + i * ti.size), none⟩), ?_, .ptr he⟩
          simp [Instr.indexAt, asIntOf, C.underlying ht, C.sizeOf hti, hlt, Nat.add_assoc]
        | @gslice _ _ _ _ cap' e g he hg hl hc hs =>
          refine ⟨.pointer (some ⟨e.blk, e.dl + (off + i * ti.size), none⟩), ?_, .ptr he⟩
          simp [Instr.indexAt, asIntOf, C.underlying ht, C.sizeOf hti, hlt, Nat.add_assoc]
        | zslice he => omega
      · cases h
    · rename_i b off n el _ _ _ _ ht
      split at h
      · rename_i ti hlt hti
        have hlt := blt_lt hlt
        injection h with h; subst h
        cases hx with
        | @ptr _ _ e he =>
          refine ⟨.pointer (some ⟨e.blk, e.dl + (off + i * ti.size), none⟩), ?_, .ptr he⟩
          simp [Instr.indexAt, asIntOf, C.underlying ht, C.sizeOf hti, hlt, Nat.add_assoc, Instr.sureAddr]
      · cases h
    · cases h
  · cases h

noncomputable def opIndex (T : Tab) (t : TypeId) (x ix : Value) : Option Value :=
  match ix with
  | .int _ (.ofNat i) =>
    match x, T.ty.get t with
    | .string ⟨⟨l⟩⟩, some { desc := .string, .. } => (match nth l i with | some b => some (.int .u8 (.ofNat b.toNat)) | none => none)
    | .agg ⟨cs⟩, some { desc := .array n el, .. } =>
      match Nat.blt i n, T.ty.get el with
      | true, some ti => aPart T el cs (Nat.mul i ti.size)
      | _, _ => none
    | _, _ => none
  | _ => none
theorem opIndex_ok (C : Cert P T) {t : TypeId} {x x' ix ix' : Value} (hx : VRel μ x x') (hi : VRel μ ix ix') {v : Value} (h : opIndex T t x ix = some v) (w : World) :
    ∃ v', (Instr.index t x' ix').run P w = .ok v' w ∧ VRel μ v v' := by
  unfold opIndex at h
  split at h
  · rename_i k i
    cases hi
    split at h
    · rename_i l _ _ _ _ ht
      cases hx
      split at h
      · rename_i b hb
        injection h with h; subst h
        rw [nth_eq] at hb
        refine ⟨_, ?_, .int _ _⟩
        have hlt := (List.getElem?_eq_some_iff.1 hb).1
        have hg : (⟨⟨l⟩⟩ : ByteArray)[i]? = some b := by
          have hsz : i < (⟨⟨l⟩⟩ : ByteArray).size := hlt
          rw [getElem?_pos _ i hsz]
          have := (List.getElem?_eq_some_iff.1 hb).2
          exact congrArg some this
        simp [Instr.index, asIntOf, C.underlying ht, hg]
      · cases h
    · rename_i cs n el _ _ _ _ ht
      obtain ⟨ys, rfl, hv⟩ := of_agg hx
      split at h
      · rename_i ti hlt hti
        have hlt := blt_lt hlt
        obtain ⟨v', h1, h2⟩ := aPart_ok C hv h w
        refine ⟨v', ?_, h2⟩
        have h1' : (part el ys (i * ti.size)).run P w = .ok v' w := h1
        simp [Instr.index, asIntOf, C.underlying ht, C.sizeOf hti, hlt, h1']
      · cases h
    · cases h
  · cases h

def natOf (o : Option Value) (dflt : Nat) : Option Nat :=
  match o with
  | none => some dflt
  | some (.int _ (.ofNat i)) => some i
  | _ => none
noncomputable def ezOk (A : AMem) (b esz : Nat) : Bool :=
  match A.heap.get b with
  | some (.cells _ (.grown g)) => Nat.beq g.esz esz
  | some (.cells _ .seen) => false
  | some _ => true
  | none => false
theorem ezOk_spec {h : Array Obj} (R : MRel μ B A h) {b esz : Nat} {e : Ent} {g : Gr} (he : μ b = some e) (hg : e.gr = some g) (hz : ezOk A b esz = true) : esz = g.esz := by
  unfold ezOk at hz
  split at hz
  · rename_i xs g' ho
    have := (R.obj b _ e ho he).1
    rw [hg] at this; injection this with this; subst this
    exact (Nat.eq_of_beq_eq_true hz).symm
  · cases hz
  · rename_i o hno hns ho
    have hr := R.obj b o e ho he
    cases o with
    | cells xs k =>
      cases k with
      | fixed ro => rw [hr.1] at hg; cases hg
      | seen => exact absurd rfl (hns xs)
      | grown g' => exact absurd rfl (hno xs g')
    | _ => rw [hr.1] at hg; cases hg
  · cases hz

noncomputable def sub1 (A : AMem) (x : Value) (esz : Nat) (lo hi : Option Value) : Option Value :=
  match x with
  | .slice (some ⟨b, off, none⟩) n cap =>
    match natOf lo 0, natOf hi n with
    | some l, some h =>
      match Nat.ble l h, Nat.ble h cap, ezOk A b esz with
      | true, true, true => some (.slice (some ⟨b, Nat.add off (Nat.mul l esz), none⟩) (Nat.sub h l) (Nat.sub cap l))
      | _, _, _ => none
    | _, _ => none
  | .slice none 0 0 =>
    match natOf lo 0, natOf hi 0 with
    | some 0, some 0 => some (.slice none 0 0)
    | _, _ => none
  | _ => none

def OptRel (μ : Mu) : Option Value → Option Value → Prop
  | none, none => True
  | some a, some b => VRel μ a b
  | _, _ => False

theorem natOf_rel {o o' : Option Value} (h : OptRel μ o o') {d n : Nat} (hn : natOf o d = some n) : (o = none ∧ o' = none ∧ n = d) ∨ ∃ k, o = some (.int k (.ofNat n)) ∧ o' = some (.int k (.ofNat n)) := by
  unfold natOf at hn
  split at hn
  · injection hn with hn
    cases o' with
    | none => exact .inl ⟨rfl, rfl, hn.symm⟩
    | some y => exact h.elim
  · injection hn with hn; subst hn
    cases o' with
    | none => exact h.elim
    | some y =>
      have h : VRel μ _ y := h
      cases h; exact .inr ⟨_, rfl, rfl⟩
  · cases hn

theorem run_sliceBounds {isS : Bool} {n cap l h : Nat} {lo lo' hi hi' : Option Value} (rl : OptRel μ lo lo') (rh : OptRel μ hi hi') (hl : natOf lo 0 = some l) (hh : natOf hi n = some h) (h1 : l ≤ h) (h2 : h ≤ cap) (w : World) :
    (Instr.sliceBounds isS n cap lo' hi' none).run P w = .ok (l, h, cap) w := by
  have e1 : (0 : Int) ≤ (h : Int) ∧ (h : Int) ≤ (cap : Int) := by omega
  have e2 : (0 : Int) ≤ (l : Int) ∧ (l : Int) ≤ (h : Int) := by omega
  rcases natOf_rel rl hl with ⟨_, rfl, rfl⟩ | ⟨k, _, rfl⟩ <;> rcases natOf_rel rh hh with ⟨_, rfl, rfl⟩ | ⟨k', _, rfl⟩ <;>
    simp [Instr.sliceBounds, Instr.sliceBound, asIntOf, h1, h2]

theorem ble_le {a b : Nat} (h : Nat.ble a b = true) : a ≤ b := Nat.le_of_ble_eq_true h

theorem sub1_ok {hp : Array Obj} (R : MRel μ B A hp) {esz : Nat} {x x' : Value} (hx : VRel μ x x') {lo lo' hi hi' : Option Value} (rl : OptRel μ lo lo') (rh : OptRel μ hi hi') {v : Value} (hv : sub1 A x esz lo hi = some v) (w : World) :
    ∃ a n cap l h m, x' = .slice a n cap ∧ (Instr.sliceBounds true n cap lo' hi' none).run P w = .ok (l, h, m) w ∧
      VRel μ v (.slice (if m = l then a else a.map (·.add (l * esz))) (h - l) (m - l)) := by
  unfold sub1 at hv
  split at hv
  · rename_i b off n cap
    split at hv
    · rename_i l h hl hh
      split at hv
      · rename_i h1 h2 hez
        have h1 := ble_le h1
        have h2 := ble_le h2
        injection hv with hv; subst hv
        cases hx with
        | @slice _ _ _ _ e he hg =>
          refine ⟨_, _, _, l, h, cap, rfl, run_sliceBounds rl rh hl hh h1 h2 w, ?_⟩
          by_cases hc : cap = l
          · subst hc
            have e1 : h - cap = 0 := by omega
            simp only [if_true, Nat.sub_eq, Nat.sub_self, e1]
            exact .zslice he
          · simp only [hc, if_false, Option.map_some, add_addr]
            have := VRel.slice (μ := μ) (b := b) (off := off + l * esz) (len := h - l) (cap := cap - l) he hg
            rw [← Nat.add_assoc] at this
            exact this
        | @gslice _ _ _ _ cap' e g he hg hl' hc hs =>
          refine ⟨_, _, _, l, h, cap', rfl, run_sliceBounds rl rh hl hh h1 (by omega) w, ?_⟩
          by_cases hc' : cap' = l
          · subst hc'
            have e1 : h - cap' = 0 := by omega
            have e2 : cap - cap' = 0 := by omega
            simp only [if_true, Nat.sub_eq, Nat.sub_self, e1, e2]
            exact .zslice he
          · simp only [hc', if_false, Option.map_some, add_addr]
            have hz := ezOk_spec R he hg hez
            subst hz
            have hmul : l * g.esz + (cap' - l) * g.esz = cap' * g.esz := by rw [← Nat.add_mul]; congr 1; omega
            have := VRel.gslice (μ := μ) (b := b) (off := off + l * g.esz) (len := h - l) (cap := cap - l) (cap' := cap' - l) he hg (by omega) (by omega) (by omega)
            rw [← Nat.add_assoc] at this
            exact this
        | zslice he =>
          have e1 : l = 0 := by omega
          have e2 : h = 0 := by omega
          subst e1; subst e2
          refine ⟨_, _, _, 0, 0, 0, rfl, run_sliceBounds rl rh hl hh h1 h2 w, ?_⟩
          simp
          exact .zslice he
      · cases hv
    · cases hv
  · split at hv
    · rename_i hl hh
      injection hv with hv; subst hv
      cases hx
      refine ⟨_, _, _, 0, 0, 0, rfl, run_sliceBounds rl rh hl hh (Nat.le_refl _) (Nat.le_refl _) w, ?_⟩
      simp
      exact .nilslice
    · cases hv
  · cases hv

noncomputable def opSlice (T : Tab) (A : AMem) (t : TypeId) (x : Value) (lo hi : Option Value) : Option Value :=
  match T.ty.get t with
  | some { desc := .string, .. } =>
    match x with
    | .string ⟨⟨l⟩⟩ =>
      match natOf lo 0, natOf hi (len l) with
      | some i, some j =>
        match Nat.ble i j, Nat.ble j (len l) with
        | true, true => (match takeN (dropN l i) (Nat.sub j i) with | some r => some (.string ⟨⟨r⟩⟩) | none => none)
        | _, _ => none
      | _, _ => none
    | _ => none
  | some { desc := .slice el, .. } =>
    match T.ty.get el with
    | some ti => sub1 A x ti.size lo hi
    | none => none
  | some { desc := .array n el, .. } =>
    match T.ty.get el, x with
    | some ti, .pointer (some ⟨b, off, none⟩) =>
      match A.heap.get b with
      | some (.cells _ (.fixed _)) => sub1 A (.slice (some ⟨b, off, none⟩) n n) ti.size lo hi
      | _ => none
    | _, _ => none
  | _ => none

theorem opSlice_ok (C : Cert P T) (R : MRel μ B A w.heap) {t : TypeId} {x x' : Value} (hx : VRel μ x x') {lo lo' hi hi' : Option Value} (rl : OptRel μ lo lo') (rh : OptRel μ hi hi') {v : Value} (hv : opSlice T A t x lo hi = some v) :
    ∃ v', (Instr.sliceAt t x' lo' hi' none).run P w = .ok v' w ∧ VRel μ v v' := by
  unfold opSlice at hv
  split at hv
  · rename_i ht
    split at hv
    · rename_i l
      cases hx
      split at hv
      · rename_i i j hi1 hj1
        split at hv
        · rename_i h1 h2
          have h1 := ble_le h1
          have h2 := ble_le h2
          split at hv
          · rename_i r hr
            injection hv with hv; subst hv
            obtain ⟨rfl, _⟩ := takeN_some hr
            refine ⟨_, ?_, .string _⟩
            have hsz : (⟨⟨l⟩⟩ : ByteArray).size = l.length := rfl
            rw [len_eq] at hj1 h2
            have hb := run_sliceBounds (P := P) (isS := false) rl rh hi1 hj1 h1 h2 w
            have hex : (⟨⟨l⟩⟩ : ByteArray).extract i j = ⟨⟨(l.drop i).take (j - i)⟩⟩ := by
              apply ByteArray.ext
              simp [ByteArray.data_extract]
            simp only [Instr.sliceAt, Sem.run_bind, C.underlying ht, Result.andThen_ok, Instr.slice]
            simp [hsz, hb, hex, dropN_eq]
          · cases hv
        · cases hv
      · cases hv
    · cases hv
  · rename_i el _ _ _ _ ht
    split at hv
    · rename_i ti hti
      obtain ⟨a, n, cap, l, h, m, rfl, hb, hr⟩ := sub1_ok (P := P) R hx rl rh hv w
      refine ⟨_, ?_, hr⟩
      simp only [Instr.sliceAt, Sem.run_bind, C.underlying ht, Result.andThen_ok, Instr.slice, hb, C.sizeOf hti, Sem.run_pure]
    · cases hv
  · rename_i n el _ _ _ _ ht
    split at hv
    · rename_i ti b off hti
      cases hx with
      | @ptr _ _ e he =>
      split at hv
      · rename_i xs ro ho
        have hg : e.gr = none := (R.obj b _ e ho he).1
        obtain ⟨a, n', cap, l, h, m, hs, hb, hr⟩ := sub1_ok (P := P) R (VRel.slice (off := off) (len := n) (cap := n) he hg) rl rh hv w
        injection hs with hs1 hs2 hs3
        subst hs1; subst hs2; subst hs3
        have hb' : (Instr.sliceBounds false n n lo' hi' none).run P w = .ok (l, h, m) w := by
          simp only [sub1] at hv
          split at hv
          · rename_i l2 h2 hl2 hh2
            split at hv
            · rename_i k1 k2 _
              have e1 := run_sliceBounds (P := P) (isS := true) rl rh hl2 hh2 (ble_le k1) (ble_le k2) w
              have e2 := run_sliceBounds (P := P) (isS := false) rl rh hl2 hh2 (ble_le k1) (ble_le k2) w
              rw [hb] at e1
              rw [e2]; injection e1 with e1; rw [e1]
            · cases hv
          · cases hv
        refine ⟨_, ?_, hr⟩
        simp only [Instr.sliceAt, Sem.run_bind, C.underlying ht, Result.andThen_ok, Instr.sureAddr, Sem.run_pure, hb', C.sizeOf hti]
        congr 2
        split <;> simp
      · cases hv
    · cases hv
  · cases hv
noncomputable def opSlice3 (T : Tab) (A : AMem) (t : TypeId) (x : Value) (lo : Option Value) (hi mx : Value) : Option Value :=
  match T.ty.get t with
  | some { desc := .slice el, .. } =>
    match T.ty.get el, x with
    | some ti, .slice (some ⟨b, off, none⟩) _ cap =>
      match natOf lo 0, natOf (some hi) 0, natOf (some mx) 0 with
      | some l, some h, some m =>
        match Nat.ble l h, Nat.ble h m, Nat.ble m cap, ezOk A b ti.size with
        | true, true, true, true => some (.slice (some ⟨b, Nat.add off (Nat.mul l ti.size), none⟩) (Nat.sub h l) (Nat.sub m l))
        | _, _, _, _ => none
      | _, _, _ => none
    | some _, .slice none 0 0 =>
      match natOf lo 0, natOf (some hi) 0, natOf (some mx) 0 with
      | some 0, some 0, some 0 => some (.slice none 0 0)
      | _, _, _ => none
    | _, _ => none
  | _ => none

theorem run_sliceBounds3 {n cap l h m : Nat} {lo lo' : Option Value} {hi hi' mx mx' : Value} (rl : OptRel μ lo lo') (rh : VRel μ hi hi') (rm : VRel μ mx mx') (hl : natOf lo 0 = some l) (hh : natOf (some hi) 0 = some h) (hm : natOf (some mx) 0 = some m)
    (h1 : l ≤ h) (h2 : h ≤ m) (h3 : m ≤ cap) (w : World) : (Instr.sliceBounds true n cap lo' (some hi') (some mx')).run P w = .ok (l, h, m) w := by
  have e1 : (0 : Int) ≤ (h : Int) ∧ (h : Int) ≤ (m : Int) := by omega
  have e2 : (0 : Int) ≤ (l : Int) ∧ (l : Int) ≤ (h : Int) := by omega
  have e3 : (0 : Int) ≤ (m : Int) ∧ (m : Int) ≤ (cap : Int) := by omega
  rcases natOf_rel (o := some hi) (o' := some hi') rh hh with ⟨hc, _⟩ | ⟨k', _, hk'⟩
  · cases hc
  rcases natOf_rel (o := some mx) (o' := some mx') rm hm with ⟨hc, _⟩ | ⟨k3, _, hk3⟩
  · cases hc
  injection hk' with hk'; subst hk'
  injection hk3 with hk3; subst hk3
  rcases natOf_rel rl hl with ⟨_, rfl, rfl⟩ | ⟨k, _, rfl⟩ <;>
    simp [Instr.sliceBounds, Instr.sliceBound, asIntOf, h1, h2, h3]

theorem opSlice3_ok (C : Cert P T) (R : MRel μ B A w.heap) {t : TypeId} {x x' : Value} (hx : VRel μ x x') {lo lo' : Option Value} {hi hi' mx mx' : Value} (rl : OptRel μ lo lo') (rh : VRel μ hi hi') (rm : VRel μ mx mx') {v : Value} (hv : opSlice3 T A t x lo hi mx = some v) :
    ∃ v', (Instr.sliceAt t x' lo' (some hi') (some mx')).run P w = .ok v' w ∧ VRel μ v v' := by
  unfold opSlice3 at hv
  split at hv
  case h_2 => cases hv
  rename_i el _ _ _ _ ht
  split at hv
  · rename_i ti b off n cap hti
    split at hv
    case h_2 => cases hv
    rename_i l h m hl hh hm
    split at hv
    case h_2 => cases hv
    rename_i h1 h2 h3 hez
    have h1 := ble_le h1
    have h2 := ble_le h2
    have h3 := ble_le h3
    injection hv with hv; subst hv
    have fin : ∀ {a : Option Addr} {n' cap' : Nat}, x' = .slice a n' cap' → m ≤ cap' → VRel μ (.slice (some ⟨b, Nat.add off (Nat.mul l ti.size), none⟩) (Nat.sub h l) (Nat.sub m l)) (.slice (if m = l then a else a.map (·.add (l * ti.size))) (h - l) (m - l)) →
        ∃ v', (Instr.sliceAt t x' lo' (some hi') (some mx')).run P w = .ok v' w ∧ VRel μ (.slice (some ⟨b, Nat.add off (Nat.mul l ti.size), none⟩) (Nat.sub h l) (Nat.sub m l)) v' := by
      intro a n' cap' hx' hm' hr
      subst hx'
      refine ⟨_, ?_, hr⟩
      simp only [Instr.sliceAt, Sem.run_bind, C.underlying ht, Result.andThen_ok, Instr.slice, run_sliceBounds3 (P := P) rl rh rm hl hh hm h1 h2 hm' w, C.sizeOf hti, Sem.run_pure]
    cases hx with
    | @slice _ _ _ _ e he hg =>
      refine fin rfl h3 ?_
      by_cases hc : m = l
      · subst hc
        have e1 : h - m = 0 := by omega
        simp only [if_true, Nat.sub_eq, Nat.sub_self, e1]
        exact .zslice he
      · simp only [hc, if_false, Option.map_some, add_addr]
        have := VRel.slice (μ := μ) (b := b) (off := off + l * ti.size) (len := h - l) (cap := m - l) he hg
        rw [← Nat.add_assoc] at this
        exact this
    | @gslice _ _ _ _ cap' e g he hg hl' hc hs =>
      refine fin rfl (by omega) ?_
      by_cases hc' : m = l
      · subst hc'
        have e1 : h - m = 0 := by omega
        simp only [if_true, Nat.sub_eq, Nat.sub_self, e1]
        exact .zslice he
      · simp only [hc', if_false, Option.map_some, add_addr]
        have hz := ezOk_spec R he hg hez
        rw [hz]
        have hmul : l * g.esz + (m - l) * g.esz = m * g.esz := by rw [← Nat.add_mul]; congr 1; omega
        have hle : m * g.esz ≤ cap' * g.esz := Nat.mul_le_mul_right _ (by omega)
        have := VRel.gslice (μ := μ) (b := b) (off := off + l * g.esz) (len := h - l) (cap := m - l) (cap' := m - l) he hg (by omega) (Nat.le_refl _) (by omega)
        rw [← Nat.add_assoc] at this
        exact this
    | zslice he =>
      have e0 : m = 0 := by omega
      have e1 : l = 0 := by omega
      have e2 : h = 0 := by omega
      subst e0; subst e1; subst e2
      refine fin rfl (Nat.le_refl _) ?_
      simp
      exact .zslice he
  · rename_i ti hti
    split at hv
    case h_2 => cases hv
    rename_i hl hh hm
    injection hv with hv; subst hv
    cases hx
    refine ⟨.slice none 0 0, ?_, .nilslice⟩
    simp only [Instr.sliceAt, Sem.run_bind, C.underlying ht, Result.andThen_ok, Instr.slice, run_sliceBounds3 (P := P) rl rh rm hl hh hm (Nat.le_refl _) (Nat.le_refl _) (Nat.le_refl _) w, C.sizeOf hti, Sem.run_pure]
    simp
  · cases hv
end
end

section
noncomputable def strEq (l m : List UInt8) : Bool :=
  List.rec (motive := fun _ => List UInt8 → Bool)
    (fun m => List.rec (motive := fun _ => Bool) true (fun _ _ _ => false) m)
    (fun a _ ih m => List.rec (motive := fun _ => Bool) false (fun b t _ => Bool.rec (motive := fun _ => Bool) false (ih t) (Nat.beq a.toNat b.toNat)) m) l m
theorem strEq_eq : ∀ l m : List UInt8, strEq l m = (l == m)
  | [], [] => rfl
  | [], _ :: _ => rfl
  | _ :: _, [] => rfl
  | a :: l, b :: m => by
    have ih := strEq_eq l m
    show Bool.rec (motive := fun _ => Bool) false (strEq l m) (Nat.beq a.toNat b.toNat) = _
    cases h : Nat.beq a.toNat b.toNat with
    | true =>
      have : a = b := UInt8.toNat_inj.1 (Nat.eq_of_beq_eq_true h)
      subst this
      simp [ih]
    | false =>
      have : a ≠ b := fun e => Nat.ne_of_beq_eq_false h (by rw [e])
      simp [this]

section
variable {P : Program} {T : Tab} {μ : Mu} {B : Nat} {A : AMem} {w : World}

noncomputable def eqL (T : Tab) (f : TypeId → Value → Value → Option Bool) (xs ys : List Value) (l : List (TypeId × Nat)) : Option Bool :=
  List.rec (motive := fun _ => Option Bool) (some true)
    (fun p _ r =>
      match aPart T p.1 xs p.2, aPart T p.1 ys p.2 with
      | some a, some b => (match f p.1 a b with | some true => r | some false => some false | none => none)
      | _, _ => none) l
noncomputable def eqA (T : Tab) (f : TypeId → Value → Value → Option Bool) (el : TypeId) (esz : Nat) (xs ys : List Value) (n : Nat) : Nat → Option Bool :=
  Nat.rec (motive := fun _ => Nat → Option Bool) (fun _ => some true)
    (fun _ r i =>
      match aPart T el xs (Nat.mul i esz), aPart T el ys (Nat.mul i esz) with
      | some a, some b => (match f el a b with | some true => r (Nat.succ i) | some false => some false | none => none)
      | _, _ => none) n

noncomputable def aSame (A : AMem) (b off b' off' : Nat) : Option Bool :=
  match Nat.beq b b' with
  | true => some (Nat.beq off off')
  | false =>
    match A.heap.get b, A.heap.get b' with
    | some (.cells _ (.fixed false)), some (.cells _ (.fixed false)) => some false
    | _, _ => none

noncomputable def aEq (T : Tab) (A : AMem) (d : Nat) : TypeId → Value → Value → Option Bool :=
  Nat.rec (motive := fun _ => TypeId → Value → Value → Option Bool) (fun _ _ _ => none)
    (fun _ ih t x y =>
      match T.ty.get t with
      | some ti =>
        match x, y with
        | .bool a, .bool b => (match ti.desc with | .bool => some (match a, b with | true, true => true | false, false => true | _, _ => false) | _ => none)
        | .int k a, .int k' b => (match ti.desc, decide (k = k') with | .int _, true => some (iEq a b) | _, _ => none)
        | .string ⟨⟨a⟩⟩, .string ⟨⟨b⟩⟩ => (match ti.desc with | .string => some (strEq a b) | _ => none)
        | .pointer none, .pointer none => (match ti.desc with | .pointer _ => some true | _ => none)
        | .pointer none, .pointer (some _) => (match ti.desc with | .pointer _ => some false | _ => none)
        | .pointer (some _), .pointer none => (match ti.desc with | .pointer _ => some false | _ => none)
        | .pointer (some ⟨b, off, none⟩), .pointer (some ⟨b', off', none⟩) =>
          (match ti.desc with
            | .pointer el => (match T.ty.get el with | some te => (match te.size with | 0 => none | _ + 1 => aSame A b off b' off') | none => none)
            | _ => none)
        | .nilIface, .nilIface => (match ti.desc with | .interface _ => some true | _ => none)
        | .nilIface, .iface _ _ => (match ti.desc with | .interface _ => some false | _ => none)
        | .iface _ _, .nilIface => (match ti.desc with | .interface _ => some false | _ => none)
        | .iface tx vx, .iface ty vy =>
          (match ti.desc with
            | .interface _ => (match Nat.beq tx ty with
              | false => some false
              | true => (match T.ty.get tx with | some te => (match te.cmp with | true => ih tx vx vy | false => none) | none => none))
            | _ => none)
        | .agg ⟨xs⟩, .agg ⟨ys⟩ =>
          (match ti.desc with
            | .struct _ => (match T.eqs.get t with | some l => eqL T ih xs ys l | none => none)
            | .array n el => (match T.ty.get el with | some te => eqA T ih el te.size xs ys n 0 | none => none)
            | _ => none)
        | .slice none _ _, .slice none _ _ => (match ti.desc with | .slice _ => some true | _ => none)
        | .slice none _ _, .slice (some _) _ _ => (match ti.desc with | .slice _ => some false | _ => none)
        | .slice (some _) _ _, .slice none _ _ => (match ti.desc with | .slice _ => some false | _ => none)
        | .map none, .map none => (match ti.desc with | .map _ _ => some true | _ => none)
        | .map none, .map (some _) => (match ti.desc with | .map _ _ => some false | _ => none)
        | .map (some _), .map none => (match ti.desc with | .map _ _ => some false | _ => none)
        | .nilFunc, .nilFunc => (match ti.desc with | .func _ _ _ => some true | _ => none)
        | .nilFunc, .func _ _ _ => (match ti.desc with | .func _ _ _ => some false | _ => none)
        | .func _ _ _, .nilFunc => (match ti.desc with | .func _ _ _ => some false | _ => none)
        | _, _ => none
      | none => none) d

theorem aEq_succ (T : Tab) (A : AMem) (d : Nat) : aEq T A (d + 1) = fun t x y =>
      match T.ty.get t with
      | some ti =>
        match x, y with
        | .bool a, .bool b => (match ti.desc with | .bool => some (match a, b with | true, true => true | false, false => true | _, _ => false) | _ => none)
        | .int k a, .int k' b => (match ti.desc, decide (k = k') with | .int _, true => some (iEq a b) | _, _ => none)
        | .string ⟨⟨a⟩⟩, .string ⟨⟨b⟩⟩ => (match ti.desc with | .string => some (strEq a b) | _ => none)
        | .pointer none, .pointer none => (match ti.desc with | .pointer _ => some true | _ => none)
        | .pointer none, .pointer (some _) => (match ti.desc with | .pointer _ => some false | _ => none)
        | .pointer (some _), .pointer none => (match ti.desc with | .pointer _ => some false | _ => none)
        | .pointer (some ⟨b, off, none⟩), .pointer (some ⟨b', off', none⟩) =>
          (match ti.desc with
            | .pointer el => (match T.ty.get el with | some te => (match te.size with | 0 => none | _ + 1 => aSame A b off b' off') | none => none)
            | _ => none)
        | .nilIface, .nilIface => (match ti.desc with | .interface _ => some true | _ => none)
        | .nilIface, .iface _ _ => (match ti.desc with | .interface _ => some false | _ => none)
        | .iface _ _, .nilIface => (match ti.desc with | .interface _ => some false | _ => none)
        | .iface tx vx, .iface ty vy =>
          (match ti.desc with
            | .interface _ => (match Nat.beq tx ty with
              | false => some false
              | true => (match T.ty.get tx with | some te => (match te.cmp with | true => aEq T A d tx vx vy | false => none) | none => none))
            | _ => none)
        | .agg ⟨xs⟩, .agg ⟨ys⟩ =>
          (match ti.desc with
            | .struct _ => (match T.eqs.get t with | some l => eqL T (aEq T A d) xs ys l | none => none)
            | .array n el => (match T.ty.get el with | some te => eqA T (aEq T A d) el te.size xs ys n 0 | none => none)
            | _ => none)
        | .slice none _ _, .slice none _ _ => (match ti.desc with | .slice _ => some true | _ => none)
        | .slice none _ _, .slice (some _) _ _ => (match ti.desc with | .slice _ => some false | _ => none)
        | .slice (some _) _ _, .slice none _ _ => (match ti.desc with | .slice _ => some false | _ => none)
        | .map none, .map none => (match ti.desc with | .map _ _ => some true | _ => none)
        | .map none, .map (some _) => (match ti.desc with | .map _ _ => some false | _ => none)
        | .map (some _), .map none => (match ti.desc with | .map _ _ => some false | _ => none)
        | .nilFunc, .nilFunc => (match ti.desc with | .func _ _ _ => some true | _ => none)
        | .nilFunc, .func _ _ _ => (match ti.desc with | .func _ _ _ => some false | _ => none)
        | .func _ _ _, .nilFunc => (match ti.desc with | .func _ _ _ => some false | _ => none)
        | _, _ => none
      | none => none := rfl

theorem eqFields_filter (d : Nat) (xs ys : Array Value) : ∀ (fs : List Field) (w : World),
    (Op.eqFields d xs ys fs).run P w = (Op.eqFields d xs ys (fs.filter fun f => decide (f.name ≠ "_"))).run P w := by
  intro fs
  induction fs with
  | nil => intro w; rfl
  | cons f fs ih =>
    intro w
    by_cases hf : f.name = "_"
    · rw [List.filter_cons_of_neg (by simp [hf])]
      simp only [Op.eqFields, hf, ne_eq, not_true_eq_false, if_false]
      exact ih w
    · rw [List.filter_cons_of_pos (by simp [hf])]
      simp only [Op.eqFields, ne_eq, hf, not_false_eq_true, if_true, Sem.run_bind]
      congr 1; funext a w1; congr 1; funext b w2; congr 1; funext r w3
      cases r <;> simp [ih]

def EqOk (P : Program) (μ : Mu) (w : World) (d : Nat) (f : TypeId → Value → Value → Option Bool) : Prop :=
  ∀ t x y x' y' r, f t x y = some r → VRel μ x x' → VRel μ y y' → ∀ d', d ≤ d' → (Op.equalIn d' t x' y').run P w = .ok r w

theorem eqL_ok (C : Cert P T) {d d' : Nat} {f : TypeId → Value → Value → Option Bool} (hf : EqOk P μ w d f) (hd : d ≤ d') {xs ys : List Value} {xa ya : Array Value} (hx : VsRel μ xs xa.toList) (hy : VsRel μ ys ya.toList) :
    ∀ (fs : List Field), (∀ g ∈ fs, g.name ≠ "_") → ∀ r, eqL T f xs ys (fs.map fun g => (g.type, g.offset)) = some r → (Op.eqFields d' xa ya fs).run P w = .ok r w := by
  intro fs
  induction fs with
  | nil => intro _ r h; injection h with h; subst h; rfl
  | cons g fs ih =>
    intro hn r h
    have h' : (match aPart T g.type xs g.offset, aPart T g.type ys g.offset with
      | some a, some b => (match f g.type a b with | some true => eqL T f xs ys (fs.map fun g => (g.type, g.offset)) | some false => some false | none => none)
      | _, _ => none) = some r := h
    split at h'
    · rename_i a b ha hb
      obtain ⟨a', ha1, ha2⟩ := aPart_ok C hx ha w
      obtain ⟨b', hb1, hb2⟩ := aPart_ok C hy hb w
      have hne := hn g (by simp)
      simp only [Op.eqFields, ne_eq, hne, not_false_eq_true, if_true, Sem.run_bind, ha1, Result.andThen_ok, hb1]
      split at h'
      · rename_i he
        rw [hf _ _ _ _ _ _ he ha2 hb2 d' hd]
        simp [ih (fun g' hg' => hn g' (by simp [hg'])) r h']
      · rename_i he
        injection h' with h'; subst h'
        rw [hf _ _ _ _ _ _ he ha2 hb2 d' hd]
        simp
      · cases h'
    · cases h'

def eqCells (d : Nat) (el : TypeId) (esz : Nat) (xs ys : Array Value) : Nat → Nat → Sem Bool
  | 0, _ => pure true
  | n + 1, i => do
    let a ← part el xs (i * esz)
    let b ← part el ys (i * esz)
    let r ← Op.equalIn d el a b
    if (!r) = true then pure false else eqCells d el esz xs ys n (i + 1)

theorem run_equalIn_array (C : Cert P T) {t el : TypeId} {n : Nat} {te : TI} (ht : P.underlying t = some (.array n el)) (he : T.ty.get el = some te) (d : Nat) (xs ys : Array Value) (w : World) :
    (Op.equalIn (d + 1) t (.agg xs) (.agg ys)).run P w = (eqCells d el te.size xs ys n 0).run P w := by
  have hu : (underlying t).run P w = .ok (.array n el) w := by simp [Go.underlying, ht]
  simp only [Op.equalIn, Sem.run_bind, hu, Result.andThen_ok, C.sizeOf he]
  rw [Std.Legacy.Range.forIn_eq_forIn_range']
  simp only [Std.Legacy.Range.size, Nat.sub_zero, Nat.add_one_sub_one, Nat.div_one]
  have key : ∀ (k i : Nat) (w : World), ((forIn (List.range' i k) ((none, ()) : Option Bool × Unit) fun i _ => do
          let a ← part el xs (i * te.size)
          let b ← part el ys (i * te.size)
          let r ← Op.equalIn d el a b
          if (!r) = true then pure (ForInStep.done (some false, ())) else pure (ForInStep.yield (none, ())) : Sem (Option Bool × Unit)).run P w).andThen (fun a w' =>
            Sem.run P (match a.fst with | some r => pure r | none => pure true) w') = (eqCells d el te.size xs ys k i).run P w := by
    intro k
    induction k with
    | zero => intro i w; simp [eqCells]
    | succ k ih =>
      intro i w
      simp only [List.range'_succ, List.forIn_cons, eqCells, Sem.run_bind]
      generalize (part el xs (i * te.size)).run P w = r1
      cases r1 with
      | ok a w1 =>
        simp only [Result.andThen_ok]
        generalize (part el ys (i * te.size)).run P w1 = r2
        cases r2 with
        | ok b w2 =>
          simp only [Result.andThen_ok]
          generalize (Op.equalIn d el a b).run P w2 = r3
          cases r3 with
          | ok r w3 =>
            cases r
            · simp only [Bool.not_false, if_true, Result.andThen_ok, Sem.run_pure]
            · simp only [Bool.not_true, Bool.false_eq_true, if_false, Result.andThen_ok, Sem.run_pure]
              exact ih (i + 1) w3
          | halt x w3 => simp [Result.andThen]
        | halt x w2 => simp [Result.andThen]
      | halt x w1 => simp [Result.andThen]
  refine Eq.trans ?_ (key n 0 w)
  congr 1
  funext a w'
  obtain ⟨a1, a2⟩ := a
  cases a1 <;> rfl

theorem eqA_ok (C : Cert P T) {d d' : Nat} {f : TypeId → Value → Value → Option Bool} (hf : EqOk P μ w d f) (hd : d ≤ d') {el : TypeId} {esz : Nat} {xs ys : List Value} {xa ya : Array Value} (hx : VsRel μ xs xa.toList) (hy : VsRel μ ys ya.toList) :
    ∀ (n i : Nat) (r : Bool), eqA T f el esz xs ys n i = some r → (eqCells d' el esz xa ya n i).run P w = .ok r w := by
  intro n
  induction n with
  | zero => intro i r h; injection h with h; subst h; rfl
  | succ n ih =>
    intro i r h
    have h' : (match aPart T el xs (i * esz), aPart T el ys (i * esz) with
      | some a, some b => (match f el a b with | some true => eqA T f el esz xs ys n (i + 1) | some false => some false | none => none)
      | _, _ => none) = some r := h
    split at h'
    · rename_i a b ha hb
      obtain ⟨a', ha1, ha2⟩ := aPart_ok C hx ha w
      obtain ⟨b', hb1, hb2⟩ := aPart_ok C hy hb w
      simp only [eqCells, Sem.run_bind, ha1, Result.andThen_ok, hb1]
      split at h'
      · rename_i he
        rw [hf _ _ _ _ _ _ he ha2 hb2 d' hd]
        simp [ih (i + 1) r h']
      · rename_i he
        injection h' with h'; subst h'
        rw [hf _ _ _ _ _ _ he ha2 hb2 d' hd]
        simp
      · cases h'
    · cases h'

theorem aSame_ok (R : MRel μ B A w.heap) {b off b' off' : Nat} {e e' : Ent} (he : μ b = some e) (he' : μ b' = some e') {r : Bool} (h : aSame A b off b' off' = some r) :
    (sameAddr ⟨e.blk, e.dl + off, none⟩ ⟨e'.blk, e'.dl + off', none⟩).run P w = .ok r w := by
  unfold aSame at h
  split at h
  · rename_i hb
    have hb := Nat.eq_of_beq_eq_true hb
    subst hb
    rw [he] at he'; injection he' with he'; subst he'
    injection h with h; subst h
    simp only [sameAddr, beq_self_eq_true, if_true, Sem.run_pure]
    congr 1
    rw [Bool.eq_iff_iff]
    simp
  · rename_i hb
    have hb := Nat.ne_of_beq_eq_false hb
    split at h
    · rename_i xs ys hx hy
      injection h with h; subst h
      obtain ⟨hg, arr, t, fr, ha, _, hB⟩ := R.obj b _ e hx he
      obtain ⟨hg', arr', t', fr', ha', _, hB'⟩ := R.obj b' _ e' hy he'
      obtain ⟨_, rfl⟩ := hB rfl
      obtain ⟨_, rfl⟩ := hB' rfl
      have hne : e.blk ≠ e'.blk := by
        intro hc
        rcases R.sep b b' e e' he he' hc with h1 | ⟨g, _, h1, _⟩
        · exact hb h1
        · rw [hg] at h1; cases h1
      have hne' : (e.blk == e'.blk) = false := by simpa using hne
      simp [sameAddr, hne', frozen?_of_heap ha, frozen?_of_heap ha', noView, viewAt, shape?_of_heap ha, shape?_of_heap ha', mayBeOne, stringish]
    · cases h

theorem boolEq_eq (a b : Bool) : (a == b) = (match a, b with | true, true => true | false, false => true | _, _ => false) := by cases a <;> cases b <;> rfl

set_option maxHeartbeats 2000000 in
theorem aEq_ok (C : Cert P T) (R : MRel μ B A w.heap) : ∀ d : Nat, EqOk P μ w d (aEq T A d) := by
  intro d
  induction d with
  | zero => intro t x y x' y' r h; cases h
  | succ d ih =>
    intro t x y x' y' r h hx hy d' hd
    obtain ⟨d', rfl⟩ : ∃ k, d' = k + 1 := ⟨d' - 1, by omega⟩
    have hd : d ≤ d' := by omega
    rw [aEq_succ] at h
    simp only at h
    split at h
    · rename_i ti ht
      have hu := fun w => C.underlying ht w
      have hu' := (C.ty t ti ht).1
      split at h
      · cases hx; cases hy
        split at h
        · rename_i hdesc
          rw [hdesc] at hu'
          injection h with h; subst h
          rw [run_equalIn_bool' (w := w) d' t _ _ hu']
          congr 1
          exact boolEq_eq _ _
        · cases h
      · cases hx; cases hy
        split at h
        · rename_i hk hdesc hkk
          rw [hdesc] at hu'
          injection h with h; subst h
          have hkk := of_decide_eq_true hkk
          subst hkk
          rw [run_equalIn_int w d' t _ _ _ _ hu', iEq_eq]
        · cases h
      · cases hx; cases hy
        split at h
        · rename_i hdesc
          rw [hdesc] at hu'
          injection h with h; subst h
          rw [run_equalIn_string w d' t _ _ hu', strEq_eq]
          simp [ByteArray.toList_eq]
        · cases h
      · cases hx; cases hy
        split at h
        · rename_i el hdesc
          injection h with h; subst h
          simp [Op.equalIn, hu, hdesc]
        · cases h
      · cases hx; cases hy
        split at h
        · rename_i el hdesc
          injection h with h; subst h
          simp [Op.equalIn, hu, hdesc]
        · cases h
      · cases hx; cases hy
        split at h
        · rename_i el hdesc
          injection h with h; subst h
          simp [Op.equalIn, hu, hdesc]
        · cases h
      · cases hx with
        | @ptr _ _ e he =>
        cases hy with
        | @ptr _ _ e' he' =>
        split at h
        · rename_i el hdesc
          split at h
          · rename_i te hte
            split at h
            · cases h
            · rename_i n hn
              have := aSame_ok (P := P) R he he' h
              have hz : te.size ≠ 0 := by omega
              simp [Op.equalIn, hu, hdesc, C.sizeOf hte, hz, this]
          · cases h
        · cases h
      · cases hx; cases hy
        split at h
        · rename_i ms hdesc
          injection h with h; subst h
          simp [Op.equalIn, hu, hdesc]
        · cases h
      · cases hx; cases hy
        split at h
        · rename_i ms hdesc
          injection h with h; subst h
          simp [Op.equalIn, hu, hdesc]
        · cases h
      · cases hx; cases hy
        split at h
        · rename_i ms hdesc
          injection h with h; subst h
          simp [Op.equalIn, hu, hdesc]
        · cases h
      · cases hx with
        | iface _ hvx =>
        cases hy with
        | iface _ hvy =>
        split at h
        · rename_i ms hdesc
          split at h
          · rename_i hne
            injection h with h; subst h
            have hne := Nat.ne_of_beq_eq_false hne
            simp [Op.equalIn, hu, hdesc, hne]
          · rename_i heq
            have heq := Nat.eq_of_beq_eq_true heq
            subst heq
            split at h
            · rename_i te hte
              split at h
              · rename_i hcmp
                obtain ⟨info, h1, _, _, _, h5⟩ := C.typeInfo hte w
                rw [hcmp] at h5
                have := ih _ _ _ _ _ _ h hvx hvy d' hd
                simp [Op.equalIn, hu, hdesc, h1, h5, this]
              · cases h
            · cases h
        · cases h
      · obtain ⟨xa, rfl, hvx⟩ := of_agg hx
        obtain ⟨ya, rfl, hvy⟩ := of_agg hy
        split at h
        · rename_i fs hdesc
          split at h
          · rename_i l hl
            rw [hdesc] at hu'
            obtain ⟨_, he2⟩ := C.eqs t l hl
            obtain ⟨hst, hfl⟩ := he2 fs hu'
            have hfo : P.fieldsOf t = fs := by simp [Program.fieldsOf, hu']
            rw [run_equalIn_struct w d' t xa ya (by rw [hfo]; exact hu') hst, hfo, eqFields_filter]
            rw [← hfl] at h
            exact eqL_ok C ih hd hvx hvy _ (fun g hg => by simpa using (List.mem_filter.1 hg).2) r h
          · cases h
        · rename_i n el hdesc
          split at h
          · rename_i te hte
            rw [hdesc] at hu'
            rw [run_equalIn_array C hu' hte]
            exact eqA_ok C ih hd hvx hvy n 0 r h
          · cases h
        · cases h
      · cases hx; cases hy
        split at h
        · rename_i el hdesc
          injection h with h; subst h
          simp [Op.equalIn, hu, hdesc]
        · cases h
      · cases hx
        split at h
        · rename_i el hdesc
          injection h with h; subst h
          cases hy <;> simp [Op.equalIn, hu, hdesc]
        · cases h
      · cases hy
        split at h
        · rename_i el hdesc
          injection h with h; subst h
          cases hx <;> simp [Op.equalIn, hu, hdesc]
        · cases h
      · cases hx; cases hy
        split at h
        · rename_i el hdesc
          injection h with h; subst h
          simp [Op.equalIn, hu, hdesc]
        · cases h
      · cases hx; cases hy
        split at h
        · rename_i el hdesc
          injection h with h; subst h
          simp [Op.equalIn, hu, hdesc]
        · cases h
      · cases hx; cases hy
        split at h
        · rename_i el hdesc
          injection h with h; subst h
          simp [Op.equalIn, hu, hdesc]
        · cases h
      · cases hx; cases hy
        split at h
        · rename_i hdesc
          injection h with h; subst h
          simp [Op.equalIn, hu, hdesc]
        · cases h
      · cases hx
        split at h
        · rename_i hdesc
          injection h with h; subst h
          cases hy <;> simp [Op.equalIn, hu, hdesc]
        · cases h
      · cases hy
        split at h
        · rename_i hdesc
          injection h with h; subst h
          cases hx <;> simp [Op.equalIn, hu, hdesc]
        · cases h
      · cases h
    · cases h
end
end

section
section
variable {P : Program} {T : Tab} {μ : Mu} {B : Nat} {A : AMem} {w : World}

noncomputable def strOp (op : BinOp) (a b : List UInt8) : Option Value :=
  match op with
  | .add => (match Nat.blt (Nat.add (len a) (len b)) 1000000000 with | true => some (.string ⟨⟨app a b⟩⟩) | false => none)
  | .eql => some (.bool (strEq a b))
  | .neq => some (.bool (!(strEq a b)))
  | .lss => some (.bool (Op.bytesLess a b))
  | .leq => some (.bool (Op.bytesLess a b || strEq a b))
  | .gtr => some (.bool (!(Op.bytesLess a b || strEq a b)))
  | .geq => some (.bool (!(Op.bytesLess a b)))
  | _ => none
theorem run_strOp {op : BinOp} {a b : List UInt8} {v : Value} (h : strOp op a b = some v) (w : World) : (Op.stringOp op ⟨⟨a⟩⟩ ⟨⟨b⟩⟩).run P w = .ok v w := by
  unfold strOp at h
  split at h
  · split at h
    · rename_i hb
      have hb := blt_lt hb
      simp only [len_eq] at hb
      injection h with h; subst h
      have hsz : ∀ l : List UInt8, (⟨⟨l⟩⟩ : ByteArray).size = l.length := fun _ => rfl
      have hb : a.length + b.length < 1000000000 := hb
      have hn : ¬ (((a.length + b.length : Nat) : Int) > IntKind.i64.max) := by
        simp only [IntKind.max, IntKind.signed, IntKind.bits, if_true]; omega
      simp only [Op.stringOp, hsz, hn, if_false, Sem.run_pure, app_eq]
      rfl
    · cases h
  all_goals first
    | cases h; done
    | (injection h with h; subst h; simp [Op.stringOp, ByteArray.toList_eq, strEq_eq])

def isConst : Operand → Bool
  | .const _ => true
  | _ => false
noncomputable def guardOk (T : Tab) (t : TypeId) (xo yo : Operand) (x y : Value) : Bool :=
  match x, y with
  | .float _ _, _ => false
  | _, .float _ _ => false
  | .nilIface, .nilIface => (match isConst xo with | true => true | false => isConst yo)
  | .agg _, .agg _ => (match T.eqs.get t with | some _ => true | none => false)
  | _, _ => true
theorem guard_ok (C : Cert P T) {op : BinOp} {t : TypeId} {xo yo : Operand} {x y x' y' : Value} (hx : VRel μ x x') (hy : VRel μ y y') (h : guardOk T t xo yo x y = true) (w : World) :
    (eqGuard op t xo yo x' y').run P w = .ok () w := by
  unfold guardOk at h
  split at h
  · cases h
  · cases h
  · cases hx; cases hy
    cases xo <;> cases yo <;> simp [isConst] at h <;> cases op <;> simp [eqGuard]
  · obtain ⟨xa, rfl, _⟩ := of_agg hx
    obtain ⟨ya, rfl, _⟩ := of_agg hy
    split at h
    · rename_i l hl
      exact run_eqGuard_agg w op t xo yo xa ya (C.eqs t l hl).1
    · cases h
  · rename_i hf1 hf2 hn1 hn2
    have key : ∀ a b : Value, ¬ (a = .nilIface ∧ b = .nilIface) → (∀ p q, ¬ (a = .agg p ∧ b = .agg q)) → (eqGuard op t xo yo a b).run P w = .ok () w := by
      intro a b h1 h2
      unfold eqGuard
      cases op <;> simp <;> (split <;> simp_all)
    apply key
    · rintro ⟨rfl, rfl⟩
      cases hx
      · exact hf1 _ _ rfl
      cases hy
      · exact hf2 _ _ rfl
      exact hn1 rfl rfl
    · rintro p q ⟨rfl, rfl⟩
      cases hx
      · exact hf1 _ _ rfl
      cases hy
      · exact hf2 _ _ rfl
      exact hn2 _ _ rfl rfl

noncomputable def opBin (T : Tab) (A : AMem) (op : BinOp) (t : TypeId) (xo yo : Operand) (x y : Value) : Option Value :=
  match x, y with
  | .int k a, .int k' b => intF op k a k' b
  | .string ⟨⟨a⟩⟩, .string ⟨⟨b⟩⟩ => strOp op a b
  | x, y =>
    match op with
    | .eql => (match guardOk T t xo yo x y with | true => (match aEq T A 12 t x y with | some b => some (.bool b) | none => none) | false => none)
    | .neq => (match guardOk T t xo yo x y with | true => (match aEq T A 12 t x y with | some b => some (.bool (!b)) | none => none) | false => none)
    | _ => none

theorem binOp_eql {t : TypeId} {x y : Value} (h : ∀ k a k' b, ¬ (x = .int k a ∧ y = .int k' b)) (hf : ∀ k a k' b, ¬ (x = .float k a ∧ y = .float k' b)) (hc : ∀ k a c k' b d, ¬ (x = .complex k a c ∧ y = .complex k' b d)) (hs : ∀ a b, ¬ (x = .string a ∧ y = .string b)) :
    (binOp .eql t x y = do pure (.bool (← Op.equal t x y))) ∧ (binOp .neq t x y = do pure (.bool (!(← Op.equal t x y)))) := by
  constructor <;>
  · unfold binOp
    split <;> first
      | exact absurd ⟨rfl, rfl⟩ (h _ _ _ _)
      | exact absurd ⟨rfl, rfl⟩ (hf _ _ _ _)
      | exact absurd ⟨rfl, rfl⟩ (hc _ _ _ _ _ _)
      | exact absurd ⟨rfl, rfl⟩ (hs _ _)
      | rfl
      | simp_all

theorem opBin_ok (C : Cert P T) (R : MRel μ B A w.heap) {op : BinOp} {t : TypeId} {xo yo : Operand} {x y x' y' : Value} (hx : VRel μ x x') (hy : VRel μ y y') {v : Value} (h : opBin T A op t xo yo x y = some v) :
    ∃ v', ((do eqGuard op t xo yo x' y'; binOp op t x' y' : Sem Value)).run P w = .ok v' w ∧ VRel μ v v' := by
  unfold opBin at h
  split at h
  · rename_i k a k' b
    cases hx; cases hy
    have hg : (eqGuard op t xo yo (.int k a) (.int k' b)).run P w = .ok () w := guard_ok C (.int k a (μ := μ)) (.int k' b) rfl w
    refine ⟨v, ?_, ?_⟩
    · simp only [Sem.run_bind, hg, Result.andThen_ok]
      exact run_intF h P w t
    · unfold intF at h
      have sh : ∀ o, shiftF o k a b = some v → VRel μ v v := by
        intro o h
        unfold shiftF at h
        split at h
        · cases h
        · cases o <;> simp at h <;> subst h <;> exact .int _ _
      split at h
      · exact sh _ h
      · exact sh _ h
      · split at h
        · cases h
        · split at h
          all_goals first
            | (rw [bitsF_eq] at h
               simp only [bitsSlow] at h
               injection h with h; subst h; exact .int _ _)
            | skip
          unfold arithF at h
          split at h
          all_goals first
            | cases h; done
            | (injection h with h; subst h; first | exact .int _ _ | exact .bool _)
            | (split at h
               · cases h
               · injection h with h; subst h; exact .int _ _)
  · rename_i a b
    cases hx; cases hy
    have hg : (eqGuard op t xo yo (.string ⟨⟨a⟩⟩) (.string ⟨⟨b⟩⟩)).run P w = .ok () w := guard_ok C (.string ⟨⟨a⟩⟩ (μ := μ)) (.string ⟨⟨b⟩⟩) rfl w
    refine ⟨v, ?_, ?_⟩
    · simp only [Sem.run_bind, hg, Result.andThen_ok]
      have := run_strOp (P := P) h w
      have hb : binOp op t (.string ⟨⟨a⟩⟩) (.string ⟨⟨b⟩⟩) = Op.stringOp op ⟨⟨a⟩⟩ ⟨⟨b⟩⟩ := by cases op <;> rfl
      rw [hb]; exact this
    · unfold strOp at h
      split at h
      · split at h
        · injection h with h; subst h; exact .string _
        · cases h
      all_goals first
        | cases h; done
        | (injection h with h; subst h; exact .bool _)
  · rename_i hni hns
    have hgo : guardOk T t xo yo x y = true := by
      cases hg : guardOk T t xo yo x y with
      | true => rfl
      | false =>
        rw [hg] at h
        split at h <;> cases h
    have nfx : ∀ k n, x ≠ .float k n := by
      rintro k n rfl
      simp [guardOk] at hgo
    have nfy : ∀ k n, y ≠ .float k n := by
      rintro k n rfl
      cases x <;> simp [guardOk] at hgo
    have ni : ∀ k a k' b, ¬ (x' = .int k a ∧ y' = .int k' b) := by
      rintro k a k' b ⟨rfl, rfl⟩
      cases hx
      · exact nfx _ _ rfl
      cases hy
      · exact nfy _ _ rfl
      exact hni _ _ _ _ rfl rfl
    have ns : ∀ a b, ¬ (x' = .string a ∧ y' = .string b) := by
      rintro ⟨⟨a⟩⟩ ⟨⟨b⟩⟩ ⟨rfl, rfl⟩
      cases hx
      · exact nfx _ _ rfl
      cases hy
      · exact nfy _ _ rfl
      exact hns _ _ rfl rfl
    have nf : ∀ k a k' b, ¬ (x' = .float k a ∧ y' = .float k' b) := by
      rintro k a k' b ⟨rfl, rfl⟩
      cases hx
      exact nfx _ _ rfl
    have nc : ∀ k a c k' b d, ¬ (x' = .complex k a c ∧ y' = .complex k' b d) := by
      rintro k a c k' b d ⟨rfl, rfl⟩
      cases hx
      exact nfx _ _ rfl
    obtain ⟨e1, e2⟩ := binOp_eql (t := t) ni nf nc ns
    split at h
    · split at h
      · rename_i hgo
        split at h
        · rename_i b hb
          injection h with h; subst h
          refine ⟨.bool b, ?_, .bool b⟩
          have := aEq_ok C R 12 t x y x' y' b hb hx hy 10000 (by omega)
          simp only [Sem.run_bind, guard_ok C hx hy hgo w, Result.andThen_ok, e1, Op.equal, Op.maxDepth, this, Sem.run_pure]
        · cases h
      · cases h
    · split at h
      · rename_i hgo
        split at h
        · rename_i b hb
          injection h with h; subst h
          refine ⟨.bool (!b), ?_, .bool _⟩
          have := aEq_ok C R 12 t x y x' y' b hb hx hy 10000 (by omega)
          simp only [Sem.run_bind, guard_ok C hx hy hgo w, Result.andThen_ok, e2, Op.equal, Op.maxDepth, this, Sem.run_pure]
        · cases h
      · cases h
    · cases h

def opUn (op : UnOp) (x : Value) : Option Value :=
  match op, x with
  | .not, .bool b => some (.bool (!b))
  | .neg, .int k n => some (.int k (wrapF k (Int.sub 0 n)))
  | .xor, .int k n => bitsF .xor k (match k.signed with | true => -1 | false => k.max) n
  | _, _ => none
theorem opUn_ok {op : UnOp} {x x' : Value} (hx : VRel μ x x') {v : Value} (h : opUn op x = some v) (w : World) : ∃ v', (Op.unary op x').run P w = .ok v' w ∧ VRel μ v v' := by
  unfold opUn at h
  split at h
  · cases hx
    injection h with h; subst h
    exact ⟨_, by simp [Op.unary], .bool _⟩
  · cases hx
    injection h with h; subst h
    refine ⟨_, ?_, .int _ _⟩
    rw [wrapF_eq]
    have e : ∀ n : Int, Int.sub 0 n = -n := fun n => Int.zero_sub n
    simp [Op.unary, Op.intArith, e]
  · cases hx
    rw [bitsF_eq] at h
    simp only [bitsSlow] at h
    injection h with h; subst h
    refine ⟨_, ?_, .int _ _⟩
    rename_i k n
    cases hk : k.signed <;> simp [Op.unary, Op.intBits, hk]
  · cases h

noncomputable def opIface (T : Tab) (t : TypeId) (x : Value) : Option Value :=
  match T.ty.get t with
  | some ti => (match ti.desc with | .interface _ => none | _ => some (.iface t x))
  | none => none
end
end

section
section
variable {P : Program} {T : Tab} {μ : Mu} {B : Nat} {A : AMem} {w : World}

theorem opIface_ok (C : Cert P T) {t : TypeId} {x x' : Value} (hx : VRel μ x x') {v : Value} (h : opIface T t x = some v) (w : World) : ∃ v', (Instr.makeInterface t x').run P w = .ok v' w ∧ VRel μ v v' := by
  unfold opIface at h
  split at h
  · rename_i ti ht
    have hu := C.underlying ht w
    split at h
    · cases h
    · rename_i hn
      injection h with h; subst h
      refine ⟨.iface t x', ?_, .iface t hx⟩
      simp only [Instr.makeInterface, Sem.run_bind, hu, Result.andThen_ok]
      rfl
  · cases h

def opExtract (x : Value) (i : Nat) : Option Value :=
  match x with
  | .tuple ⟨vs⟩ => vs[i]?
  | _ => none
theorem opExtract_ok {x x' : Value} (hx : VRel μ x x') {i : Nat} {v : Value} (h : opExtract x i = some v) (w : World) : ∃ v', (Instr.extract x' i).run P w = .ok v' w ∧ VRel μ v v' := by
  unfold opExtract at h
  split at h
  · rename_i vs
    obtain ⟨ys, rfl, hv⟩ := of_tuple hx
    obtain ⟨y, hy, hr⟩ := hv.get h
    have hy' : ys[i]? = some y := by simpa using hy
    exact ⟨y, by simp [Instr.extract, hy'], hr⟩
  · cases h

noncomputable def afill (place : Nat → Option (Nat × Nat)) (parts : List (Nat × Value)) : List Value → Option (List Value) :=
  List.rec (motive := fun _ => List Value → Option (List Value)) (fun cells => some cells)
    (fun p _ ih cells =>
      match place p.1 with
      | some (off, size) =>
        match Nat.beq (len p.2.cells.toList) size with
        | true => (match putN p.2.cells.toList cells off with | some cells' => ih cells' | none => none)
        | false => none
      | none => none) parts
theorem afill_cons (place : Nat → Option (Nat × Nat)) (p : Nat × Value) (ps : List (Nat × Value)) (cells : List Value) : afill place (p :: ps) cells =
      match place p.1 with
      | some (off, size) =>
        match Nat.beq (len p.2.cells.toList) size with
        | true => (match putN p.2.cells.toList cells off with | some cells' => afill place ps cells' | none => none)
        | false => none
      | none => none := rfl

theorem foldl_written (off : Nat) : ∀ (vs : List Value) (j : Nat) (arr : Array Value), off + j + vs.length ≤ arr.size →
    (vs.zipIdx j).foldl (fun (cs : Array Value) (p : Value × Nat) => cs.setIfInBounds (off + p.2) p.1) arr = written arr (off + j) vs := by
  intro vs
  induction vs with
  | nil => intro j arr _; apply Array.ext'; simp [written]
  | cons v vs ih =>
    intro j arr h
    simp only [List.length_cons] at h
    simp only [List.zipIdx_cons, List.foldl_cons]
    rw [ih (j + 1) _ (by simp; omega)]
    apply Array.ext_getElem?
    intro i
    rw [written_get (by simp; omega), written_get (by simp; omega), Array.getElem?_setIfInBounds]
    simp only [List.length_cons]
    by_cases h1 : off + j = i
    · subst h1
      have hlt : off + j < arr.size := by omega
      simp [hlt]
      omega
    · simp only [h1, if_false]
      by_cases h2 : off + (j + 1) ≤ i ∧ i < off + (j + 1) + vs.length
      · rw [if_pos h2, if_pos (by omega)]
        have : i - (off + j) = (i - (off + (j + 1))) + 1 := by omega
        rw [this]; simp
      · rw [if_neg h2, if_neg (by omega)]

def PartsRel (μ : Mu) : List (Nat × Value) → List (Nat × Value) → Prop := LRel fun a b => a.1 = b.1 ∧ VRel μ a.2 b.2

theorem afill_ok {place place' : Nat → Option (Nat × Nat)} (hp : ∀ i r, place i = some r → place' i = some r) : ∀ {ps ps' : List (Nat × Value)}, PartsRel μ ps ps' → ∀ {cells : List Value} {arr : Array Value}, VsRel μ cells arr.toList →
    ∀ {r : List Value}, afill place ps cells = some r → ∃ r' : Array Value, Instr.fill place' arr ps' = some r' ∧ VsRel μ r r'.toList := by
  intro ps
  induction ps with
  | nil =>
    intro ps' h cells arr hc r hr
    rw [h.nil_left]
    injection hr with hr; subst hr
    exact ⟨arr, rfl, hc⟩
  | cons p ps ih =>
    intro ps' h cells arr hc r hr
    obtain ⟨q, qs, rfl, ⟨h1, h2⟩, ht⟩ := h.cons_left
    rw [afill_cons] at hr
    split at hr
    · rename_i off size hpl
      split at hr
      · rename_i hsz
        have hsz := Nat.eq_of_beq_eq_true hsz
        split at hr
        · rename_i cells' hput
          have hvc := h2.cells
          have hl := hvc.1
          have hcl := hc.1
          obtain ⟨_, hle⟩ := putN_some hput
          simp at hsz hl hcl hle
          have hbnd : off + q.2.cells.toList.length ≤ arr.size := by simp; omega
          have hfw := foldl_written off q.2.cells.toList 0 arr (by simpa using hbnd)
          have hrel : VsRel μ cells' (written arr off q.2.cells.toList).toList := by
            refine ⟨?_, fun i x y hx hy => ?_⟩
            · have := putN_length hput
              have := written_size hbnd
              simp only [Array.length_toList]; omega
            · rw [putN_get hput] at hx
              rw [Array.getElem?_toList, written_get hbnd] at hy
              have he : p.2.cells.toList.length = q.2.cells.toList.length := hvc.1
              rw [← he] at hy
              split at hx
              · rename_i hcnd; rw [if_pos hcnd] at hy; exact hvc.2 _ _ _ hx hy
              · rename_i hcnd; rw [if_neg hcnd] at hy; exact hc.2 _ _ _ hx (by simpa using hy)
          obtain ⟨r', h3, h4⟩ := ih ht hrel hr
          refine ⟨r', ?_, h4⟩
          obtain ⟨qi, qv⟩ := q
          simp only at h1
          subst h1
          simp only [Instr.fill, hp _ _ hpl]
          have hn1 : ¬ (qv.cells.size ≠ size) := by simp at hsz hl ⊢; omega
          have hn2 : ¬ (off + qv.cells.size > arr.size) := by simp at hbnd; omega
          rw [if_neg (by simp [hn1, hn2])]
          rw [← h3]
          congr 1
          have hz : qv.cells.zipIdx.foldl (fun (cs : Array Value) (x : Value × Nat) => match x with | (c, j) => cs.setIfInBounds (off + j) c) arr = (qv.cells.toList.zipIdx 0).foldl (fun (cs : Array Value) (p : Value × Nat) => cs.setIfInBounds (off + p.2) p.1) arr := by
            rw [← Array.foldl_toList, Array.toList_zipIdx]
          exact hz.trans hfw
        · cases hr
      · cases hr
    · cases hr

noncomputable def fieldPlaces (T : Tab) (fs : List Field) : Option (List (Nat × Nat)) :=
  List.rec (motive := fun _ => Option (List (Nat × Nat))) (some [])
    (fun f _ r => match T.ty.get f.type, r with | some ti, some l => some ((f.offset, ti.size) :: l) | _, _ => none) fs
theorem fieldPlaces_ok (C : Cert P T) : ∀ {fs : List Field} {l : List (Nat × Nat)}, fieldPlaces T fs = some l → ∀ w, (fs.mapM fun (f : Field) => (do pure (f.offset, ← sizeOf f.type) : Sem (Nat × Nat))).run P w = .ok l w := by
  intro fs
  induction fs with
  | nil => intro l h w; injection h with h; subst h; simp
  | cons f fs ih =>
    intro l h w
    have h' : (match T.ty.get f.type, fieldPlaces T fs with | some ti, some l => some ((f.offset, ti.size) :: l) | _, _ => none) = some l := h
    split at h'
    · rename_i ti l' ht hl
      injection h' with h'; subst h'
      have := ih hl w
      rw [List.mapM_cons]
      simp only [Sem.run_bind, C.sizeOf ht, Result.andThen_ok, Sem.run_pure]
      rw [this]; rfl
    · cases h'

noncomputable def opBuild (T : Tab) (t : TypeId) (parts : List (Nat × Value)) : Option Value :=
  match T.ty.get t with
  | some ti =>
    match ti.desc with
    | .struct ⟨fs⟩ =>
      match fieldPlaces T fs with
      | some pl => (match afill (nth pl) parts ti.zero.cells.toList with | some r => some (.agg ⟨r⟩) | none => none)
      | none => none
    | .array _ el =>
      match T.ty.get el with
      | some te => (match afill (fun i => some (Nat.mul i te.size, te.size)) parts ti.zero.cells.toList with | some r => some (.agg ⟨r⟩) | none => none)
      | none => none
    | _ => none
  | none => none
theorem opBuild_ok (C : Cert P T) {t : TypeId} {ps : List (Nat × Value)} {ps' : Array (Nat × Value)} (hp : PartsRel μ ps ps'.toList) {v : Value} (h : opBuild T t ps = some v) (w : World) :
    ∃ v', (Instr.build t ps').run P w = .ok v' w ∧ VRel μ v v' := by
  unfold opBuild at h
  split at h
  · rename_i ti ht
    have hu := C.underlying ht w
    have hz := (closedB_rel (C.closed ht) μ).cells
    split at h
    · rename_i fs hdesc
      split at h
      · rename_i pl hpl
        split at h
        · rename_i r hr
          injection h with h; subst h
          have hpl' := fieldPlaces_ok C hpl w
          obtain ⟨r', h1, h2⟩ := afill_ok (place' := fun i => (⟨pl⟩ : Array (Nat × Nat))[i]?) (by intro i r h; rw [nth_eq] at h; simpa using h) hp hz hr
          refine ⟨.agg r', ?_, VsRel.agg h2⟩
          simp only [Instr.build, Sem.run_bind, C.zeroValue ht, Result.andThen_ok, hu, hdesc]
          have hm : ((⟨fs⟩ : Array Field).mapM fun (f : Field) => (do pure (f.offset, ← sizeOf f.type) : Sem (Nat × Nat))) = Array.mk <$> (fs.mapM fun (f : Field) => (do pure (f.offset, ← sizeOf f.type) : Sem (Nat × Nat))) := by
            rw [Array.mapM_eq_mapM_toList]
          rw [hm]
          simp only [Sem.run_map, hpl', Result.andThen_ok, h1, Sem.run_pure]
        · cases h
      · cases h
    · rename_i n el hdesc
      split at h
      · rename_i te hte
        split at h
        · rename_i r hr
          injection h with h; subst h
          obtain ⟨r', h1, h2⟩ := afill_ok (place' := fun i => some (i * te.size, te.size)) (by intro i r h; exact h) hp hz hr
          refine ⟨.agg r', ?_, VsRel.agg h2⟩
          simp only [Instr.build, Sem.run_bind, C.zeroValue ht, Result.andThen_ok, hu, hdesc, C.sizeOf hte, h1, Sem.run_pure]
        · cases h
      · cases h
    · cases h
  · cases h

noncomputable def reps (z : List Value) (n : Nat) : List Value := Nat.rec (motive := fun _ => List Value) [] (fun _ r => app z r) n
theorem reps_succ (z : List Value) (n : Nat) : reps z (n + 1) = z ++ reps z n := by show app z (reps z n) = _; simp
theorem reps_length (z : List Value) (n : Nat) : (reps z n).length = n * z.length := by
  induction n with
  | zero => rw [Nat.zero_mul]; rfl
  | succ n ih => rw [reps_succ, List.length_append, ih, Nat.add_mul]; omega
theorem reps_get (z : List Value) : ∀ (n i : Nat), i < n * z.length → (reps z n)[i]? = z[i % z.length]? := by
  intro n
  induction n with
  | zero => intro i h; omega
  | succ n ih =>
    intro i h
    rw [reps_succ]
    by_cases hi : i < z.length
    · rw [List.getElem?_append_left hi, Nat.mod_eq_of_lt hi]
    · rw [List.getElem?_append_right (by omega), ih (i - z.length) (by rw [Nat.add_mul] at h; omega)]
      congr 1
      rw [Nat.mod_eq_sub_mod (by omega : i ≥ z.length)]
theorem reps_eq {z : Array Value} {n m : Nat} (hm : m = n * z.size) : (Array.range m).map (fun i => z[i % z.size]!) = (reps z.toList n).toArray := by
  subst hm
  apply Array.ext_getElem?
  intro i
  by_cases hi : i < n * z.size
  · have hz : 0 < z.toList.length := by
      rcases Nat.eq_zero_or_pos z.size with h0 | h0
      · rw [h0] at hi; simp at hi
      · simpa using h0
    have h1 := reps_get z.toList n i (by simpa using hi)
    simp only [List.getElem?_toArray]
    rw [h1]
    have hmod : i % z.size < z.size := Nat.mod_lt _ (by simpa using hz)
    simp [hi, hmod, getElem!_pos]
  · rw [Array.getElem?_eq_none (by simp; omega), Array.getElem?_eq_none (by simp [reps_length]; omega)]
theorem reps_rel {z z' : List Value} (h : VsRel μ z z') (n : Nat) : VsRel μ (reps z n) (reps z' n) := by
  induction n with
  | zero => exact .nil
  | succ n ih => rw [reps_succ, reps_succ]; exact h.app ih

def mkSlice (n c : Nat) (b : Nat) : Value := .slice (some ⟨b, 0, none⟩) n c
noncomputable def alBuildSlice (T : Tab) (t : TypeId) (n : Nat) (parts : List (Nat × Value)) : Option (AObj × (Nat → Value)) :=
  match T.ty.get t with
  | some ti =>
    match ti.desc with
    | .slice el =>
      match T.ty.get el with
      | some te =>
        match Nat.beq (len te.zero.cells.toList) te.size, Nat.ble (Nat.mul n te.size) 16777216, te.size with
        | true, true, _ + 1 =>
          (match afill (fun i => some (Nat.mul i te.size, te.size)) parts (reps te.zero.cells.toList n) with
            | some r => some (.cells r (.fixed false), mkSlice n n)
            | none => none)
        | _, _, _ => none
      | none => none
    | _ => none
  | none => none

theorem newSlice_ok {μ : Mu} (hB : B ≤ w.heap.size) {xs : List Value} {arr : Array Value} {t : TypeId} (hx : VsRel μ xs arr.toList) {s : Sem Value} {n c : Nat}
    (hs : s.run P w = .ok (.slice (some ⟨w.heap.size, 0, none⟩) n c) (w.alloc (.cells arr t))) : AllocOk P μ B w s (.cells xs (.fixed false)) (mkSlice n c) := by
  refine ⟨_, _, hs, trivial, fun μ' hm => ⟨rfl, arr, t, (0, 0), heap_alloc_new _ _, hx.mono hm, fun _ => ⟨hB, rfl⟩⟩, fun μ' n hn => ?_⟩
  exact .slice (b := n) (off := 0) (e := ⟨w.heap.size, 0, none, 0⟩) hn rfl

theorem alBuildSlice_ok (C : Cert P T) (hB : B ≤ w.heap.size) {t : TypeId} {n : Nat} {ps : List (Nat × Value)} {ps' : Array (Nat × Value)} (hp : PartsRel μ ps ps'.toList) {o : AObj} {mk : Nat → Value} (h : alBuildSlice T t n ps = some (o, mk)) :
    AllocOk P μ B w (Instr.buildSlice t n ps') o mk := by
  unfold alBuildSlice at h
  split at h
  · rename_i ti ht
    have hu := C.underlying ht w
    split at h
    · rename_i el hdesc
      split at h
      · rename_i te hte
        split at h
        · rename_i k hz hbig hk
          have hz := Nat.eq_of_beq_eq_true hz
          have hbig := ble_le hbig
          split at h
          · rename_i r1 hr
            injection h with h; injection h with e1 e2; subst e1; subst e2
            have hzr := (closedB_rel (C.closed hte) μ).cells
            simp at hz
            obtain ⟨r', h1, h2⟩ := afill_ok (place' := fun i => some (i * te.size, te.size)) (arr := (reps te.zero.cells.toList n).toArray) (by intro i r h; exact h) hp (by simpa using reps_rel hzr n) hr
            refine newSlice_ok hB h2 (t := el) ?_
            have hbig' : ¬ (n * te.size > 2 ^ 24) := by simp at hbig ⊢; exact hbig
            simp only [Instr.buildSlice, Sem.run_bind, hu, hdesc, Result.andThen_ok, C.sizeOf hte, hbig', if_false]
            have hrange : ∀ m, m = n * te.size → m ≠ 0 → (Array.range m).map (fun i => te.zero.cells[i % te.zero.cells.size]!) = (reps te.zero.cells.toList n).toArray := by
              intro m hm _
              exact reps_eq (by rw [hz]; exact hm)
            by_cases h0 : n * te.size = 0
            · have hn0 : n = 0 := by
                rcases Nat.mul_eq_zero.1 h0 with h | h
                · exact h
                · omega
              subst hn0
              have h1' : Instr.fill (fun i => some (i * te.size, te.size)) #[] ps'.toList = some r' := h1
              have er : Array.range 0 = #[] := rfl
              simp [er, h1', newRow]
            · simp only [h0, if_false, Sem.run_bind, C.zeroValue hte, Result.andThen_ok, Sem.run_pure]
              rw [hrange _ rfl h0, h1]
              simp [newRow]
          · cases h
        · cases h
      · cases h
    · cases h
  · cases h

noncomputable def opBuildSlice (T : Tab) (A : AMem) (t : TypeId) (n : Nat) (parts : List (Nat × Value)) : Option (Value × AMem) := lay A (alBuildSlice T t n parts)
theorem opBuildSlice_ok (C : Cert P T) (R : MRel μ B A w.heap) {t : TypeId} {n : Nat} {ps : List (Nat × Value)} {ps' : Array (Nat × Value)} (hp : PartsRel μ ps ps'.toList) {r : Value × AMem} (h : opBuildSlice T A t n ps = some r) :
    Ok P μ B A w (Instr.buildSlice t n ps') r.1 r.2 := lay_ok R h fun _ _ hq => alBuildSlice_ok C R.base hp hq

noncomputable def alMakeSlice (T : Tab) (t : TypeId) (l c : Value) : Option (AObj × (Nat → Value)) :=
  match l, c with
  | .int _ (.ofNat n), .int _ (.ofNat m) =>
    match T.ty.get t with
    | some ti =>
      match ti.desc with
      | .slice el =>
        match T.ty.get el with
        | some te =>
          match Nat.beq (len te.zero.cells.toList) te.size, Nat.ble (Nat.mul te.bytes m) 1000000000, Nat.ble m 1000000000, Nat.ble n m, te.size with
          | true, true, true, true, _ + 1 => some (.cells (reps te.zero.cells.toList m) (.fixed false), mkSlice n m)
          | _, _, _, _, _ => none
        | none => none
      | _ => none
    | none => none
  | _, _ => none
theorem makeSlice_run (C : Cert P T) {t : TypeId} {k k' : IntKind} {n m : Nat} {ti te : TI} {el : TypeId} {j : Nat} (ht : T.ty.get t = some ti) (hdesc : ti.desc = .slice el) (hte : T.ty.get el = some te) (hz : te.zero.cells.size = te.size)
    (hbig : te.bytes * m ≤ 1000000000) (hm : m ≤ 1000000000) (hnm : n ≤ m) (hk : te.size = j + 1) :
    (Instr.makeSlice t (.int k (.ofNat n)) (.int k' (.ofNat m))).run P w = .ok (.slice (some ⟨w.heap.size, 0, none⟩) n m) (w.alloc (.cells (reps te.zero.cells.toList m).toArray el)) := by
  have hu := C.underlying ht w
  obtain ⟨info, i1, _, i3, _⟩ := C.typeInfo hte w
  have wm : ∀ x : Nat, x ≤ 1000000000 → IntKind.i64.wrap (x : Int) = (x : Int) := by
    intro x hx
    exact (fits_wrap (k := .i64) (n := (x : Int)) (show Nat.blt x 9223372036854775808 = true from by rw [Nat.blt_eq]; omega)).symm
  simp only [Instr.makeSlice, Sem.run_bind, hu, hdesc, Result.andThen_ok, asInt, asIntOf, Sem.run_pure, i1, i3, Int.ofNat_eq_natCast, wm n (by omega), wm m hm]
  have hbi : (te.bytes : Int) * (m : Int) ≤ 1000000000 := by have := Int.ofNat_le.2 hbig; rwa [Int.natCast_mul] at this
  simp only [Bool.or_eq_true, decide_eq_true_eq]
  rw [if_neg (by omega)]
  simp only [Int.toNat_natCast, Sem.run_bind, run_askRoom, Result.andThen_ok, C.sizeOf hte]
  by_cases h0 : m * te.size = 0
  · have hm0 : m = 0 := by
      rcases Nat.mul_eq_zero.1 h0 with h | h
      · exact h
      · omega
    subst hm0
    have er : Array.range 0 = #[] := rfl
    have e0 : reps te.zero.cells.toList 0 = [] := rfl
    simp [newRow, er, e0]
  · simp only [h0, if_false, Sem.run_bind, C.zeroValue hte, Result.andThen_ok, Sem.run_pure]
    rw [reps_eq (n := m) (by rw [hz])]
    simp [newRow]
theorem alMakeSlice_ok (C : Cert P T) (hB : B ≤ w.heap.size) {t : TypeId} {l l' c c' : Value} (hl : VRel μ l l') (hc : VRel μ c c') {o : AObj} {mk : Nat → Value} (h : alMakeSlice T t l c = some (o, mk)) :
    AllocOk P μ B w (Instr.makeSlice t l' c') o mk := by
  unfold alMakeSlice at h
  split at h
  · rename_i k n k' m
    cases hl; cases hc
    split at h
    · rename_i ti ht
      split at h
      · rename_i el hdesc
        split at h
        · rename_i te hte
          split at h
          · rename_i j hz hbig hm hnm hk
            have hz := Nat.eq_of_beq_eq_true hz
            have hbig := ble_le hbig
            have hm := ble_le hm
            have hnm := ble_le hnm
            injection h with h; injection h with e1 e2; subst e1; subst e2
            have hzr := (closedB_rel (C.closed hte) μ).cells
            simp at hz
            exact newSlice_ok hB (arr := (reps te.zero.cells.toList m).toArray) (by simpa using reps_rel hzr m) (t := el) (makeSlice_run C ht hdesc hte (by simpa using hz) hbig hm hnm hk)
          · cases h
        · cases h
      · cases h
    · cases h
  · cases h
noncomputable def opMakeSlice (T : Tab) (A : AMem) (t : TypeId) (l c : Value) : Option (Value × AMem) := lay A (alMakeSlice T t l c)
theorem opMakeSlice_ok (C : Cert P T) (R : MRel μ B A w.heap) {t : TypeId} {l l' c c' : Value} (hl : VRel μ l l') (hc : VRel μ c c') {r : Value × AMem} (h : opMakeSlice T A t l c = some r) :
    Ok P μ B A w (Instr.makeSlice t l' c') r.1 r.2 := lay_ok R h fun _ _ hq => alMakeSlice_ok C R.base hl hc hq
end
end

end Go.Proofs.YthcadcdfoenclaaGreatDoor.Sim
