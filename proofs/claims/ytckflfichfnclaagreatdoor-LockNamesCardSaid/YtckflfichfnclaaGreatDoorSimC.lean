/- A machine that runs closed calls of the program by the kernel: append, maps, conversions, iterators. No condition. -/
import Derived.Laws.LoneSync
import Derived.Lib.Bytealg
import Derived.Lib.UnsafeStr
import Derived.Test.YtckflfichfnclaaGreatDoorSimA
namespace Go.Proofs.YtckflfichfnclaaGreatDoor.Sim
open Go Go.RowKit
noncomputable section
section
section
variable {P : Program} {T : Tab} {μ : Mu} {B : Nat} {A : Xd} {w : World}
def appCore (el : TypeId) (size : Nat) (zero : Value) (base : Option Addr) (sLen sCap n : Nat) (x : Value) : Sem Value := do
 if sLen + n <= sCap then
  let new ← Builtin.firstCells size n x
  if let some a := base then storeCells (a.add (sLen * size)) new.toList
  pure (.slice base (sLen + n) sCap)
 else
  let newCap ← choose (.appendCap (sLen + n) sCap el)
  let old ← Builtin.firstCells size sLen (.slice base sLen sCap)
  let new ← Builtin.firstCells size n x
  let r ← newRow el (old ++ new ++ Builtin.zeroCells zero.cells (newCap - (sLen + n)))
  pure (.slice (some r) (sLen + n) newCap)
theorem growBy_le (m : Nat) : ∀ (r c : Nat), c < m -> Builtin.growBy m r c <= 2 * m + 192 := by
 intro r
 induction r with
 | zero => intro c h; simp [Builtin.growBy]; omega
 | succ r ih =>
  intro c h
  simp only [Builtin.growBy]
  rw [if_neg (by omega)]
  by_cases h2 : c + (c + 768) / 4 < m
  ·exact ih _ h2
  ·cases r with
   | zero => simp only [Builtin.growBy]; omega
   | succ r => simp only [Builtin.growBy]; rw [if_pos (by omega)]; omega
theorem nextslicecap_le {m c : Nat} (h : c < m) : Builtin.nextslicecap m c <= 2 * m + 192 := by
 unfold Builtin.nextslicecap
 split
 ·omega
 ·split
  ·omega
  ·exact growBy_le m 4 c h
def lenV : Value -> Option Nat
 | .slice _ n _ => some n
 | .string ⟨⟨l⟩⟩ => some l.length
 | _ => none
theorem run_lenOf {x : Value} {n : Nat} (h : lenV x = some n) (w : World) : (Builtin.lenOf x).run P w = .ok n w := by
 unfold lenV at h
 split at h
 ·injection h with h; subst h; rfl
 ·injection h with h; subst h; rfl
 ·cases h
theorem run_append (C : Xy P T) {st xt el : TypeId} {ti tx te : TI} (hst : T.ty.get st = some ti) (hd : ti.desc = .slice el) (hxt : T.ty.get xt = some tx) (hnx : ∀ k, tx.desc ≠ .int k) (hel : T.ty.get el = some te)
  {base : Option Addr} {sLen sCap n : Nat} {x : Value} (hn : lenV x = some n) (hb : (2 * (sLen + n) + 192) * te.bytes <= 2 ^ 40) (hm : sLen + n <= 2 ^ 40) (w : World) (rt : TypeId) :
  (Builtin.append_ #[st, xt] rt #[.slice base sLen sCap, x]).run P w = (appCore el te.size te.zero base sLen sCap n x).run P w := by
 have hu := fun w => C.underlying hst w
 have hux := fun w => C.underlying hxt w
 have hz : ((match tx.desc with | .int _ => true | _ => false) : Bool) = false := by
  split
  ·rename_i k hk; exact absurd hk (hnx k)
  ·rfl
 obtain ⟨_, info, i0, _, i3, _⟩ := C.ty el te hel
 have i1 : ∀ w, (typeInfo el).run P w = .ok info w := fun w => by simp [Go.typeInfo, i0]
 have i2 : ∀ w, (zeroValue el).run P w = .ok te.zero w := fun w => C.zeroValue hel w
 simp only [Builtin.append_, appCore]
 simp only [List.getElem?_toArray, List.getElem?_cons_zero, List.getElem?_cons_succ, Sem.run_bind, hu, hd, Result.andThen_ok, C.sizeOf hel, hux, Sem.run_pure, Bool.false_eq_true, if_false, run_lenOf hn]
 by_cases hroom : sLen + n <= sCap
 ·simp only [hroom, if_true, Bool.not_false]
  cases base <;> rfl
 ·have hcap : sCap < sLen + n := by omega
  have hns := nextslicecap_le hcap
  have hmul : Builtin.nextslicecap (sLen + n) sCap * te.bytes <= 2 ^ 40 := Nat.le_trans (Nat.mul_le_mul_right _ hns) hb
  have c2 : ¬ (Builtin.nextslicecap (sLen + n) sCap * te.bytes > 2 ^ 48) := by
   have : (2 : Nat) ^ 40 <= 2 ^ 48 := Nat.pow_le_pow_right (by omega) (by omega)
   omega
  have c1 : ¬ (((sLen + n : Nat) : Int) > IntKind.i64.max /\ (False \/ te.bytes = 0)) := by
   simp only [IntKind.max, IntKind.signed, IntKind.bits, if_true]; omega
  simp only [hroom, if_false, i1, Result.andThen_ok, i3, Sem.run_bind, Sem.run_ite, Bool.not_false, if_true]
  rw [if_neg c1, if_neg c2]
  simp only [i2, run_askRoom, Result.andThen_ok]
end
def bytesV (l : List UInt8) : List Value := List.rec (motive := fun _ => List Value) [] (fun b _ r => .int .u8 (.ofNat b.toNat) :: r) l
theorem bytesV_eq (l : List UInt8) : bytesV l = l.map fun b => .int .u8 b.toNat := by
 induction l with
 | nil => rfl
 | cons b l ih => show _ :: bytesV l = _; rw [ih]; rfl
def newCells (A : Xd) (esz : Nat) (x : Value) : Option (Nat × List Value) :=
 match x with
 | .slice none 0 0 => some (0, [])
 | .slice (some ⟨b, off, none⟩) n _ => (match n with | 0 => some (0, []) | _ + 1 => (match YG A b off (Nat.mul n esz) with | some ys => some (n, ys) | none => none))
 | .string ⟨⟨l⟩⟩ => (match esz with | 1 => some (len l, bytesV l) | _ => none)
 | _ => none
section
variable {P : Program} {T : Tab} {μ : Mu} {B : Nat} {A : Xd} {w : World}
theorem newCells_ok (R : Xs μ B A w.heap) {esz : Nat} {x x' : Value} (hx : Xj μ x x') {n : Nat} {ys : List Value} (h : newCells A esz x = some (n, ys)) :
  lenV x' = some n /\ ys.length = n * esz /\ ∃ zs : Array Value, (Builtin.firstCells esz n x').run P w = .ok zs w /\ Xo μ ys zs.toList := by
 unfold newCells at h
 split at h
 ·injection h with h; injection h with h1 h2; subst h1; subst h2
  cases hx
  exact ⟨rfl, by simp, #[], rfl, .nil⟩
 ·rename_i b off n' cap
  split at h
  ·injection h with h; injection h with h1 h2; subst h1; subst h2
   have : ∃ a c, x' = .slice (some a) 0 c := by cases hx <;> exact ⟨_, _, rfl⟩
   obtain ⟨a, c, rfl⟩ := this
   exact ⟨rfl, by simp, #[], by simp [Builtin.firstCells, loadCells, loadCellsFrom], .nil⟩
  ·rename_i k
   split at h
   ·rename_i ys' hl
    injection h with h; injection h with h1 h2; subst h1; subst h2
    have key : ∀ (e : Ent) (c : Nat), μ b = some e -> x' = .slice (some ⟨e.blk, e.dl + off, none⟩) (k + 1) c -> lenV x' = some (k + 1) /\ ys'.length = (k + 1) * esz /\ ∃ zs : Array Value, (Builtin.firstCells esz (k + 1) x').run P w = .ok zs w /\ Xo μ ys' zs.toList := by
     intro e c he hx'
     subst hx'
     obtain ⟨zs, h1, h2, h3⟩ := Yz P R he hl
     exact ⟨rfl, h3, zs, h1, h2⟩
    cases hx with
    | slice he hg => exact key _ _ he rfl
    | gslice he hg hl' hc hs => exact key _ _ he rfl
   ·cases h
 ·rename_i l
  split at h
  ·injection h with h; injection h with h1 h2; subst h1; subst h2
   cases hx
   refine ⟨by simp [lenV], by simp [bytesV_eq], (l.map fun b => Value.int .u8 b.toNat).toArray, ?_, ?_⟩
   ·simp only [Builtin.firstCells, Sem.run_pure]
    congr 1
    apply Array.ext'
    simp [ByteArray.data_extract, len_eq]
   ·rw [bytesV_eq]
    refine ⟨by simp, fun i x y hx hy => ?_⟩
    have hx : (l.map fun b => Value.int .u8 b.toNat)[i]? = some x := hx
    have hy : (l.map fun b => Value.int .u8 b.toNat)[i]? = some y := by simpa using hy
    rw [hx] at hy; injection hy with hy; subst hy
    rw [List.getElem?_map] at hx
    cases hb : l[i]? with
    | none => rw [hb] at hx; cases hx
    | some c => rw [hb] at hx; injection hx with hx; subst hx; exact .int _ _
  ·cases h
 ·cases h
def opAppend (T : Tab) (A : Xd) (ats : List TypeId) (s x : Value) : Option (Value × Xd) :=
 match ats with
 | [st, xt] =>
  match T.ty.get st, T.ty.get xt with
  | some ti, some tx =>
   match ti.desc, (match tx.desc with | .slice _ => true | .string => true | _ => false) with
   | .slice el, true =>
    match T.ty.get el with
    | some te =>
     match te.size, newCells A te.size x with
     | _ + 1, some (n, ys) =>
      match s with
      | .slice none 0 0 =>
       match Nat.ble (Nat.mul (Nat.add (Nat.mul 2 n) 192) te.bytes) 1000000000, Nat.ble n 1000000000 with
       | true, true =>
        (match n with
         | 0 => some (s, A)
         | _ + 1 => (match afresh A te.size el ys with | some A' => some (.slice (some ⟨A.next, 0, none⟩) n n, A') | none => none))
       | _, _ => none
      | .slice (some ⟨b, off, none⟩) l c =>
       match Nat.ble l c, Nat.ble (Nat.mul (Nat.add (Nat.mul 2 (Nat.add l n)) 192) te.bytes) 1000000000, Nat.ble (Nat.add l n) 1000000000 with
       | true, true, true =>
        (match n with
         | 0 => some (s, A)
         | _ + 1 =>
          match A.heap.get b with
          | some (.cells _ (.fixed _)) =>
           (match Nat.ble (Nat.add l n) c with
            | true => (match astore A b (Nat.add off (Nat.mul l te.size)) ys with | some A' => some (.slice (some ⟨b, off, none⟩) (Nat.add l n) c, A') | none => none)
            | false =>
             match YG A b off (Nat.mul l te.size) with
             | some old => (match afresh A te.size el (app old ys) with | some A' => some (.slice (some ⟨A.next, 0, none⟩) (Nat.add l n) (Nat.add l n), A') | none => none)
             | none => none)
          | some (.cells _ (.grown _)) =>
           (match agrow A b off (Nat.mul l te.size) te.size el ys with | some A' => some (.slice (some ⟨A.next, 0, none⟩) (Nat.add l n) (Nat.add l n), A') | none => none)
          | _ => none)
       | _, _, _ => none
      | _ => none
     | _, _ => none
    | none => none
   | _, _ => none
  | _, _ => none
 | _ => none
theorem appendCap_run (need old : Nat) (el : TypeId) (w : World) : ∃ c, (choose (.appendCap need old el)).run P w = .ok c w.drew /\ need <= c := by
 refine ⟨_, by simp [Question.forced]; rfl, ?_⟩
 simp only [Question.cut]; omega
theorem zeroCells_len (z : Array Value) (n : Nat) : (Builtin.zeroCells z n).size = n * z.size := by simp [Builtin.zeroCells]
theorem appCore_new {el : TypeId} {size : Nat} {zero : Value} {base : Option Addr} {sLen sCap n : Nat} {x : Value} {old new : Array Value} (hroom : ¬ sLen + n <= sCap)
  (ho : (Builtin.firstCells size sLen (.slice base sLen sCap)).run P w.drew = .ok old w.drew) (hn : (Builtin.firstCells size n x).run P w.drew = .ok new w.drew) :
  ∃ c, sLen + n <= c /\ (appCore el size zero base sLen sCap n x).run P w = .ok (.slice (some ⟨w.heap.size, 0, none⟩) (sLen + n) c) (w.drew.alloc (.cells (old ++ new ++ Builtin.zeroCells zero.cells (c - (sLen + n))) el)) := by
 obtain ⟨c, h1, h2⟩ := appendCap_run (P := P) (sLen + n) sCap el w
 refine ⟨c, h2, ?_⟩
 simp only [appCore, if_neg hroom, Sem.run_bind, h1, Result.andThen_ok, ho, hn]
 simp only [newRow, Sem.run_bind, run_newObj, Result.andThen_ok, Sem.run_pure]
 rfl
theorem Kr {b blk csz dl n c : Nat} {g : Gr} (hn : n <= c) (hc : dl + c * g.esz <= csz) :
  Xj (μ.add b ⟨blk, dl, some g, csz⟩) (.slice (some ⟨b, 0, none⟩) n n) (.slice (some ⟨blk, dl, none⟩) n c) :=
 Xj.gslice (b := b) (off := 0) (e := ⟨blk, dl, some g, csz⟩) (g := g) (by simp) rfl (Nat.le_refl _) hn (by simpa using hc)
theorem room_of {te : TI} {zero : Value} (hz : zero.cells.size = te.size) {old new : Array Value} {m c : Nat} (hm : old.size + new.size = m * te.size) (hc : m <= c) :
  c * te.size <= (old ++ new ++ Builtin.zeroCells zero.cells (c - m)).size := by
 have e : m * te.size + (c - m) * te.size = c * te.size := by rw [← Nat.add_mul]; congr 1; omega
 simp only [Array.size_append, zeroCells_len, hz]
 omega
theorem Yw {B : Nat} {w : World} (hB : B <= w.heap.size) (o : Obj) : Below B w (w.drew.alloc o) := ((Below.refl B w).drew).alloc hB o
theorem loadCells_drew (a : Addr) : ∀ (n i : Nat) (acc zs : Array Value) (w : World), (loadCellsFrom a i n acc).run P w = .ok zs w -> (loadCellsFrom a i n acc).run P w.drew = .ok zs w.drew := by
 intro n
 induction n with
 | zero => intro i acc zs w h; simp [loadCellsFrom] at h ⊢; exact h
 | succ n ih =>
  intro i acc zs w h
  simp only [loadCellsFrom, Sem.run_bind, run_load, World.cell?_drew] at h ⊢
  cases hc : w.cell? (a.add i) with
  | some v => rw [hc] at h; simp only [Result.andThen_ok] at h ⊢; exact ih _ _ _ _ h
  | none =>
   rw [hc] at h
   have hf : w.drew.farLoad P (a.add i) (Mode.plain == .atomic) = w.farLoad P (a.add i) (Mode.plain == .atomic) := rfl
   simp only [hf] at h ⊢
   cases hx : w.farLoad P (a.add i) (Mode.plain == .atomic) with
   | ok r => rw [hx] at h; simp only [Result.andThen_ok] at h ⊢; exact ih _ _ _ _ h
   | error e => rw [hx] at h; cases h
theorem firstCells_drew (size n : Nat) (x : Value) (w : World) (zs : Array Value) (h : (Builtin.firstCells size n x).run P w = .ok zs w) : (Builtin.firstCells size n x).run P w.drew = .ok zs w.drew := by
 unfold Builtin.firstCells at h ⊢
 split at h
 ·exact loadCells_drew _ _ _ _ _ _ h
 ·simp at h ⊢; exact h
 ·simp at h ⊢; exact h
 ·cases h
theorem opAppend_ok (C : Xy P T) (R : Xs μ B A w.heap) {ats : List TypeId} {s x s' x' : Value} (hs : Xj μ s s') (hx : Xj μ x x') {r : Value × Xd} (h : opAppend T A ats s x = some r) (rt : TypeId) :
  Ok P μ B A w (Builtin.append_ ats.toArray rt #[s', x']) r.1 r.2 := by
 unfold opAppend at h
 split at h
 case h_2 => cases h
 rename_i st xt
 split at h
 case h_2 => cases h
 rename_i ti tx hst hxt
 split at h
 case h_2 => cases h
 rename_i el hd hok
 split at h
 case h_2 => cases h
 rename_i te hte
 split at h
 case h_2 => cases h
 rename_i k n ys hsz hnew
 have hnx : ∀ k, tx.desc ≠ .int k := by
  intro k hk; rw [hk] at hok; simp at hok
 obtain ⟨hlen, hyl, zs, hz1, hz2⟩ := newCells_ok (P := P) R hx hnew
 have hz1d : (Builtin.firstCells te.size n x').run P w.drew = .ok zs w.drew := by
  obtain ⟨_, _, zs', hz', _⟩ := newCells_ok (P := P) (w := w.drew) R hx hnew
  obtain ⟨hlen2, _⟩ := newCells_ok (P := P) (w := w) R hx hnew
  have : zs' = zs := by
   have e1 := firstCells_drew (P := P) te.size n x' w zs hz1
   rw [e1] at hz'; injection hz' with hz'; exact hz'.symm
  rw [← this]; exact hz'
 have hesz : 1 <= te.size := by omega
 have harr : ([st, xt] : List TypeId).toArray = #[st, xt] := rfl
 have two : (1000000000 : Nat) <= 2 ^ 40 := by decide
 split at h
 ·-- nil
  cases hs
  split at h
  case h_2 => cases h
  rename_i h1 h2
  have h1 : (2 * n + 192) * te.bytes <= 1000000000 := XZ h1
  have h2 := XZ h2
  have hrun := fun w => run_append C hst hd hxt hnx hte (base := none) (sLen := 0) (sCap := 0) hlen (by rw [Nat.zero_add]; exact Nat.le_trans h1 two) (by omega) w rt
  cases n with
  | zero =>
   injection h with h; subst h
   refine ⟨.slice none 0 0, w, μ, ?_, Mu.Ext.refl _ μ, R, .nilslice, Below.refl _ _, Ye.refl _ _⟩
   rw [harr, hrun]
   simp [appCore, hz1]
  | succ n1 =>
   dsimp only at h
   split at h
   case h_2 => cases h
   rename_i A' hA
   injection h with h; subst h
   obtain ⟨c, hc1, hc2⟩ := appCore_new (el := el) (zero := te.zero) (base := none) (sLen := 0) (sCap := 0) (old := #[]) (by omega) rfl hz1d
   obtain ⟨R', K, Bw, hm⟩ := KA (w := w.drew) R hA (arr := #[] ++ zs ++ Builtin.zeroCells te.zero.cells (c - (0 + (n1 + 1)))) (fr := (0, 0)) (.inl rfl) (ys := zs.toList) (rest := (Builtin.zeroCells te.zero.cells (c - (0 + (n1 + 1)))).toList) (by simp) hz2
   refine ⟨_, _, _, by rw [harr, hrun]; exact hc2, hm, R', ?_, Yw R.base _, K⟩
   have hcap := room_of (te := te) (zero := te.zero) (C.zsize hte) (old := #[]) (new := zs) (m := 0 + (n1 + 1)) (c := c) (by have := hz2.1; simp at this ⊢; omega) hc1
   rw [Nat.zero_add] at hc1
   have hv := Kr (μ := μ) (b := A.next) (blk := w.heap.size) (dl := 0) (g := ⟨te.size, A.next, 0, el⟩) hc1 (by rw [Nat.zero_add]; exact hcap)
   have e0 : 0 + (n1 + 1) = n1 + 1 := Nat.zero_add _
   rw [e0]
   rw [e0] at hv
   exact hv
 ·rename_i b off l c
  split at h
  case h_2 => cases h
  rename_i h0 h1 h2
  have h0 := XZ h0
  have h1 : (2 * (l + n) + 192) * te.bytes <= 1000000000 := XZ h1
  have h2 : l + n <= 1000000000 := XZ h2
  have hrun := fun (base : Option Addr) (cap : Nat) (w : World) => run_append C hst hd hxt hnx hte (base := base) (sLen := l) (sCap := cap) hlen (Nat.le_trans h1 two) (by omega) w rt
  have hshape : ∃ a cap', s' = .slice (some a) l cap' /\ l <= cap' := by
   cases hs with
   | slice he hg => exact ⟨_, _, rfl, h0⟩
   | gslice he hg hl hc hb => exact ⟨_, _, rfl, by omega⟩
   | zslice he => exact ⟨_, _, rfl, by omega⟩
  cases n with
  | zero =>
   -- nothing is appended
   injection h with h; subst h
   obtain ⟨a, cap', rfl, hcap'⟩ := hshape
   have hz0 : zs = #[] := by
    have h3 := hz2.1
    rw [hyl] at h3
    simp at h3
    exact Array.eq_empty_of_size_eq_zero h3.symm
   subst hz0
   refine ⟨.slice (some a) l cap', w, μ, ?_, Mu.Ext.refl _ μ, R, hs, Below.refl _ _, Ye.refl _ _⟩
   rw [harr, hrun]
   simp [appCore, hcap', hz1, storeCells]
  | succ n1 =>
   dsimp only at h
   split at h
   ·-- a plain row
    rename_i xs ro ho
    split at h
    ·-- with room
     rename_i hroom
     have hroom := XZ hroom
     split at h
     case h_2 => cases h
     rename_i A' hA
     injection h with h; subst h
     have key : ∀ (e : Ent), μ b = some e -> e.gr = none -> s' = .slice (some ⟨e.blk, e.dl + off, none⟩) l c -> Ok P μ B A w (Builtin.append_ ([st, xt] : List TypeId).toArray rt #[s', x']) (.slice (some ⟨b, off, none⟩) (Nat.add l (n1 + 1)) c) A' := by
      intro e he hg hs'
      subst hs'
      obtain ⟨w', k1, k2, k3, k4, _⟩ := Ky P R he hz2 hA
      refine ⟨_, w', μ, ?_, Mu.Ext.refl _ μ, k2, .slice he hg, k3, k4⟩
      rw [harr, hrun]
      have hroom' : l + (n1 + 1) <= c := hroom
      have k1' : (storeCells ⟨e.blk, e.dl + off + l * te.size, none⟩ zs.toList).run P w = .ok () w' := by
       rw [Nat.add_assoc]; exact k1
      simp only [appCore, if_pos hroom', Sem.run_bind, hz1, Result.andThen_ok, Kc, k1']
      rfl
     cases hs with
     | slice he hg => exact key _ he hg rfl
     | gslice he hg hl hc hb => exact absurd ((R.obj b _ _ ho he).1) (by rw [hg]; simp)
     | zslice he => have h5 : 0 + (n1 + 1) <= 0 := hroom; omega
    ·-- without
     rename_i hroom
     have hroom : ¬ l + (n1 + 1) <= c := fun hle => by have h5 : Nat.ble (Nat.add l (n1 + 1)) c = true := Nat.ble_eq_true_of_le hle; rw [h5] at hroom; cases hroom
     split at h
     case h_2 => cases h
     rename_i old hold
     split at h
     case h_2 => cases h
     rename_i A' hA
     injection h with h; subst h
     have key : ∀ (e : Ent) (a : Addr), μ b = some e -> (l = 0 \/ a = ⟨e.blk, e.dl + off, none⟩) -> s' = .slice (some a) l c -> Ok P μ B A w (Builtin.append_ ([st, xt] : List TypeId).toArray rt #[s', x']) (.slice (some ⟨A.next, 0, none⟩) (Nat.add l (n1 + 1)) (Nat.add l (n1 + 1))) A' := by
      intro e a he ha hs'
      subst hs'
      have hold2 : ∃ os : Array Value, (Builtin.firstCells te.size l (.slice (some a) l c)).run P w.drew = .ok os w.drew /\ Xo μ old os.toList /\ old.length = l * te.size := by
       obtain ⟨os, o1, o2, o3⟩ := Yz (w := w.drew) P R he hold
       rcases ha with ha | ha
       ·subst ha
        refine ⟨#[], by simp [Builtin.firstCells, loadCells, loadCellsFrom], ?_, o3⟩
        have h5 : old.length = 0 * te.size := o3
        have : old = [] := List.length_eq_zero_iff.1 (by rw [h5, Nat.zero_mul])
        rw [this]; exact .nil
       ·subst ha
        exact ⟨os, o1, o2, o3⟩
      obtain ⟨os, o1, o2, o3⟩ := hold2
      obtain ⟨c', hc1, hc2⟩ := appCore_new (el := el) (zero := te.zero) (base := some a) (sLen := l) (sCap := c) (old := os) hroom o1 hz1d
      rw [Yi] at hA
      obtain ⟨R', K, Bw, hm⟩ := KA (w := w.drew) R hA (arr := os ++ zs ++ Builtin.zeroCells te.zero.cells (c' - (l + (n1 + 1)))) (fr := (0, 0)) (.inl rfl) (ys := os.toList ++ zs.toList) (rest := (Builtin.zeroCells te.zero.cells (c' - (l + (n1 + 1)))).toList) (by simp) (o2.app hz2)
      refine ⟨_, _, _, by rw [harr, hrun]; exact hc2, hm, R', ?_, Yw R.base _, K⟩
      have hcap := room_of (te := te) (zero := te.zero) (C.zsize hte) (old := os) (new := zs) (m := l + (n1 + 1)) (c := c') (by have e1 := hz2.1; have e2 := o2.1; simp at e1 e2; rw [Nat.add_mul]; omega) hc1
      exact Kr (μ := μ) (b := A.next) (blk := w.heap.size) (dl := 0) (g := ⟨te.size, A.next, 0, el⟩) hc1 (by rw [Nat.zero_add]; exact hcap)
     cases hs with
     | slice he hg => exact key _ _ he (.inr rfl) rfl
     | gslice he hg hl hc hb => exact absurd ((R.obj b _ _ ho he).1) (by rw [hg]; simp)
     | zslice he => exact key _ _ he (.inl rfl) rfl
   ·-- a member of a family
    rename_i xs g ho
    split at h
    case h_2 => cases h
    rename_i A' hA
    injection h with h; subst h
    obtain ⟨e0, he0⟩ : ∃ e, μ b = some e := by cases hs <;> exact ⟨_, ‹_›⟩
    have hg0 : e0.gr = some g := (R.obj b _ e0 ho he0).1
    have inNew : ∀ (a : Addr) (cap' : Nat), ¬ l + (n1 + 1) <= cap' -> (l = 0 \/ a = ⟨e0.blk, e0.dl + off, none⟩) -> s' = .slice (some a) l cap' -> Ok P μ B A w (Builtin.append_ ([st, xt] : List TypeId).toArray rt #[s', x']) (.slice (some ⟨A.next, 0, none⟩) (Nat.add l (n1 + 1)) (Nat.add l (n1 + 1))) A' := by
     intro a cap' hroom ha hs'
     subst hs'
     obtain ⟨g1, old, _, _, hold, hol, _⟩ := agrow_ok R he0 hA
     have hold2 : ∃ os : Array Value, (Builtin.firstCells te.size l (.slice (some a) l cap')).run P w.drew = .ok os w.drew /\ Xo μ old os.toList := by
      obtain ⟨os, o1, o2, o3⟩ := Yz (w := w.drew) P R he0 hold
      rcases ha with ha | ha
      ·subst ha
       refine ⟨#[], by simp [Builtin.firstCells, loadCells, loadCellsFrom], ?_⟩
       have h5 : old.length = 0 * te.size := hol
       have : old = [] := List.length_eq_zero_iff.1 (by rw [h5, Nat.zero_mul])
       rw [this]; exact .nil
      ·subst ha
       exact ⟨os, o1, o2⟩
     obtain ⟨os, o1, o2⟩ := hold2
     obtain ⟨c', hc1, hc2⟩ := appCore_new (el := el) (zero := te.zero) (base := some a) (sLen := l) (sCap := cap') (old := os) hroom o1 hz1d
     obtain ⟨g2, k1, k2, R', K, Bw, hm⟩ := agrow_new (w := w.drew) R he0 hA (arr := os ++ zs ++ Builtin.zeroCells te.zero.cells (c' - (l + (n1 + 1)))) (old' := os.toList) (new' := zs.toList) (rest := (Builtin.zeroCells te.zero.cells (c' - (l + (n1 + 1)))).toList) (by simp)
      (by intro o ho2; rw [hold] at ho2; injection ho2 with ho2; subst ho2; exact o2) hz2
     refine ⟨_, _, _, by rw [harr, hrun]; exact hc2, hm, R', ?_, Yw R.base _, K⟩
     have hcap := room_of (te := te) (zero := te.zero) (C.zsize hte) (old := os) (new := zs) (m := l + (n1 + 1)) (c := c') (by have e1 := hz2.1; have e2 := o2.1; have e3 : old.length = l * te.size := hol; simp at e1 e2; rw [Nat.add_mul]; omega) hc1
     exact Kr (μ := μ) (b := A.next) (blk := w.heap.size) (dl := 0) (g := ⟨g2.esz, g2.fam, g2.base + off, g2.ty⟩) hc1 (by rw [Nat.zero_add, k2]; exact hcap)
    cases hs with
    | slice he hg => rw [he0] at he; injection he with he; subst he; rw [hg0] at hg; cases hg
    | zslice he => exact inNew _ _ (by omega) (.inl rfl) rfl
    | @gslice _ _ _ _ cap' e1 g1 he hg hl hc hb =>
     rw [he0] at he; injection he with he; subst he
     rw [hg0] at hg; injection hg with hg; subst hg
     by_cases hroom : l + (n1 + 1) <= cap'
     ·have hyl' : ys.length = zs.size := by have := hz2.1; simpa using this
      have hge : g.esz = te.size := by
       obtain ⟨g1, _, h3, ⟨h4, _⟩, _⟩ := agrow_ok R he0 hA
       rw [hg0] at h3; injection h3 with h3; subst h3; exact h4
      have hmulr := Nat.mul_le_mul_right g.esz hroom
      rw [Nat.add_mul] at hmulr
      have hroom2 : e0.dl + off + l * te.size + ys.length <= e0.csz := by
       rw [hyl, ← hge]; omega
      obtain ⟨g2, w', k1, k2, k3, R', K, Bw, _, hm⟩ := agrow_place P R he0 hA hz2 hroom2
      rw [hg0] at k1; injection k1 with k1; subst k1
      refine ⟨.slice (some ⟨e0.blk, e0.dl + off, none⟩) (l + (n1 + 1)) cap', w', _, ?_, hm, R', ?_, Bw, K⟩
      ·rw [harr, hrun]
       have k3' : (storeCells ⟨e0.blk, e0.dl + off + l * te.size, none⟩ zs.toList).run P w = .ok () w' := k3
       simp only [appCore, if_pos hroom, Sem.run_bind, hz1, Result.andThen_ok, Kc, k3']
       rfl
      ·exact Kr (μ := μ) (b := A.next) (blk := e0.blk) (dl := e0.dl + off) (g := ⟨g.esz, g.fam, g.base + off, g.ty⟩) hroom hb
     ·exact inNew _ _ hroom (.inr rfl) rfl
   ·cases h
 ·cases h
def opAppendZ (T : Tab) (A : Xd) (ats : List TypeId) (s x : Value) : Option (Value × Xd) :=
 match ats with
 | [st, xt] =>
  match T.ty.get st, T.ty.get xt with
  | some ti, some tx =>
   match ti.desc, tx.desc with
   | .slice el, .int _ =>
    match T.ty.get el with
    | some te =>
     match te.size, s, x with
     | _ + 1, .slice none 0 0, .int _ (.ofNat n) =>
      match Nat.ble (Nat.mul (Nat.add (Nat.mul 2 n) 192) te.bytes) 1000000000, Nat.ble n 1000000000 with
      | true, true =>
       (match n with
        | 0 => some (s, A)
        | m + 1 => (match afresh A te.size el (Kk te.zero.cells.toList (Nat.succ m)) with | some A' => some (.slice (some ⟨A.next, 0, none⟩) (Nat.succ m) (Nat.succ m), A') | none => none))
      | _, _ => none
     | _, _, _ => none
    | none => none
   | _, _ => none
  | _, _ => none
 | _ => none
theorem wrap_i64_small {n : Nat} (h : n <= 1000000000) : IntKind.i64.wrap (n : Int) = n := by
 have e : (n : Int) % 2 ^ 64 = n := by omega
 simp only [IntKind.wrap, IntKind.signed, IntKind.bits, e]
 rw [if_neg (by simp; omega)]
theorem opAppendZ_ok (C : Xy P T) (R : Xs μ B A w.heap) {ats : List TypeId} {s x s' x' : Value} (hs : Xj μ s s') (hx : Xj μ x x') {r : Value × Xd} (h : opAppendZ T A ats s x = some r) (rt : TypeId) :
  Ok P μ B A w (Builtin.append_ ats.toArray rt #[s', x']) r.1 r.2 := by
 unfold opAppendZ at h
 split at h
 case h_2 => cases h
 rename_i st xt
 split at h
 case h_2 => cases h
 rename_i ti tx hst hxt
 split at h
 case h_2 => cases h
 rename_i el kx hd hkx
 split at h
 case h_2 => cases h
 rename_i te hte
 split at h
 case h_2 => cases h
 rename_i k ki n hsz
 cases hs
 cases hx
 split at h
 case h_2 => cases h
 rename_i h1 h2
 have h1 : (2 * n + 192) * te.bytes <= 1000000000 := XZ h1
 have h2 : n <= 1000000000 := XZ h2
 have hesz : 1 <= te.size := by omega
 have hu := fun w => C.underlying hst w
 have hux := fun w => C.underlying hxt w
 obtain ⟨_, info, i0, _, i3, _⟩ := C.ty el te hte
 have i1 : ∀ w, (typeInfo el).run P w = .ok info w := fun w => by simp [Go.typeInfo, i0]
 have i2 : ∀ w, (zeroValue el).run P w = .ok te.zero w := fun w => C.zeroValue hte w
 have hzs := C.zsize hte
 have hwr : IntKind.i64.wrap (Int.ofNat n) = (n : Int) := wrap_i64_small h2
 have hnb : n * te.bytes <= 1000000000 := Nat.le_trans (Nat.mul_le_mul_right _ (by omega)) h1
 have c0 : ¬ ((n : Int) < 0) := by omega
 have c1 : ¬ ((n : Int) * (te.bytes : Nat) > 2 ^ 48) := by
  have : ((n : Int) * (te.bytes : Nat)) = ((n * te.bytes : Nat) : Int) := by simp
  rw [this]; omega
 have harr : ([st, xt] : List TypeId).toArray = #[st, xt] := rfl
 cases n with
 | zero =>
  injection h with h; subst h
  refine ⟨.slice none 0 0, w, μ, ?_, Mu.Ext.refl _ μ, R, .nilslice, Below.refl _ _, Ye.refl _ _⟩
  rw [harr]
  have hwr0 : IntKind.i64.wrap 0 = 0 := hwr
  simp [Builtin.append_, hu, hd, hux, hkx, C.sizeOf hte, asInt, asIntOf, hwr0, i1, i3]
 | succ m =>
  dsimp only at h
  split at h
  case h_2 => cases h
  rename_i A' hA
  injection h with h; subst h
  have hns := nextslicecap_le (m := m + 1) (c := 0) (by omega)
  have hmul : Builtin.nextslicecap (m + 1) 0 * te.bytes <= 1000000000 := Nat.le_trans (Nat.mul_le_mul_right _ hns) h1
  have c2 : ¬ (Builtin.nextslicecap (m + 1) 0 * te.bytes > 2 ^ 48) := by omega
  have c3 : ¬ (((m + 1 : Nat) : Int) > IntKind.i64.max) := by
   simp only [IntKind.max, IntKind.signed, IntKind.bits, if_true]; omega
  obtain ⟨c, hc, hc1⟩ := appendCap_run (P := P) (m + 1) 0 el w
  have hz0 : ¬ ((m + 1) * te.size = 0) := by
   have := Nat.mul_le_mul (show 1 <= m + 1 by omega) hesz
   omega
  have hzc : Builtin.zeroCells te.zero.cells (m + 1) = (Kk te.zero.cells.toList (m + 1)).toArray := by
   unfold Builtin.zeroCells
   exact reps_eq rfl
  have hrun : (Builtin.append_ #[st, xt] rt #[.slice none 0 0, .int ki (Int.ofNat (m + 1))]).run P w =
    .ok (.slice (some ⟨w.heap.size, 0, none⟩) (m + 1) c) (w.drew.alloc (.cells (#[] ++ Builtin.zeroCells te.zero.cells (m + 1) ++ Builtin.zeroCells te.zero.cells (c - (m + 1))) el)) := by
   simp only [Builtin.append_, List.getElem?_toArray, List.getElem?_cons_zero, List.getElem?_cons_succ, Sem.run_bind, hu, hd, Result.andThen_ok, C.sizeOf hte, hux, hkx, Sem.run_pure, if_true, asInt, asIntOf, hwr, i1, i3, if_neg c0, if_neg c1, Int.toNat_natCast, Nat.zero_add]
   rw [if_neg (by omega)]
   simp only [Sem.run_bind, i1, Result.andThen_ok, Sem.run_ite, Bool.not_true, Bool.false_eq_true, if_false, hz0, i2, Sem.run_pure]
   rw [if_neg (by intro hh; exact c3 hh.1), i3]
   rw [if_neg c2]
   simp only [hc, run_askRoom, Result.andThen_ok]
   simp only [Builtin.firstCells, Sem.run_pure, Result.andThen_ok, newRow, Sem.run_bind, run_newObj]
   rfl
  have hrel : Xo μ (Kk te.zero.cells.toList (m + 1)) (Builtin.zeroCells te.zero.cells (m + 1)).toList := by
   rw [hzc]
   simpa using reps_rel (XU (C.closed hte) μ).cells (m + 1)
  obtain ⟨R', K, Bw, hm⟩ := KA (w := w.drew) R hA (arr := #[] ++ Builtin.zeroCells te.zero.cells (m + 1) ++ Builtin.zeroCells te.zero.cells (c - (m + 1))) (fr := (0, 0)) (.inl rfl) (ys := (Builtin.zeroCells te.zero.cells (m + 1)).toList) (rest := (Builtin.zeroCells te.zero.cells (c - (m + 1))).toList) (by simp) hrel
  refine ⟨_, _, _, by rw [harr]; exact hrun, hm, R', ?_, Yw R.base _, K⟩
  have hcap := room_of (te := te) (zero := te.zero) hzs (old := #[]) (new := Builtin.zeroCells te.zero.cells (m + 1)) (m := m + 1) (c := c) (by rw [zeroCells_len, hzs]; simp) hc1
  exact Kr (μ := μ) (b := A.next) (blk := w.heap.size) (dl := 0) (g := ⟨te.size, A.next, 0, el⟩) hc1 (by rw [Nat.zero_add]; exact hcap)
end
end
section
theorem XG {P : Program} {w : World} {r : Nat} {o : Obj} (h : w.heap[r]? = some o) (hc : ∀ c t f, o ≠ .cells c t f) : (getObj r).run P w = .ok o w := by
 cases o <;> first | exact absurd rfl (hc _ _ _) | simp only [getObj, Sem.run, h]
theorem run_setObj {P : Program} {w : World} {r : Nat} {o : Obj} (h : w.heap[r]? = some o) (hc : ∀ c t f, o ≠ .cells c t f) (o' : Obj) : (setObj r o').run P w = .ok () (wr w r o') := by
 cases o <;> first | exact absurd rfl (hc _ _ _) | (simp only [setObj, Sem.run, h]; rfl)
def keyKind : TypeDesc -> Bool
 | .int _ | .string | .bool => true
 | _ => false
def Yc (d : TypeDesc) (x y : Value) : Option Bool :=
 match x, y with
 | .int k a, .int k' b => (match d, decide (k = k') with | .int _, true => some (iEq a b) | _, _ => none)
 | .string ⟨⟨a⟩⟩, .string ⟨⟨b⟩⟩ => (match d with | .string => some (strEq a b) | _ => none)
 | .bool a, .bool b => (match d with | .bool => some (match a, b with | true, true => true | false, false => true | _, _ => false) | _ => none)
 | _, _ => none
def aFind (d : TypeDesc) (k : Value) (es : List MapEntry) : Nat -> Option (Option (Nat × Value)) :=
 List.rec (motive := fun _ => Nat -> Option (Option (Nat × Value))) (fun _ => some none)
  (fun e _ ih i => match Yc d k e.key with
   | some true => some (some (i, e.val))
   | some false => ih (Nat.succ i)
   | none => none) es
theorem aFind_cons (d : TypeDesc) (k : Value) (e : MapEntry) (es : List MapEntry) (i : Nat) : aFind d k (e :: es) i =
  match Yc d k e.key with
   | some true => some (some (i, e.val))
   | some false => aFind d k es (i + 1)
   | none => none := rfl
section
variable {P : Program} {T : Tab} {μ : Mu} {B : Nat} {A : Xd} {w : World}
theorem aSameKey_ok {d : TypeDesc} {x y x' y' : Value} (hx : Xj μ x x') (hy : Xj μ y y') {b : Bool} (h : Yc d x y = some b) :
  Instr.sameNow d x' y' = some b /\ x' = x /\ y' = y /\ keyKind d = true /\ (b = true -> Instr.sameBits 10000 y' x' = true) := by
 unfold Yc at h
 split at h
 ·cases hx; cases hy
  split at h
  ·rename_i hd hk
   have hk := of_decide_eq_true hk
   subst hk
   injection h with h; subst h
   refine ⟨by simp [Instr.sameNow, iEq_eq], rfl, rfl, rfl, ?_⟩
   intro hb; rw [iEq_eq] at hb; have hb := eq_of_beq hb; subst hb
   simp [Instr.sameBits]
  ·cases h
 ·cases hx; cases hy
  split at h
  ·injection h with h; subst h
   refine ⟨by simp [Instr.sameNow, strEq_eq, beq_toListBytes, ByteArray.toList_eq], rfl, rfl, rfl, ?_⟩
   intro hb; rw [strEq_eq] at hb; have hb := eq_of_beq hb; subst hb
   simp [Instr.sameBits, beq_toListBytes]
  ·cases h
 ·cases hx; cases hy
  split at h
  ·injection h with h; subst h
   rename_i p q _
   cases p <;> cases q <;> exact ⟨rfl, rfl, rfl, rfl, by intro hb; first | rfl | cases hb⟩
  ·cases h
 ·cases h
def FindRel (μ : Mu) : Option (Nat × Value) -> Option (Nat × Value) -> Prop
 | none, none => True
 | some (i, v), some (j, u) => i = j /\ Xj μ v u
 | _, _ => False
theorem aFind_ok {d : TypeDesc} {k k' : Value} (hk : Xj μ k k') : ∀ {es es' : List MapEntry}, XE (XM μ) es es' -> ∀ {i : Nat} {r : Option (Nat × Value)}, aFind d k es i = some r ->
  ∃ r', Instr.findNow d k' es' i = some r' /\ FindRel μ r r' /\
   (∀ j v, r = some (j, v) -> ∃ e e', i <= j /\ es[j - i]? = some e /\ es'[j - i]? = some e' /\ XM μ e e' /\ Instr.sameBits 10000 e'.key k' = true /\ e.key = e'.key) := by
 intro es
 induction es with
 | nil =>
  intro es' h i r hr
  rw [h.nil_left]
  injection hr with hr; subst hr
  exact ⟨none, rfl, trivial, fun j v hc => by cases hc⟩
 | cons e es ih =>
  intro es' h i r hr
  obtain ⟨e', es'', rfl, he, ht⟩ := h.cons_left
  rw [aFind_cons] at hr
  split at hr
  ·rename_i hs
   injection hr with hr; subst hr
   obtain ⟨h1, h2, h3, _, h5⟩ := aSameKey_ok hk he.1 hs
   refine ⟨some (i, e'.val), by simp [Instr.findNow, h1], ⟨rfl, he.2.1⟩, ?_⟩
   intro j v hj
   injection hj with hj; injection hj with hj1 hj2; subst hj1; subst hj2
   refine ⟨e, e', Nat.le_refl _, by simp, by simp, he, h5 rfl, h3.symm⟩
  ·rename_i hs
   obtain ⟨h1, _⟩ := aSameKey_ok hk he.1 hs
   obtain ⟨r', g1, g2, g3⟩ := ih ht hr
   refine ⟨r', by simp [Instr.findNow, h1, g1], g2, ?_⟩
   intro j v hj
   obtain ⟨a, a', l1, l2, l3, l4⟩ := g3 j v hj
   have e1 : j - i = (j - (i + 1)) + 1 := by omega
   exact ⟨a, a', by omega, by rw [e1]; simpa using l2, by rw [e1]; simpa using l3, l4⟩
  ·cases hr
theorem run_checkKey_succ (C : Xy P T) {kt : TypeId} {tk : TI} (h : T.ty.get kt = some tk) (hk : keyKind tk.desc = true) (em : Bool) (n : Nat) (v : Value) (w : World) : (Instr.checkKey em (n + 1) kt v).run P w = .ok () w := by
 have hu := C.underlying h w
 unfold keyKind at hk
 split at hk
 ·rename_i k hd
  rw [hd] at hu
  simp only [Instr.checkKey, Sem.run_bind, hu, Result.andThen_ok]; rfl
 ·rename_i hd
  rw [hd] at hu
  simp only [Instr.checkKey, Sem.run_bind, hu, Result.andThen_ok]; rfl
 ·rename_i hd
  rw [hd] at hu
  simp only [Instr.checkKey, Sem.run_bind, hu, Result.andThen_ok]; rfl
 ·cases hk
theorem X7 {v v' : Value} (h : Xw v = true) (hv : Xj μ v v') : v' = v := by
 unfold Xw at h
 split at h <;> first
  | (cases h; done)
  | (cases hv; rfl)
theorem closedB_eq {v v' : Value} (h : X5 v = true) (hv : Xj μ v v') : v' = v := by
 unfold X5 at h
 split at h
 ·rename_i cs
  obtain ⟨ys, rfl, hl⟩ := of_agg hv
  have key : ∀ l : List Value, (List.rec (motive := fun _ => Bool) true (fun c _ r => match Xw c with | true => r | false => false) l : Bool) = true -> ∀ m, Xo μ l m -> m = l := by
   intro l
   induction l with
   | nil => intro _ m hm; exact hm.nil_left
   | cons a l ih =>
    intro hl m hm
    obtain ⟨y, m', rfl, h1, h2⟩ := hm.cons_left
    have hl' : (match Xw a with | true => (List.rec (motive := fun _ => Bool) true (fun c _ r => match Xw c with | true => r | false => false) l : Bool) | false => false) = true := hl
    cases ha : Xw a with
    | false => rw [ha] at hl'; cases hl'
    | true =>
     rw [ha] at hl'
     rw [X7 ha h1, ih hl' m' h2]
  have := key _ h _ hl
  congr 1
  exact Array.ext' this
 ·obtain ⟨ys, rfl, hl⟩ := of_tuple hv
  have := hl.nil_left
  congr 1
  exact Array.ext' this
 ·exact X7 h hv
def fieldsKey (T : Tab) (cs : List Value) (l : List (TypeId × Nat)) : Bool :=
 List.rec (motive := fun _ => Bool) true
  (fun p _ r => match T.ty.get p.1, Km T p.1 cs p.2 with
   | some tf, some _ => (match keyKind tf.desc with | true => r | false => false)
   | _, _ => false) l
def partsKey (T : Tab) (el : TypeId) (esz : Nat) (cs : List Value) (n : Nat) : Nat -> Bool :=
 Nat.rec (motive := fun _ => Nat -> Bool) (fun _ => true)
  (fun _ r i => match Km T el cs (Nat.mul i esz) with | some _ => r (Nat.succ i) | none => false) n
def keyOk (T : Tab) (kt : TypeId) (d : TypeDesc) (k : Value) : Bool :=
 match keyKind d with
 | true => true
 | false =>
  match d, k with
  | .struct _, .agg ⟨cs⟩ => (match T.eqs.get kt with | some l => fieldsKey T cs l | none => false)
  | .array n el, .agg ⟨cs⟩ => (match T.ty.get el with | some te => (match keyKind te.desc with | true => partsKey T el te.size cs n 0 | false => false) | none => false)
  | _, _ => false
theorem XW (C : Xy P T) {kt : TypeId} {tk : TI} (h : T.ty.get kt = some tk) {k k' : Value} (hk : Xj μ k k') (ho : keyOk T kt tk.desc k = true) (em : Bool) (w : World) : (Instr.checkKey em 10000 kt k').run P w = .ok () w := by
 have gen : ∀ m, (∀ (t : TypeId) (tf : TI) (v : Value), T.ty.get t = some tf -> keyKind tf.desc = true -> (Instr.checkKey em m t v).run P w = .ok () w) -> (Instr.checkKey em (m + 1) kt k').run P w = .ok () w := by
  intro m hm
  unfold keyOk at ho
  split at ho
  ·rename_i hb; exact run_checkKey_succ C h hb em m k' w
  ·split at ho
   ·rename_i fs cs hdesc
    split at ho
    case h_2 => cases ho
    rename_i l hl
    obtain ⟨ys, rfl, hv⟩ := of_agg hk
    have hu := C.underlying h w
    have hu' := (C.ty kt tk h).1
    rw [hdesc] at hu'
    obtain ⟨_, hfl⟩ := (C.eqs kt l hl).2 fs hu'
    simp only [Instr.checkKey, Sem.run_bind, hu, hdesc, Result.andThen_ok]
    rw [← Array.forIn_toList]
    have key : ∀ (gs : List Field), fieldsKey T cs ((gs.filter fun f => decide (f.name ≠ "_")).map fun f => (f.type, f.offset)) = true ->
      ((forIn gs PUnit.unit fun (f : Field) (_ : PUnit) => (do
       if f.name ≠ "_" then do
        let x ← part f.type ys f.offset
        Instr.checkKey em m f.type x
        pure (ForInStep.yield PUnit.unit)
       else pure (ForInStep.yield PUnit.unit) : Sem (ForInStep PUnit)))).run P w = .ok PUnit.unit w := by
     intro gs
     induction gs with
     | nil => intro _; rfl
     | cons f gs ih =>
      intro hg
      simp only [List.forIn_cons, Sem.run_bind]
      by_cases hf : f.name = "_"
      ·rw [List.filter_cons_of_neg (by simp [hf])] at hg
       simp only [hf, ne_eq, not_true_eq_false, if_false, Sem.run_pure, Result.andThen_ok]
       exact ih hg
      ·rw [List.filter_cons_of_pos (by simp [hf])] at hg
       have hg' : (match T.ty.get f.type, Km T f.type cs f.offset with
        | some tf, some _ => (match keyKind tf.desc with | true => fieldsKey T cs ((gs.filter fun f => decide (f.name ≠ "_")).map fun f => (f.type, f.offset)) | false => false)
        | _, _ => false) = true := hg
       split at hg'
       ·rename_i tf v0 htf hpart
        split at hg'
        ·rename_i hkf
         obtain ⟨v', hp1, _⟩ := KC C hv hpart w
         simp only [ne_eq, hf, not_false_eq_true, if_true, Sem.run_bind, hp1, Result.andThen_ok, hm _ _ _ htf hkf, Sem.run_pure]
         exact ih hg'
        ·cases hg'
       ·cases hg'
    rw [← hfl] at ho
    have := key fs.toList ho
    exact (congrArg (fun r => Result.andThen r (fun _ w' => Sem.run P (Pure.pure ()) w')) this).trans rfl
   ·rename_i n el cs hdesc
    split at ho
    case h_2 => cases ho
    rename_i te hte
    split at ho
    case h_2 => cases ho
    rename_i hke
    obtain ⟨ys, rfl, hv⟩ := of_agg hk
    have hu := C.underlying h w
    simp only [Instr.checkKey, Sem.run_bind, hu, hdesc, Result.andThen_ok]
    rw [Std.Legacy.Range.forIn_eq_forIn_range']
    simp only [Std.Legacy.Range.size, Nat.sub_zero, Nat.add_one_sub_one, Nat.div_one]
    have key : ∀ (q i : Nat), partsKey T el te.size cs q i = true ->
      ((forIn (List.range' i q) PUnit.unit fun (j : Nat) (_ : PUnit) => (do
       let s ← sizeOf el
       let x ← part el ys (j * s)
       Instr.checkKey em m el x
       pure (ForInStep.yield PUnit.unit) : Sem (ForInStep PUnit)))).run P w = .ok PUnit.unit w := by
     intro q
     induction q with
     | zero => intro i _; rfl
     | succ q ih =>
      intro i hg
      have hg' : (match Km T el cs (Nat.mul i te.size) with | some _ => partsKey T el te.size cs q (i + 1) | none => false) = true := hg
      split at hg'
      ·rename_i v0 hpart
       obtain ⟨v', hp1, _⟩ := KC C hv hpart w
       have hp1 : (part el ys (i * te.size)).run P w = .ok v' w := hp1
       simp only [List.range'_succ, List.forIn_cons, Sem.run_bind, C.sizeOf hte, hp1, Result.andThen_ok, hm _ _ _ hte hke, Sem.run_pure]
       exact ih _ hg'
      ·cases hg'
    have := key n 0 ho
    exact (congrArg (fun r => Result.andThen r (fun _ w' => Sem.run P (Pure.pure ()) w')) this).trans rfl
   ·cases ho
 exact gen 9999 (fun t tf v ht hk => run_checkKey_succ C ht hk em 9998 v w)
def aFindS (T : Tab) (A : Xd) (kt : TypeId) (k : Value) (es : List MapEntry) : Nat -> Option (Option (Nat × Value)) :=
 List.rec (motive := fun _ => Nat -> Option (Option (Nat × Value))) (fun _ => some none)
  (fun e _ ih i => match X5 e.key, aEq T A 12 kt k e.key with
   | true, some true => (match Instr.sameBits 10000 e.key k with | true => some (some (i, e.val)) | false => none)
   | true, some false => ih (Nat.succ i)
   | _, _ => none) es
theorem aFindS_cons (T : Tab) (A : Xd) (kt : TypeId) (k : Value) (e : MapEntry) (es : List MapEntry) (i : Nat) : aFindS T A kt k (e :: es) i =
  match X5 e.key, aEq T A 12 kt k e.key with
   | true, some true => (match Instr.sameBits 10000 e.key k with | true => some (some (i, e.val)) | false => none)
   | true, some false => aFindS T A kt k es (i + 1)
   | _, _ => none := rfl
def aFindX (T : Tab) (A : Xd) (kt : TypeId) (d : TypeDesc) (k : Value) (es : List MapEntry) : Option (Option (Nat × Value)) :=
 match keyKind d with
 | true => aFind d k es 0
 | false => (match d, X5 k with | .struct _, true => aFindS T A kt k es 0 | .array _ _, true => aFindS T A kt k es 0 | _, _ => none)
theorem aFindX_ok (C : Xy P T) (R : Xs μ B A w.heap) {kt : TypeId} {tk : TI} (h : T.ty.get kt = some tk) {k k' : Value} (hk : Xj μ k k') {es es' : List MapEntry} (he : XE (XM μ) es es') {r : Option (Nat × Value)} (hr : aFindX T A kt tk.desc k es = some r) :
  ∃ r', (Instr.findKey kt k' es').run P w = .ok r' w /\ FindRel μ r r' /\
   (∀ j v, r = some (j, v) -> ∃ e e', es[j]? = some e /\ es'[j]? = some e' /\ XM μ e e' /\ Instr.sameBits 10000 e'.key k' = true) := by
 unfold aFindX at hr
 split at hr
 ·obtain ⟨r', g1, g2, g3⟩ := aFind_ok hk he hr
  refine ⟨r', ?_, g2, ?_⟩
  ·simp only [Instr.findKey, Sem.run_bind, C.underlying h, Result.andThen_ok, g1]; rfl
  ·intro j v hj
   obtain ⟨e, e', _, q1, q2, q3, q4, _⟩ := g3 j v hj
   exact ⟨e, e', q1, q2, q3, q4⟩
 ·rename_i hkk
  have main : X5 k = true -> aFindS T A kt k es 0 = some r -> (∀ e0 l, Instr.findNow tk.desc k' (e0 :: l) 0 = none) -> ∃ r', (Instr.findKey kt k' es').run P w = .ok r' w /\ FindRel μ r r' /\
    (∀ j v, r = some (j, v) -> ∃ e e', es[j]? = some e /\ es'[j]? = some e' /\ XM μ e e' /\ Instr.sameBits 10000 e'.key k' = true) := by
   intro hck hr hd0
   have hkk' := closedB_eq hck hk
   subst hkk'
   have ask : ∀ {es es' : List MapEntry}, XE (XM μ) es es' -> ∀ {i : Nat} {r : Option (Nat × Value)}, aFindS T A kt k' es i = some r ->
     ∃ r', (Instr.findAsking kt k' es' i).run P w = .ok r' w /\ FindRel μ r r' /\
      (∀ j v, r = some (j, v) -> ∃ e e', i <= j /\ es[j - i]? = some e /\ es'[j - i]? = some e' /\ XM μ e e' /\ Instr.sameBits 10000 e'.key k' = true) := by
    intro es
    induction es with
    | nil =>
     intro es' h i r hr
     rw [h.nil_left]
     injection hr with hr; subst hr
     exact ⟨none, rfl, trivial, fun j v hc => by cases hc⟩
    | cons e es ih =>
     intro es' h i r hr
     obtain ⟨e', es'', rfl, he, ht⟩ := h.cons_left
     rw [aFindS_cons] at hr
     split at hr
     ·rename_i hce hae
      split at hr
      ·rename_i hsb
       injection hr with hr; subst hr
       have hke := closedB_eq hce he.1
       have hrun := aEq_ok C R 12 kt k' e.key k' e'.key true hae hk he.1 10000 (by omega)
       refine ⟨some (i, e'.val), ?_, ⟨rfl, he.2.1⟩, ?_⟩
       ·simp only [Instr.findAsking, Sem.run_bind, Op.equal, Op.maxDepth, hrun, Result.andThen_ok, if_true, Sem.run_pure]
       ·intro j v hj
        injection hj with hj; injection hj with hj1 hj2; subst hj1
        exact ⟨e, e', Nat.le_refl _, by simp, by simp, he, by rw [hke]; exact hsb⟩
      ·cases hr
     ·rename_i hce hae
      have hrun := aEq_ok C R 12 kt k' e.key k' e'.key false hae hk he.1 10000 (by omega)
      obtain ⟨r', g1, g2, g3⟩ := ih ht hr
      refine ⟨r', ?_, g2, ?_⟩
      ·simp only [Instr.findAsking, Sem.run_bind, Op.equal, Op.maxDepth, hrun, Result.andThen_ok, Bool.false_eq_true, if_false]
       exact g1
      ·intro j v hj
       obtain ⟨a, a', l1, l2, l3, l4⟩ := g3 j v hj
       have e1 : j - i = (j - (i + 1)) + 1 := by omega
       exact ⟨a, a', by omega, by rw [e1]; simpa using l2, by rw [e1]; simpa using l3, l4⟩
     ·cases hr
   obtain ⟨r', g1, g2, g3⟩ := ask he hr
   refine ⟨r', ?_, g2, ?_⟩
   ·have hnow : Instr.findNow tk.desc k' es' 0 = (match es' with | [] => some none | _ => none) := by
     cases es' with
     | nil => rfl
     | cons e0 l => exact hd0 e0 l
    simp only [Instr.findKey, Sem.run_bind, C.underlying h, Result.andThen_ok, hnow]
    cases es' with
    | nil => exact g1
    | cons e0 l => exact g1
   ·intro j v hj
    obtain ⟨e, e', _, q1, q2, q3, q4⟩ := g3 j v hj
    exact ⟨e, e', by simpa using q1, by simpa using q2, q3, q4⟩
  split at hr
  ·rename_i fs hdesc hck
   exact main hck hr (fun e0 l => by rw [hdesc]; rfl)
  ·rename_i n el hdesc hck
   exact main hck hr (fun e0 l => by rw [hdesc]; rfl)
  ·cases hr
def mapAt (A : Xd) (x : Value) : Option (List MapEntry) :=
 match x with
 | .map none => some []
 | .map (some r) => (match A.heap.get r with | some (.map es _) => some es | _ => none)
 | _ => none
def opLookup (T : Tab) (A : Xd) (t : TypeId) (x k : Value) (ok : Bool) : Option Value :=
 match T.ty.get t with
 | some ti =>
  match ti.desc with
  | .map kt et =>
   match T.ty.get kt, T.ty.get et, mapAt A x with
   | some tk, some te, some es =>
    match keyOk T kt tk.desc k, aFindX T A kt tk.desc k es with
    | true, some r =>
     (match r with
      | some (_, v) => (match ok with | true => some (.tuple ⟨[v, .bool true]⟩) | false => some v)
      | none => (match ok with | true => some (.tuple ⟨[te.zero, .bool false]⟩) | false => some te.zero))
    | _, _ => none
   | _, _, _ => none
  | _ => none
 | none => none
theorem mapAt_ok (R : Xs μ B A w.heap) {x x' : Value} (hx : Xj μ x x') {es : List MapEntry} (h : mapAt A x = some es) :
  ∃ es' : Array MapEntry, XE (XM μ) es es'.toList /\ ((x' = .map none /\ es' = #[]) \/ ∃ r cl, x' = .map (some r) /\ (getObj r).run P w = .ok (.map es' cl) w) := by
 unfold mapAt at h
 split at h
 ·injection h with h; subst h; cases hx
  exact ⟨#[], .nil, .inl ⟨rfl, rfl⟩⟩
 ·rename_i r
  split at h
  ·rename_i es0 cl ho
   injection h with h; subst h
   cases hx with
   | map he =>
   obtain ⟨_, _, es', h1, h2⟩ := R.obj r _ _ ho he
   exact ⟨es', h2, .inr ⟨_, cl, rfl, XG h1 (by intro c t f hc; cases hc)⟩⟩
  ·cases h
 ·cases h
def Ya (et : TypeId) (ok : Bool) : Option (Nat × Value) -> Sem Value
 | some (_, v) => pure (if ok then .tuple #[v, .bool true] else v)
 | none => do
  let v ← zeroValue et
  pure (if ok then .tuple #[v, .bool false] else v)
theorem opLookup_ok (C : Xy P T) (R : Xs μ B A w.heap) {t : TypeId} {x x' k k' : Value} (hx : Xj μ x x') (hk : Xj μ k k') {ok : Bool} {v : Value} (h : opLookup T A t x k ok = some v) :
  ∃ v', (Instr.lookup t x' k' ok).run P w = .ok v' w /\ Xj μ v v' := by
 unfold opLookup at h
 split at h
 case h_2 => cases h
 rename_i ti ht
 split at h
 case h_2 => cases h
 rename_i kt et hd
 split at h
 case h_2 => cases h
 rename_i tk te es htk hte hes
 split at h
 case h_2 => cases h
 rename_i r hkk hf
 obtain ⟨es', hrel, hcase⟩ := mapAt_ok (P := P) R hx hes
 obtain ⟨r', hfk, hfr, _⟩ := aFindX_ok (P := P) (w := w) C R htk hk hrel hf
 have hz := XU (C.closed hte) μ
 have hu := C.underlying ht w
 have hck := fun em => XW C htk hk hkk em w
 have tup : ∀ a a' b, Xj μ a a' -> Xj μ (.tuple ⟨[a, .bool b]⟩) (.tuple #[a', .bool b]) := fun a a' b h1 => Xo.tuple (.cons h1 (.cons (.bool b) .nil))
 have pre : (Instr.lookup t x' k' ok).run P w = (Ya et ok r').run P w := by
  rcases hcase with ⟨rfl, rfl⟩ | ⟨r0, cl, rfl, hg⟩
  ·simp only [Instr.lookup, Sem.run_bind, hu, hd, Result.andThen_ok, Sem.run_pure, hck, hfk]
   cases r' with
   | none => simp [Ya, C.zeroValue hte]
   | some p => rfl
  ·simp only [Instr.lookup, Sem.run_bind, hu, hd, Result.andThen_ok, Sem.run_pure, hg, hck, hfk]
   cases r' with
   | none => simp [Ya, C.zeroValue hte]
   | some p => rfl
 split at h
 ·rename_i i v0
  cases r' with
  | none => exact hfr.elim
  | some p =>
   obtain ⟨j, v0'⟩ := p
   obtain ⟨_, hv0⟩ := hfr
   split at h
   ·injection h with h; subst h
    exact ⟨_, by rw [pre]; rfl, tup _ _ _ hv0⟩
   ·injection h with h; subst h
    exact ⟨_, by rw [pre]; rfl, hv0⟩
 ·cases r' with
  | some p => exact hfr.elim
  | none =>
   split at h
   ·injection h with h; subst h
    exact ⟨_, by rw [pre]; simp [Ya, C.zeroValue hte], tup _ _ _ hz⟩
   ·injection h with h; subst h
    exact ⟨_, by rw [pre]; simp [Ya, C.zeroValue hte], hz⟩
def entSet (es : List MapEntry) (i : Nat) (k v : Value) : Option (List MapEntry) :=
 match nth es i with
 | some e => some (lset { key := k, val := v, born := e.born } es i)
 | none => none
def opMapUpdate (T : Tab) (A : Xd) (t : TypeId) (x k v : Value) : Option Xd :=
 match x, T.ty.get t with
 | .map (some r), some ti =>
  match ti.desc with
  | .map kt _ =>
   match T.ty.get kt, A.heap.get r with
   | some tk, some (.map es cl) =>
    match keyOk T kt tk.desc k, aFindX T A kt tk.desc k es with
    | true, some (some (i, _)) => (match entSet es i k v with | some es' => some (YT A r (.map es' cl)) | none => none)
    | true, some none => some (YT A r (.map (app es [{ key := k, val := v, born := cl }]) (Nat.succ cl)))
    | _, _ => none
   | _, _ => none
  | _ => none
 | _, _ => none
theorem Kq {old new : Value} (h : Instr.sameBits 10000 old new = true) (w : World) : (Instr.keyThatStays old new).run P w = .ok new w := by
 simp only [Instr.keyThatStays, h, if_true, Sem.run_pure]
theorem mapSet_ok (R : Xs μ B A w.heap) {r : Nat} {e : Ent} {es es2 : List MapEntry} {cl cl2 : Nat} (he : μ r = some e) (ho : A.heap.get r = some (.map es cl)) {es2' : Array MapEntry} (h2 : XE (XM μ) es2 es2'.toList) :
  ∃ es' : Array MapEntry, (getObj e.blk).run P w = .ok (.map es' cl) w /\ XE (XM μ) es es'.toList /\ (setObj e.blk (.map es2' cl2)).run P w = .ok () (wr w e.blk (.map es2' cl2)) /\
   Xs μ B (YT A r (.map es2 cl2)) (wr w e.blk (.map es2' cl2)).heap /\ Ye μ A (YT A r (.map es2 cl2)) /\ Below B w (wr w e.blk (.map es2' cl2)) := by
 obtain ⟨hg, hB, es', h1, h3⟩ := R.obj r _ e ho he
 have hlt := (R.dom r e he).2.1
 have hn : ∀ c t f, (Obj.map es' cl) ≠ .cells c t f := by intro c t f hc; cases hc
 obtain ⟨k1, k2, k3⟩ := aset_spec R he hg hB (o := .map es2 cl2) trivial (o' := .map es2' cl2) ⟨hg, hB, es2', YW hlt _, h2⟩
 exact ⟨es', XG h1 hn, h3, run_setObj h1 hn _, k1, k2, k3⟩
theorem modify_rel {es : List MapEntry} {es' : Array MapEntry} (h : XE (XM μ) es es'.toList) {i : Nat} {k k' v v' : Value} (hk : Xj μ k k') (hv : Xj μ v v') {es2 : List MapEntry} (h2 : entSet es i k v = some es2) :
  XE (XM μ) es2 (es'.modify i fun e => { e with key := k', val := v' }).toList := by
 unfold entSet at h2
 split at h2
 ·rename_i e he
  injection h2 with h2; subst h2
  rw [XT] at he
  rw [lset_eq]
  obtain ⟨e', he', hr⟩ := h.get he
  refine ⟨by simp [h.1], fun j a b ha hb => ?_⟩
  rw [List.getElem?_set] at ha
  simp only [Array.getElem?_toList, Array.getElem?_modify] at hb
  by_cases hij : i = j
  ·subst hij
   have hlt := (List.getElem?_eq_some_iff.1 he).1
   simp [hlt] at ha
   have he'' : es'[i]? = some e' := by simpa using he'
   simp [he''] at hb
   subst ha; subst hb
   exact ⟨hk, hv, hr.2.2⟩
  ·simp [hij] at ha hb
   exact h.2 j a b ha (by simpa using hb)
 ·cases h2
theorem opMapUpdate_ok (C : Xy P T) (R : Xs μ B A w.heap) {t : TypeId} {x x' k k' v v' : Value} (hx : Xj μ x x') (hk : Xj μ k k') (hv : Xj μ v v') {A' : Xd} (h : opMapUpdate T A t x k v = some A') :
  ∃ w', (Instr.mapUpdate t x' k' v').run P w = .ok () w' /\ Xs μ B A' w'.heap /\ Below B w w' /\ Ye μ A A' := by
 unfold opMapUpdate at h
 split at h
 case h_2 => cases h
 rename_i r ti ht
 cases hx with
 | @map _ e he =>
 split at h
 case h_2 => cases h
 rename_i kt et hd
 split at h
 case h_2 => cases h
 rename_i tk es cl htk ho
 have hu := C.underlying ht w
 split at h
 ·rename_i i v0 hkk hf
  split at h
  case h_2 => cases h
  rename_i es2 hes2
  injection h with h; subst h
  have hck := fun em => XW C htk hk hkk em w
  obtain ⟨_, _, es', h1, h3⟩ := R.obj r _ e ho he
  obtain ⟨r', hfk, g2, g3⟩ := aFindX_ok (P := P) (w := w) C R htk hk h3 hf
  obtain ⟨e1, e1', q1, q2, q3, q4⟩ := g3 i v0 rfl
  cases r' with
  | none => exact g2.elim
  | some p =>
  obtain ⟨j, u⟩ := p
  obtain ⟨rfl, _⟩ := g2
  obtain ⟨es'', k1, _, k3, k4, k5, k6⟩ := mapSet_ok (P := P) (cl2 := cl) R he ho (modify_rel h3 hk hv hes2)
  have : es'' = es' := by
   have := XG (P := P) (w := w) h1 (by intro c t f hc; cases hc)
   rw [this] at k1; injection k1 with k1; injection k1 with k1; exact k1.symm
  subst this
  refine ⟨_, ?_, k4, k6, k5⟩
  have hkey : (es''[i]?.map (·.key)).getD k' = e1'.key := by
   simp at q2
   simp [q2]
  have hst := Kq (P := P) q4 w
  simp only [Instr.mapUpdate, Sem.run_bind, hu, hd, Result.andThen_ok, k1, hck, hfk, hkey, hst]
  exact k3
 ·rename_i hkk hf
  injection h with h; subst h
  have hck := fun em => XW C htk hk hkk em w
  obtain ⟨_, _, es', h1, h3⟩ := R.obj r _ e ho he
  obtain ⟨r', hfk, g2, _⟩ := aFindX_ok (P := P) (w := w) C R htk hk h3 hf
  cases r' with
  | some p => exact g2.elim
  | none =>
  have hnew : XE (XM μ) (app es [{ key := k, val := v, born := cl }]) (es'.push { key := k', val := v', born := cl }).toList := by
   rw [Yi]; simp only [Array.toList_push]
   exact h3.app (.cons ⟨hk, hv, rfl⟩ .nil)
  obtain ⟨es'', k1, _, k3, k4, k5, k6⟩ := mapSet_ok (P := P) (cl2 := cl + 1) R he ho hnew
  have : es'' = es' := by
   have := XG (P := P) (w := w) h1 (by intro c t f hc; cases hc)
   rw [this] at k1; injection k1 with k1; injection k1 with k1; exact k1.symm
  subst this
  refine ⟨_, ?_, k4, k6, k5⟩
  simp only [Instr.mapUpdate, Sem.run_bind, hu, hd, Result.andThen_ok, k1, hck, hfk]
  exact k3
 ·cases h
end
end
section
section
variable {P : Program} {T : Tab} {μ : Mu} {B : Nat} {A : Xd} {w : World}
theorem modify_rel' {es : List MapEntry} {es' : Array MapEntry} (h : XE (XM μ) es es'.toList) {i : Nat} {e : MapEntry} (he : es[i]? = some e) {e2 : MapEntry} {f : MapEntry -> MapEntry} (hf : ∀ x, XM μ e x -> XM μ e2 (f x)) :
  XE (XM μ) (lset e2 es i) (es'.modify i f).toList := by
 rw [lset_eq]
 obtain ⟨e', he', hr⟩ := h.get he
 refine ⟨by simp [h.1], fun j a b ha hb => ?_⟩
 rw [List.getElem?_set] at ha
 simp only [Array.getElem?_toList, Array.getElem?_modify] at hb
 by_cases hij : i = j
 ·subst hij
  have hlt := (List.getElem?_eq_some_iff.1 he).1
  simp [hlt] at ha
  have he'' : es'[i]? = some e' := by simpa using he'
  simp [he''] at hb
  subst ha; subst hb
  exact hf _ hr
 ·simp [hij] at ha hb
  exact h.2 j a b ha (by simpa using hb)
def opMapEntry (T : Tab) (A : Xd) (t : TypeId) (x k : Value) : Option (Value × Xd) :=
 match x, T.ty.get t with
 | .map (some r), some ti =>
  match ti.desc with
  | .map kt et =>
   match T.ty.get kt, T.ty.get et, A.heap.get r with
   | some tk, some te, some (.map es cl) =>
    match keyOk T kt tk.desc k, aFindX T A kt tk.desc k es with
    | true, some (some (i, v)) =>
     (match nth es i with
      | some e => some (.tuple ⟨[v, .int .i64 (.ofNat e.born)]⟩, YT A r (.map (lset { key := k, val := e.val, born := e.born } es i) cl))
      | none => none)
    | true, some none => some (.tuple ⟨[te.zero, .int .i64 (.ofNat cl)]⟩, YT A r (.map (app es [{ key := k, val := te.zero, born := cl }]) (Nat.succ cl)))
    | _, _ => none
   | _, _, _ => none
  | _ => none
 | _, _ => none
theorem opMapEntry_ok (C : Xy P T) (R : Xs μ B A w.heap) {t : TypeId} {x x' k k' : Value} (hx : Xj μ x x') (hk : Xj μ k k') {r : Value × Xd} (h : opMapEntry T A t x k = some r) :
  Ok P μ B A w (Instr.mapEntry t x' k') r.1 r.2 := by
 unfold opMapEntry at h
 split at h
 case h_2 => cases h
 rename_i rr ti ht
 cases hx with
 | @map _ e he =>
 split at h
 case h_2 => cases h
 rename_i kt et hd
 split at h
 case h_2 => cases h
 rename_i tk te es cl htk hte ho
 have hu := C.underlying ht w
 have hz := XU (C.closed hte) μ
 obtain ⟨_, _, es', h1, h3⟩ := R.obj rr _ e ho he
 have hg1 := XG (P := P) (w := w) h1 (by intro c t f hc; cases hc)
 have tup : ∀ a a' (b : Int), Xj μ a a' -> Xj μ (.tuple ⟨[a, .int .i64 b]⟩) (.tuple #[a', .int .i64 b]) := fun a a' b h1 => Xo.tuple (.cons h1 (.cons (.int .i64 b) .nil))
 split at h
 ·rename_i i v0 hkk hf
  split at h
  case h_2 => cases h
  rename_i e1 hnth
  injection h with h; subst h
  have hck := fun em => XW C htk hk hkk em w
  rw [XT] at hnth
  obtain ⟨r', hfk, g2, g3⟩ := aFindX_ok (P := P) (w := w) C R htk hk h3 hf
  obtain ⟨e0, e0', q1, q2, q3, q4⟩ := g3 i v0 rfl
  cases r' with
  | none => exact g2.elim
  | some p =>
  obtain ⟨j, u⟩ := p
  obtain ⟨rfl, hvu⟩ := g2
  have hrel := modify_rel' h3 hnth (e2 := { key := k, val := e1.val, born := e1.born }) (f := fun e => { e with key := k' }) (fun x hx => ⟨hk, hx.2.1, hx.2.2⟩)
  obtain ⟨es'', k1, _, k3, k4, k5, k6⟩ := mapSet_ok (P := P) (cl2 := cl) R he ho hrel
  simp at q1 q2
  rw [q1] at hnth; injection hnth with hnth; subst hnth
  have hkey : (es'[i]?.map (·.key)).getD k' = e0'.key := by simp [q2]
  have hborn : (es'[i]?.map (fun x => (x.born : Int))).getD 0 = (e0.born : Int) := by simp [q2, q3.2.2]
  have hst := Kq (P := P) q4 w
  refine ⟨.tuple #[u, .int .i64 (.ofNat e0.born)], _, μ, ?_, Mu.Ext.refl _ μ, k4, tup _ _ _ hvu, k6, k5⟩
  simp only [Instr.mapEntry, Sem.run_bind, hu, hd, Result.andThen_ok, hg1, hck, hfk, hkey, hst, k3, hborn]
  rfl
 ·rename_i hkk hf
  injection h with h; subst h
  have hck := fun em => XW C htk hk hkk em w
  obtain ⟨r', hfk, g2, _⟩ := aFindX_ok (P := P) (w := w) C R htk hk h3 hf
  cases r' with
  | some p => exact g2.elim
  | none =>
  have hnew : XE (XM μ) (app es [{ key := k, val := te.zero, born := cl }]) (es'.push { key := k', val := te.zero, born := cl }).toList := by
   rw [Yi]; simp only [Array.toList_push]
   exact h3.app (.cons ⟨hk, hz, rfl⟩ .nil)
  obtain ⟨es'', k1, _, k3, k4, k5, k6⟩ := mapSet_ok (P := P) (cl2 := cl + 1) R he ho hnew
  refine ⟨.tuple #[te.zero, .int .i64 (.ofNat cl)], _, μ, ?_, Mu.Ext.refl _ μ, k4, tup _ _ _ hz, k6, k5⟩
  simp only [Instr.mapEntry, Sem.run_bind, hu, hd, Result.andThen_ok, hg1, hck, hfk, C.zeroValue hte, k3]
  rfl
 ·cases h
def bornIdx (es : List MapEntry) (b : Nat) : Nat -> Option Nat :=
 List.rec (motive := fun _ => Nat -> Option Nat) (fun _ => none)
  (fun e _ ih i => Bool.rec (motive := fun _ => Option Nat) (ih (Nat.succ i)) (some i) (Nat.beq e.born b)) es
theorem bornIdx_ok {b : Nat} : ∀ {es : List MapEntry} {es' : List MapEntry}, XE (XM μ) es es' -> ∀ {i j : Nat}, bornIdx es b i = some j -> i <= j /\ es'.findIdx? (fun e => (e.born : Int) == (b : Int)) = some (j - i) /\ ∃ e, es[j - i]? = some e := by
 intro es
 induction es with
 | nil => intro es' _ i j h; cases h
 | cons e es ih =>
  intro es' h i j hj
  obtain ⟨e', es'', rfl, he, ht⟩ := h.cons_left
  have hj' : (Bool.rec (motive := fun _ => Option Nat) (bornIdx es b (i + 1)) (some i) (Nat.beq e.born b) : Option Nat) = some j := hj
  cases hb : Nat.beq e.born b with
  | true =>
   rw [hb] at hj'
   injection hj' with hj'; subst hj'
   have := Nat.eq_of_beq_eq_true hb
   have hb2 : e'.born = b := by rw [← he.2.2]; exact this
   refine ⟨Nat.le_refl _, ?_, e, by simp⟩
   simp [List.findIdx?_cons, hb2]
  | false =>
   rw [hb] at hj'
   have hne := Nat.ne_of_beq_eq_false hb
   have hb2 : ¬ e'.born = b := by rw [← he.2.2]; exact hne
   obtain ⟨h1, h2, e3, h3⟩ := ih ht hj'
   have e1 : j - i = (j - (i + 1)) + 1 := by omega
   have hb3 : ((e'.born : Int) == (b : Int)) = false := by
    rw [beq_eq_false_iff_ne]; intro hc; exact hb2 (by omega)
   refine ⟨by omega, ?_, e3, by rw [e1]; simpa using h3⟩
   rw [List.findIdx?_cons, hb3, h2, e1]
   rfl
def opEntryStore (A : Xd) (x s v : Value) : Option Xd :=
 match x, s with
 | .map (some r), .int _ (.ofNat b) =>
  match A.heap.get r with
  | some (.map es cl) =>
   match bornIdx es b 0 with
   | some i => (match nth es i with | some e => some (YT A r (.map (lset { key := e.key, val := v, born := e.born } es i) cl)) | none => none)
   | none => none
  | _ => none
 | _, _ => none
theorem opEntryStore_ok (R : Xs μ B A w.heap) {t : TypeId} {x x' s s' v v' : Value} (hx : Xj μ x x') (hs : Xj μ s s') (hv : Xj μ v v') {A' : Xd} (h : opEntryStore A x s v = some A') :
  ∃ w', (Instr.entryStore t x' s' v').run P w = .ok () w' /\ Xs μ B A' w'.heap /\ Below B w w' /\ Ye μ A A' := by
 unfold opEntryStore at h
 split at h
 case h_2 => cases h
 rename_i r kk b
 cases hx with
 | @map _ e he =>
 cases hs
 split at h
 case h_2 => cases h
 rename_i es cl ho
 split at h
 case h_2 => cases h
 rename_i i hi
 split at h
 case h_2 => cases h
 rename_i e1 hnth
 injection h with h; subst h
 rw [XT] at hnth
 obtain ⟨_, _, es', h1, h3⟩ := R.obj r _ e ho he
 have hg1 := XG (P := P) (w := w) h1 (by intro c t f hc; cases hc)
 obtain ⟨_, hidx, _⟩ := bornIdx_ok h3 hi
 have hrel := modify_rel' h3 hnth (e2 := { key := e1.key, val := v, born := e1.born }) (f := fun e => { e with val := v' }) (fun x hx => ⟨hx.1, hv, hx.2.2⟩)
 obtain ⟨es'', k1, _, k3, k4, k5, k6⟩ := mapSet_ok (P := P) (cl2 := cl) R he ho hrel
 refine ⟨_, ?_, k4, k6, k5⟩
 have hidx' : es'.findIdx? (fun e => (e.born : Int) == (b : Int)) = some i := by
  have e0 : ∀ (l : Array MapEntry) (p : MapEntry -> Bool), l.findIdx? p = l.toList.findIdx? p := fun l p => by cases l; simp
  rw [e0]; simpa using hidx
 simp only [Instr.entryStore, Sem.run_bind, Sem.run_pure, hg1, Result.andThen_ok, asInt, asIntOf, Int.ofNat_eq_natCast, hidx']
 exact k3
def mkMap (n : Nat) : Value := .map (some n)
def alMakeMap (T : Tab) (t : TypeId) (hint : Option Value) : Option (Xg × (Nat -> Value)) :=
 match hint with
 | none => some (.map [] 0, mkMap)
 | some (.int _ _) => (match T.ty.get t with | some ti => (match ti.desc with | .map _ _ => some (.map [] 0, mkMap) | _ => none) | none => none)
 | _ => none
theorem newMap_ok (hB : B <= w.heap.size) {s : Sem Value} (hs : s.run P w = .ok (.map (some w.heap.size)) (w.alloc (.map #[] 0))) : YY P μ B w s (.map [] 0) mkMap :=
 ⟨_, _, hs, trivial, fun _ _ => ⟨rfl, hB, #[], XB _ _, .nil⟩, fun _ n hn => .map (b := n) (e := ⟨w.heap.size, 0, none, 0⟩) hn⟩
theorem alMakeMap_ok (C : Xy P T) (hB : B <= w.heap.size) {t : TypeId} {hint hint' : Option Value} (hh : OptRel μ hint hint') {o : Xg} {mk : Nat -> Value} (h : alMakeMap T t hint = some (o, mk)) :
  YY P μ B w (Instr.makeMap t hint') o mk := by
 unfold alMakeMap at h
 split at h
 ·injection h with h; injection h with e1 e2; subst e1; subst e2
  cases hint' with
  | some y => exact hh.elim
  | none => exact newMap_ok hB (by simp [Instr.makeMap])
 ·cases hint' with
  | none => exact hh.elim
  | some y =>
  have hh : Xj μ _ y := hh
  cases hh
  split at h
  case h_2 => cases h
  rename_i ti ht
  split at h
  case h_2 => cases h
  rename_i kt et hd
  injection h with h; injection h with e1 e2; subst e1; subst e2
  refine newMap_ok hB ?_
  have hu := C.underlying ht w
  simp [Instr.makeMap, hu, hd, asInt, asIntOf]
 ·cases h
def opMakeMap (T : Tab) (A : Xd) (t : TypeId) (hint : Option Value) : Option (Value × Xd) := lay A (alMakeMap T t hint)
theorem opMakeMap_ok (C : Xy P T) (R : Xs μ B A w.heap) {t : TypeId} {hint hint' : Option Value} (hh : OptRel μ hint hint') {r : Value × Xd} (h : opMakeMap T A t hint = some r) :
  Ok P μ B A w (Instr.makeMap t hint') r.1 r.2 := lay_ok R h fun _ _ hq => alMakeMap_ok C R.base hh hq
def opRange (T : Tab) (A : Xd) (t : TypeId) (x : Value) : Option (Value × Xd) :=
 match T.ty.get t with
 | some ti =>
  match ti.desc, x with
  | .string, .string s => some (.pointer (some ⟨A.next, 0, none⟩), XX A (.siter s 0))
  | .map _ _, .map none => some (.pointer (some ⟨A.next, 0, none⟩), XX A (.miter none 0 [] 0))
  | .map _ _, .map (some r) =>
   (match A.heap.get r with
    | some (.map _ cl) => some (.pointer (some ⟨A.next, 0, none⟩), XX A (.miter (some r) cl [] cl))
    | _ => none)
  | _, _ => none
 | none => none
theorem newIter_ok (R : Xs μ B A w.heap) {o : Xg} (ho : o.notGrown) {o' : Obj} (h : ∀ μ' : Mu, Mu.Le μ μ' -> ORel μ' B (w.alloc o').heap ⟨w.heap.size, 0, none, 0⟩ o) {s : Sem Value}
  (hs : s.run P w = .ok (.pointer (some ⟨w.heap.size, 0, none⟩)) (w.alloc o')) : Ok P μ B A w s (.pointer (some ⟨A.next, 0, none⟩)) (XX A o) := by
 obtain ⟨a, b, c, d⟩ := KB R ho h
 exact ⟨_, _, _, hs, d, a, .ptr (b := A.next) (off := 0) (e := ⟨w.heap.size, 0, none, 0⟩) (by simp), c, b⟩
theorem opRange_ok (C : Xy P T) (R : Xs μ B A w.heap) {t : TypeId} {x x' : Value} (hx : Xj μ x x') {r : Value × Xd} (h : opRange T A t x = some r) : Ok P μ B A w (Instr.range t x') r.1 r.2 := by
 unfold opRange at h
 split at h
 case h_2 => cases h
 rename_i ti ht
 have hu := C.underlying ht w
 split at h
 ·rename_i s hd
  cases hx
  injection h with h; subst h
  refine newIter_ok R (o := .siter s 0) trivial (o' := .stringIter s 0) (fun μ' hm => ⟨rfl, R.base, XB _ _⟩) ?_
  simp [Instr.range, hu, hd]
 ·rename_i kt et hd
  cases hx
  injection h with h; subst h
  refine newIter_ok R (o := .miter none 0 [] 0) trivial (o' := .mapIter none 0 #[] 0) (fun μ' hm => ⟨rfl, R.base, none, XB _ _, .inl ⟨rfl, rfl⟩⟩) ?_
  simp [Instr.range, hu, hd]
 ·rename_i kt et r0 hd
  split at h
  case h_2 => cases h
  rename_i es cl ho
  cases hx with
  | @map _ e he =>
  injection h with h; subst h
  obtain ⟨_, _, es', h1, h3⟩ := R.obj r0 _ e ho he
  have hg1 := XG (P := P) (w := w) h1 (by intro c t f hc; cases hc)
  refine newIter_ok R (o := .miter (some r0) cl [] cl) trivial (o' := .mapIter (some e.blk) cl #[] cl) (fun μ' hm => ⟨rfl, R.base, some e.blk, XB _ _, .inr ⟨r0, e, rfl, hm _ _ he, rfl⟩⟩) ?_
  simp [Instr.range, hu, hd, hg1]
 ·cases h
end
end
section
theorem Ke {d : TypeDesc} {x y : Value} {b : Bool} (h : Yc d x y = some b) : (b = true ↔ y = x) /\ Xw x = true /\ Xw y = true := by
 unfold Yc at h
 split at h
 ·split at h
  ·rename_i hk
   have hk := of_decide_eq_true hk
   subst hk
   injection h with h; subst h
   refine ⟨?_, rfl, rfl⟩
   rw [iEq_eq, beq_iff_eq]
   constructor
   ·rintro rfl; rfl
   ·intro h; injection h with _ h; exact h.symm
  ·cases h
 ·split at h
  ·injection h with h; subst h
   refine ⟨?_, rfl, rfl⟩
   rw [strEq_eq, beq_iff_eq]
   constructor
   ·rintro rfl; rfl
   ·intro h; injection h with h; injection h with h; injection h with h; exact h.symm
  ·cases h
 ·split at h
  ·injection h with h; subst h
   rename_i p q _
   refine ⟨?_, rfl, rfl⟩
   cases p <;> cases q <;> simp
  ·cases h
 ·cases h
theorem aSameKey_now {d : TypeDesc} {x y : Value} {b : Bool} (h : Yc d x y = some b) : Instr.sameNow d x y = some b /\ (b = true -> Instr.sameBits 10000 y x = true) := by
 obtain ⟨_, hx, hy⟩ := Ke h
 obtain ⟨h1, _, _, _, h5⟩ := aSameKey_ok (μ := fun _ => none) (YK hx _) (YK hy _) h
 exact ⟨h1, h5⟩
def uFind (d : TypeDesc) (k : Value) (ss : List (Value × Option Value)) : Nat -> Option (Option Nat) :=
 List.rec (motive := fun _ => Nat -> Option (Option Nat)) (fun _ => some none)
  (fun s _ ih i => match Yc d k s.1 with
   | some true => (match ih (Nat.succ i) with | some none => some (some i) | _ => none)
   | some false => ih (Nat.succ i)
   | none => none) ss
theorem uFind_cons (d : TypeDesc) (k : Value) (s : Value × Option Value) (ss : List (Value × Option Value)) (i : Nat) : uFind d k (s :: ss) i =
  match Yc d k s.1 with
   | some true => (match uFind d k ss (i + 1) with | some none => some (some i) | _ => none)
   | some false => uFind d k ss (i + 1)
   | none => none := rfl
theorem uFind_ok {d : TypeDesc} {k : Value} : ∀ {ss : List (Value × Option Value)} {i : Nat} {r : Option Nat}, uFind d k ss i = some r ->
  (∀ s ∈ ss, ∃ b, Yc d k s.1 = some b) /\ (r = none -> ∀ s ∈ ss, s.1 ≠ k) /\
   (∀ j, r = some j -> i <= j /\ ∃ o, ss[j - i]? = some (k, o) /\ ∀ j' s, ss[j']? = some s -> s.1 = k -> j' = j - i) := by
 intro ss
 induction ss with
 | nil =>
  intro i r h
  injection h with h; subst h
  exact ⟨fun s hs => by simp at hs, fun _ s hs => by simp at hs, fun j hj => by cases hj⟩
 | cons s ss ih =>
  intro i r h
  rw [uFind_cons] at h
  split at h
  ·rename_i hs
   have hk := (Ke hs).1.1 rfl
   split at h
   ·rename_i hrest
    injection h with h; subst h
    obtain ⟨a, b, _⟩ := ih hrest
    have b := b rfl
    refine ⟨?_, fun h => (by cases h), ?_⟩
    ·intro x hx
     rcases List.mem_cons.1 hx with rfl | hx
     ·exact ⟨_, hs⟩
     ·exact a x hx
    ·intro j hj
     injection hj with hj; subst hj
     refine ⟨Nat.le_refl _, s.2, ?_, ?_⟩
     ·rw [Nat.sub_self]
      show some s = some (k, s.2)
      rw [← hk]
     ·intro j' x hx hxk
      cases j' with
      | zero => omega
      | succ j' =>
       have hx : ss[j']? = some x := by simpa using hx
       exact absurd hxk (b x (List.mem_of_getElem? hx))
   ·cases h
  ·rename_i hs
   have hne : s.1 ≠ k := fun hc => by have := (Ke hs).1.2 hc; cases this
   obtain ⟨a, b, c⟩ := ih h
   refine ⟨?_, ?_, ?_⟩
   ·intro x hx
    rcases List.mem_cons.1 hx with rfl | hx
    ·exact ⟨_, hs⟩
    ·exact a x hx
   ·intro hr x hx
    rcases List.mem_cons.1 hx with rfl | hx
    ·exact hne
    ·exact b hr x hx
   ·intro j hj
    obtain ⟨h1, o, h2, h3⟩ := c j hj
    have e1 : j - i = (j - (i + 1)) + 1 := by omega
    refine ⟨by omega, o, by rw [e1]; simpa using h2, ?_⟩
    intro j' x hx hxk
    cases j' with
    | zero =>
     have hx : s = x := by simpa using hx
     subst hx; exact absurd hxk hne
    | succ j' =>
     have := h3 j' x (by simpa using hx) hxk
     omega
  ·cases h
theorem findNow_ok {d : TypeDesc} {k : Value} : ∀ {es : List MapEntry} (i : Nat), (∀ e ∈ es, ∃ b, Yc d k e.key = some b) ->
  (Instr.findNow d k es i = some none /\ ∀ e ∈ es, e.key ≠ k) \/ ∃ j e, Instr.findNow d k es i = some (some (i + j, e.val)) /\ es[j]? = some e /\ e.key = k /\ Instr.sameBits 10000 e.key k = true := by
 intro es
 induction es with
 | nil => intro i _; exact .inl ⟨rfl, fun e he => by simp at he⟩
 | cons e es ih =>
  intro i h
  obtain ⟨b, hb⟩ := h e (by simp)
  obtain ⟨hn, hbits⟩ := aSameKey_now hb
  have hv := (Ke hb).1
  cases b with
  | true =>
   refine .inr ⟨0, e, by simp [Instr.findNow, hn], by simp, hv.1 rfl, hbits rfl⟩
  | false =>
   have hne : e.key ≠ k := fun hc => by have := hv.2 hc; cases this
   rcases ih (i + 1) (fun x hx => h x (by simp [hx])) with ⟨h1, h2⟩ | ⟨j, x, h1, h2, h3, h4⟩
   ·refine .inl ⟨by simp [Instr.findNow, hn, h1], ?_⟩
    intro x hx
    rcases List.mem_cons.1 hx with rfl | hx
    ·exact hne
    ·exact h2 x hx
   ·refine .inr ⟨j + 1, x, ?_, by simpa using h2, h3, h4⟩
    have : i + 1 + j = i + (j + 1) := by omega
    simp [Instr.findNow, hn, h1, this]
section
variable {P : Program} {T : Tab} {μ : Mu} {B : Nat} {A : Xd} {w : World}
def mapAtU (A : Xd) (x : Value) : Option (List (Value × Option Value)) :=
 match x with
 | .map (some r) => (match A.heap.get r with | some (.mapU ss) => some ss | _ => none)
 | _ => none
theorem mapAtU_ok (R : Xs μ B A w.heap) {x x' : Value} (hx : Xj μ x x') {ss : List (Value × Option Value)} (h : mapAtU A x = some ss) :
  ∃ (r : Nat) (e : Ent) (es' : Array MapEntry) (cl : Nat), x = .map (some r) /\ μ r = some e /\ A.heap.get r = some (.mapU ss) /\ x' = .map (some e.blk) /\ w.heap[e.blk]? = some (.map es' cl) /\ URel μ ss es'.toList := by
 unfold mapAtU at h
 split at h
 ·rename_i r
  split at h
  ·rename_i ss0 ho
   injection h with h; subst h
   cases hx with
   | @map _ e he =>
   obtain ⟨_, _, es', cl, h1, h2⟩ := R.obj r _ _ ho he
   exact ⟨r, e, es', cl, rfl, he, ho, rfl, h1, h2⟩
  ·cases h
 ·cases h
def opLookupU (T : Tab) (t : TypeId) (ss : List (Value × Option Value)) (k : Value) (ok : Bool) : Option Value :=
 match T.ty.get t with
 | some ti =>
  match ti.desc with
  | .map kt et =>
   match T.ty.get kt, T.ty.get et with
   | some tk, some te =>
    match Xw k, keyOk T kt tk.desc k, uFind tk.desc k ss 0 with
    | true, true, some none => (match ok with | true => some (.tuple ⟨[te.zero, .bool false]⟩) | false => some te.zero)
    | true, true, some (some j) =>
     (match nth ss j with
      | some (_, some v) => (match ok with | true => some (.tuple ⟨[v, .bool true]⟩) | false => some v)
      | some (_, none) => (match ok with | true => some (.tuple ⟨[te.zero, .bool false]⟩) | false => some te.zero)
      | none => none)
    | _, _, _ => none
   | _, _ => none
  | _ => none
 | none => none
theorem uAt {d : TypeDesc} {k : Value} {ss : List (Value × Option Value)} {es : List MapEntry} (U : URel μ ss es) {r : Option Nat} (h : uFind d k ss 0 = some r) :
  (∀ e ∈ es, ∃ b, Yc d k e.key = some b) /\ (r = none -> ∀ e ∈ es, e.key ≠ k) /\
   (∀ j, r = some j -> ∃ o, ss[j]? = some (k, o) /\ (∀ j' s, ss[j']? = some s -> s.1 = k -> j' = j) /\ (o = none -> ∀ e ∈ es, e.key ≠ k) /\ (∀ v, o = some v -> (∃ e ∈ es, e.key = k) /\ ∀ e ∈ es, e.key = k -> Xj μ v e.val)) := by
 obtain ⟨h1, h2, h3⟩ := uFind_ok h
 refine ⟨?_, ?_, ?_⟩
 ·intro e he
  obtain ⟨v, hv, _⟩ := U.1 e he
  exact h1 _ hv
 ·intro hr e he hk
  obtain ⟨v, hv, _⟩ := U.1 e he
  exact h2 hr _ hv hk
 ·intro j hj
  obtain ⟨_, o, ho, hu⟩ := h3 j hj
  rw [Nat.sub_zero] at ho hu
  have one : ∀ e ∈ es, e.key = k -> ∃ v, o = some v /\ Xj μ v e.val := by
   intro e he hk
   obtain ⟨v, hv, hr⟩ := U.1 e he
   obtain ⟨j', hj'⟩ := List.mem_iff_getElem?.1 hv
   have := hu j' _ hj' hk
   subst this
   rw [ho] at hj'
   injection hj' with hj'
   injection hj' with _ hj'
   exact ⟨v, hj', hr⟩
  refine ⟨o, ho, hu, ?_, ?_⟩
  ·rintro rfl e he hk
   obtain ⟨v, hv, _⟩ := one e he hk
   cases hv
  ·rintro v rfl
   refine ⟨U.2.1 k v (List.mem_of_getElem? ho), fun e he hk => ?_⟩
   obtain ⟨u, hu', hr⟩ := one e he hk
   injection hu' with hu'; subst hu'; exact hr
theorem opLookupU_ok (C : Xy P T) (R : Xs μ B A w.heap) {t : TypeId} {x x' k k' : Value} (hx : Xj μ x x') (hk : Xj μ k k') {ok : Bool} {ss : List (Value × Option Value)} (hs : mapAtU A x = some ss) {v : Value} (h : opLookupU T t ss k ok = some v) :
  ∃ v', (Instr.lookup t x' k' ok).run P w = .ok v' w /\ Xj μ v v' := by
 obtain ⟨r, e, es', cl, rfl, he, ho, rfl, hh, U⟩ := mapAtU_ok R hx hs
 unfold opLookupU at h
 split at h
 case h_2 => cases h
 rename_i ti ht
 split at h
 case h_2 => cases h
 rename_i kt et hd
 split at h
 case h_2 => cases h
 rename_i tk te htk hte
 have hz := XU (C.closed hte) μ
 have hu := C.underlying ht w
 have hg := XG (P := P) hh (by intro c t f hc; cases hc)
 have tup : ∀ a a' b, Xj μ a a' -> Xj μ (.tuple ⟨[a, .bool b]⟩) (.tuple #[a', .bool b]) := fun a a' b h1 => Xo.tuple (.cons h1 (.cons (.bool b) .nil))
 have pre : keyOk T kt tk.desc k = true -> ∀ {r' : Option (Nat × Value)}, Instr.findNow tk.desc k' es'.toList 0 = some r' -> (Instr.lookup t (.map (some e.blk)) k' ok).run P w = (Ya et ok r').run P w := by
  intro hkk r' hfk
  have hck := fun em => XW C htk hk hkk em w
  have hfk : (Instr.findKey kt k' es'.toList).run P w = .ok r' w := by
   simp only [Instr.findKey, Sem.run_bind, C.underlying htk, Result.andThen_ok, hfk]; rfl
  simp only [Instr.lookup, Sem.run_bind, hu, hd, Result.andThen_ok, Sem.run_pure, hg, hck, hfk]
  cases r' with
  | none => simp [Ya, C.zeroValue hte]
  | some p => rfl
 have absent : (∀ x ∈ es'.toList, ∃ b, Yc tk.desc k x.key = some b) -> (∀ x ∈ es'.toList, x.key ≠ k) -> Instr.findNow tk.desc k es'.toList 0 = some none := by
  intro h1 h2
  rcases findNow_ok 0 h1 with ⟨h3, _⟩ | ⟨j, x, _, h4, h5, _⟩
  ·exact h3
  ·exact absurd h5 (h2 x (List.mem_of_getElem? h4))
 split at h
 ·rename_i hc hkk hf
  have := X7 hc hk
  subst this
  obtain ⟨a1, a2, _⟩ := uAt U hf
  have hp := pre hkk (absent a1 (a2 rfl))
  split at h
  ·injection h with h; subst h
   exact ⟨_, by rw [hp]; simp [Ya, C.zeroValue hte], tup _ _ _ hz⟩
  ·injection h with h; subst h
   exact ⟨_, by rw [hp]; simp [Ya, C.zeroValue hte], hz⟩
 ·rename_i j hc hkk hf
  have := X7 hc hk
  subst this
  obtain ⟨a1, _, a3⟩ := uAt U hf
  obtain ⟨o, b1, _, b3, b4⟩ := a3 j rfl
  rw [XT, b1] at h
  cases o with
  | none =>
   have hp := pre hkk (absent a1 (b3 rfl))
   simp only at h
   split at h
   ·injection h with h; subst h
    exact ⟨_, by rw [hp]; simp [Ya, C.zeroValue hte], tup _ _ _ hz⟩
   ·injection h with h; subst h
    exact ⟨_, by rw [hp]; simp [Ya, C.zeroValue hte], hz⟩
  | some u =>
   obtain ⟨⟨x, hx1, hx2⟩, c2⟩ := b4 u rfl
   rcases findNow_ok 0 a1 with ⟨_, h3⟩ | ⟨i, y, h3, h4, h5, _⟩
   ·exact absurd hx2 (h3 x hx1)
   ·have hp := pre hkk h3
    have hv := c2 y (List.mem_of_getElem? h4) h5
    simp only at h
    split at h
    ·injection h with h; subst h
     exact ⟨_, by rw [hp]; rfl, tup _ _ _ hv⟩
    ·injection h with h; subst h
     exact ⟨_, by rw [hp]; rfl, hv⟩
 ·cases h
def opUpdU (T : Tab) (t : TypeId) (ss : List (Value × Option Value)) (k v : Value) : Option (List (Value × Option Value)) :=
 match T.ty.get t with
 | some ti =>
  match ti.desc with
  | .map kt _ =>
   match T.ty.get kt with
   | some tk =>
    match Xw k, keyOk T kt tk.desc k, uFind tk.desc k ss 0 with
    | true, true, some none => some (app ss [(k, some v)])
    | true, true, some (some j) => some (lset (k, some v) ss j)
    | _, _, _ => none
   | none => none
  | _ => none
 | none => none
theorem URel.push {ss ss' : List (Value × Option Value)} {es : List MapEntry} (U : URel μ ss es) {k v v' : Value} (hv : Xj μ v v') (hno : ∀ e ∈ es, e.key ≠ k) (b : Nat) (h1 : ∀ x, x ∈ ss' ↔ x = (k, some v) \/ (x ∈ ss /\ x.1 ≠ k)) :
  URel μ ss' (es ++ [{ key := k, val := v', born := b }]) := by
 refine ⟨?_, ?_, ?_⟩
 ·intro e he
  rcases List.mem_append.1 he with he | he
  ·obtain ⟨u, h2, h3⟩ := U.1 e he
   exact ⟨u, (h1 _).2 (.inr ⟨h2, hno e he⟩), h3⟩
  ·rw [List.mem_singleton] at he; subst he
   exact ⟨v, (h1 _).2 (.inl rfl), hv⟩
 ·intro k2 u hu
  rcases (h1 _).1 hu with h | ⟨h, _⟩
  ·injection h with h _; subst h
   exact ⟨_, List.mem_append_right _ (List.mem_singleton.2 rfl), rfl⟩
  ·obtain ⟨e, he, hk⟩ := U.2.1 k2 u h
   exact ⟨e, List.mem_append_left _ he, hk⟩
 ·rw [List.pairwise_append]
  refine ⟨U.2.2, by simp, ?_⟩
  intro a ha c hc
  rw [List.mem_singleton] at hc; subst hc
  exact hno a ha
theorem URel.modify {ss ss' : List (Value × Option Value)} {es es2 : List MapEntry} (U : URel μ ss es) {k v v' : Value} (hv : Xj μ v v') {i : Nat} {e0 : MapEntry} (hi : es[i]? = some e0) (hk : e0.key = k)
  (h1 : ∀ x, x ∈ ss' ↔ x = (k, some v) \/ (x ∈ ss /\ x.1 ≠ k)) (h2 : es2 = es.set i { key := k, val := v', born := e0.born }) : URel μ ss' es2 := by
 subst h2
 have hlt := (List.getElem?_eq_some_iff.1 hi).1
 have hkeys : (es.set i { key := k, val := v', born := e0.born }).map (·.key) = es.map (·.key) := by
  rw [List.map_set]
  apply List.ext_getElem?
  intro j
  rw [List.getElem?_set]
  split
  ·rename_i hij; subst hij
   split
   ·rw [List.getElem?_map, hi]; simp [hk]
   ·rename_i hc; simp at hc; omega
  ·rfl
 have hpw : ∀ l : List MapEntry, l.Pairwise (fun a b => a.key ≠ b.key) ↔ (l.map (·.key)).Pairwise (· ≠ ·) := fun l => by rw [List.pairwise_map]
 have others : ∀ e ∈ es.set i { key := k, val := v', born := e0.born }, e = { key := k, val := v', born := e0.born } \/ (e ∈ es /\ e.key ≠ k) := by
  intro e he
  obtain ⟨j, hj⟩ := List.mem_iff_getElem?.1 he
  rw [List.getElem?_set] at hj
  split at hj
  ·injection hj with hj; exact .inl hj.symm
  ·rename_i hij
   refine .inr ⟨List.mem_of_getElem? hj, fun hc => ?_⟩
   have hp := List.pairwise_iff_getElem.1 U.2.2
   obtain ⟨hj', rfl⟩ := List.getElem?_eq_some_iff.1 hj
   obtain ⟨hi', rfl⟩ := List.getElem?_eq_some_iff.1 hi
   rcases Nat.lt_or_gt_of_ne hij with hlt | hlt
   ·exact hp i j hi' hj' hlt (by rw [hk, hc])
   ·exact hp j i hj' hi' hlt (by rw [hk, hc])
 refine ⟨?_, ?_, ?_⟩
 ·intro e he
  rcases others e he with rfl | ⟨he, hne⟩
  ·exact ⟨v, (h1 _).2 (.inl rfl), hv⟩
  ·obtain ⟨u, h2, h3⟩ := U.1 e he
   exact ⟨u, (h1 _).2 (.inr ⟨h2, hne⟩), h3⟩
 ·intro k2 u hu
  have hin : k2 ∈ es.map (·.key) := by
   rcases (h1 _).1 hu with h | ⟨h, _⟩
   ·injection h with h _; subst h
    rw [List.mem_map]; exact ⟨e0, List.mem_of_getElem? hi, hk⟩
   ·obtain ⟨e, he, hk⟩ := U.2.1 k2 u h
    rw [List.mem_map]; exact ⟨e, he, hk⟩
  rw [← hkeys, List.mem_map] at hin
  exact hin
 ·rw [hpw, hkeys, ← hpw]; exact U.2.2
theorem mem_lset {ss : List (Value × Option Value)} {k v : Value} {j : Nat} {o : Option Value} (hj : ss[j]? = some (k, o)) (hu : ∀ j' s, ss[j']? = some s -> s.1 = k -> j' = j) (x : Value × Option Value) :
  x ∈ lset (k, some v) ss j ↔ x = (k, some v) \/ (x ∈ ss /\ x.1 ≠ k) := by
 have hlt := (List.getElem?_eq_some_iff.1 hj).1
 rw [lset_eq]
 constructor
 ·intro h
  obtain ⟨i, hi⟩ := List.mem_iff_getElem?.1 h
  rw [List.getElem?_set] at hi
  split at hi
  ·injection hi with hi; exact .inl hi.symm
  ·rename_i hij
   exact .inr ⟨List.mem_of_getElem? hi, fun hc => hij (hu i x hi hc).symm⟩
 ·rintro (rfl | ⟨h, hne⟩)
  ·exact List.mem_iff_getElem?.2 ⟨j, by rw [List.getElem?_set]; simp [hlt]⟩
  ·obtain ⟨i, hi⟩ := List.mem_iff_getElem?.1 h
   refine List.mem_iff_getElem?.2 ⟨i, ?_⟩
   rw [List.getElem?_set]
   split
   ·rename_i hij; subst hij
    rw [hj] at hi; injection hi with hi; subst hi; exact absurd rfl hne
   ·exact hi
theorem mapSetU_ok (R : Xs μ B A w.heap) {r : Nat} {e : Ent} {ss ss2 : List (Value × Option Value)} {cl2 : Nat} (he : μ r = some e) (ho : A.heap.get r = some (.mapU ss)) {es2' : Array MapEntry} (h2 : URel μ ss2 es2'.toList) :
  (setObj e.blk (.map es2' cl2)).run P w = .ok () (wr w e.blk (.map es2' cl2)) /\
   Xs μ B (YT A r (.mapU ss2)) (wr w e.blk (.map es2' cl2)).heap /\ Ye μ A (YT A r (.mapU ss2)) /\ Below B w (wr w e.blk (.map es2' cl2)) := by
 obtain ⟨hg, hB, es', cl, h1, h3⟩ := R.obj r _ e ho he
 have hlt := (R.dom r e he).2.1
 have hn : ∀ c t f, (Obj.map es' cl) ≠ .cells c t f := by intro c t f hc; cases hc
 obtain ⟨k1, k2, k3⟩ := aset_spec R he hg hB (o := .mapU ss2) trivial (o' := .map es2' cl2) ⟨hg, hB, es2', cl2, YW hlt _, h2⟩
 exact ⟨run_setObj h1 hn _, k1, k2, k3⟩
theorem opUpdU_ok (C : Xy P T) (R : Xs μ B A w.heap) {t : TypeId} {r : Nat} {e : Ent} {k k' v v' : Value} (he : μ r = some e) (hk : Xj μ k k') (hv : Xj μ v v') {ss ss2 : List (Value × Option Value)} (ho : A.heap.get r = some (.mapU ss))
  (h : opUpdU T t ss k v = some ss2) : ∃ w', (Instr.mapUpdate t (.map (some e.blk)) k' v').run P w = .ok () w' /\ Xs μ B (YT A r (.mapU ss2)) w'.heap /\ Below B w w' /\ Ye μ A (YT A r (.mapU ss2)) := by
 obtain ⟨hg, hB, es', cl, hh, U⟩ := R.obj r _ e ho he
 unfold opUpdU at h
 split at h
 case h_2 => cases h
 rename_i ti ht
 split at h
 case h_2 => cases h
 rename_i kt et hd
 split at h
 case h_2 => cases h
 rename_i tk htk
 have hu := C.underlying ht w
 have hget := XG (P := P) hh (by intro c t f hc; cases hc)
 have fk : ∀ {r' : Option (Nat × Value)}, Instr.findNow tk.desc k' es'.toList 0 = some r' -> (Instr.findKey kt k' es'.toList).run P w = .ok r' w := by
  intro r' hfk
  simp only [Instr.findKey, Sem.run_bind, C.underlying htk, Result.andThen_ok, hfk]; rfl
 have absent : keyOk T kt tk.desc k = true -> k' = k -> (∀ x ∈ es'.toList, ∃ b, Yc tk.desc k x.key = some b) -> (∀ x ∈ es'.toList, x.key ≠ k) -> (∀ x, x ∈ ss2 ↔ x = (k, some v) \/ (x ∈ ss /\ x.1 ≠ k)) ->
   ∃ w', (Instr.mapUpdate t (.map (some e.blk)) k' v').run P w = .ok () w' /\ Xs μ B (YT A r (.mapU ss2)) w'.heap /\ Below B w w' /\ Ye μ A (YT A r (.mapU ss2)) := by
  intro hkk hk' h1 h2 h3
  have hck := fun em => XW C htk hk hkk em w
  subst hk'
  have hfn : Instr.findNow tk.desc k' es'.toList 0 = some none := by
   rcases findNow_ok 0 h1 with ⟨h3, _⟩ | ⟨j, x, _, h4, h5, _⟩
   ·exact h3
   ·exact absurd h5 (h2 x (List.mem_of_getElem? h4))
  have hU : URel μ ss2 (es'.push { key := k', val := v', born := cl }).toList := by
   rw [Array.toList_push]
   exact U.push hv h2 cl h3
  obtain ⟨q1, q2, q3, q4⟩ := mapSetU_ok (P := P) (cl2 := cl + 1) R he ho hU
  refine ⟨_, ?_, q2, q4, q3⟩
  simp only [Instr.mapUpdate, Sem.run_bind, hu, hd, Result.andThen_ok, hget, hck, fk hfn]
  exact q1
 split at h
 ·rename_i hc hkk hf
  injection h with h; subst h
  have hk' := X7 hc hk
  obtain ⟨a1, a2, _⟩ := uAt U hf
  refine absent hkk hk' a1 (a2 rfl) fun x => ?_
  rw [Yi, List.mem_append, List.mem_singleton]
  have hno := (uFind_ok hf).2.1 rfl
  constructor
  ·rintro (h | h)
   ·exact .inr ⟨h, hno x h⟩
   ·exact .inl h
  ·rintro (h | ⟨h, _⟩)
   ·exact .inr h
   ·exact .inl h
 ·rename_i j hc hkk hf
  injection h with h; subst h
  have hk' := X7 hc hk
  obtain ⟨a1, _, a3⟩ := uAt U hf
  obtain ⟨o, b1, b2, b3, b4⟩ := a3 j rfl
  have hm := mem_lset (v := v) b1 b2
  rcases findNow_ok 0 a1 with ⟨_, h3⟩ | ⟨i, y, h3, h4, h5, h6⟩
  ·exact absent hkk hk' a1 h3 hm
  ·subst hk'
   have hck := fun em => XW C htk hk hkk em w
   have hy : es'[i]? = some y := by simpa using h4
   have hU : URel μ (lset (k', some v) ss j) (es'.modify i fun e => { e with key := k', val := v' }).toList := by
    refine U.modify hv h4 h5 hm ?_
    apply List.ext_getElem?
    intro q
    rw [Array.getElem?_toList, Array.getElem?_modify, List.getElem?_set]
    by_cases hq : i = q
    ·subst hq
     have hlt := (List.getElem?_eq_some_iff.1 h4).1
     rw [if_pos rfl, if_pos rfl, if_pos hlt, hy]; rfl
    ·rw [if_neg hq, if_neg hq, Array.getElem?_toList]
   obtain ⟨q1, q2, q3, q4⟩ := mapSetU_ok (P := P) (cl2 := cl) R he ho hU
   refine ⟨_, ?_, q2, q4, q3⟩
   rw [Nat.zero_add] at h3
   have hkey : (es'[i]?.map (·.key)).getD k' = y.key := by rw [hy]; rfl
   have hst := Kq (P := P) h6 w
   simp only [Instr.mapUpdate, Sem.run_bind, hu, hd, Result.andThen_ok, hget, hck, fk h3, hkey, hst]
   exact q1
 ·cases h
def opLookupX (T : Tab) (A : Xd) (t : TypeId) (x k : Value) (ok : Bool) : Option Value :=
 match mapAtU A x with
 | some ss => opLookupU T t ss k ok
 | none => opLookup T A t x k ok
theorem opLookupX_ok (C : Xy P T) (R : Xs μ B A w.heap) {t : TypeId} {x x' k k' : Value} (hx : Xj μ x x') (hk : Xj μ k k') {ok : Bool} {v : Value} (h : opLookupX T A t x k ok = some v) :
  ∃ v', (Instr.lookup t x' k' ok).run P w = .ok v' w /\ Xj μ v v' := by
 unfold opLookupX at h
 split at h
 ·rename_i ss hs; exact opLookupU_ok C R hx hk hs h
 ·exact opLookup_ok C R hx hk h
def Y7 (T : Tab) (A : Xd) (t : TypeId) (x k v : Value) : Option Xd :=
 match mapAtU A x with
 | some ss => (match x with | .map (some r) => (match opUpdU T t ss k v with | some ss2 => some (YT A r (.mapU ss2)) | none => none) | _ => none)
 | none => opMapUpdate T A t x k v
theorem opMapUpdateX_ok (C : Xy P T) (R : Xs μ B A w.heap) {t : TypeId} {x x' k k' v v' : Value} (hx : Xj μ x x') (hk : Xj μ k k') (hv : Xj μ v v') {A' : Xd} (h : Y7 T A t x k v = some A') :
  ∃ w', (Instr.mapUpdate t x' k' v').run P w = .ok () w' /\ Xs μ B A' w'.heap /\ Below B w w' /\ Ye μ A A' := by
 unfold Y7 at h
 split at h
 ·rename_i ss hs
  obtain ⟨r, e, es', cl, rfl, he, ho, rfl, _, _⟩ := mapAtU_ok R hx hs
  simp only at h
  split at h
  ·rename_i ss2 h2
   injection h with h; subst h
   exact opUpdU_ok C R he hk hv ho h2
  ·cases h
 ·exact opMapUpdate_ok C R hx hk hv h
end
end
section
section
variable {P : Program} {T : Tab} {μ : Mu} {B : Nat} {A : Xd} {w : World}
def opLen (T : Tab) (A : Xd) (ats : List TypeId) (x : Value) : Option Value :=
 match ats with
 | [t] =>
  match T.ty.get t with
  | some ti =>
   match ti.desc, x with
   | .slice _, .slice _ n _ => some (.int .i64 (.ofNat n))
   | .string, .string ⟨⟨l⟩⟩ => some (.int .i64 (.ofNat (len l)))
   | .array n _, _ => some (.int .i64 (.ofNat n))
   | .map _ _, x => (match mapAt A x with | some es => some (.int .i64 (.ofNat (len es))) | none => none)
   | _, _ => none
  | none => none
 | _ => none
theorem opLen_ok (C : Xy P T) (R : Xs μ B A w.heap) {ats : List TypeId} {x x' : Value} (hx : Xj μ x x') {v : Value} (h : opLen T A ats x = some v) (rt : TypeId) :
  ∃ v', (Builtin.len_ ats.toArray rt #[x']).run P w = .ok v' w /\ Xj μ v v' := by
 unfold opLen at h
 split at h
 case h_2 => cases h
 rename_i t
 split at h
 case h_2 => cases h
 rename_i ti ht
 have hu := C.underlying ht w
 split at h
 ·rename_i el a n c hd
  injection h with h; subst h
  have : ∃ a' c', x' = .slice a' n c' := by cases hx <;> exact ⟨_, _, rfl⟩
  obtain ⟨a', c', rfl⟩ := this
  exact ⟨.int .i64 (.ofNat n), by simp [Builtin.len_, hu, hd, goInt], .int _ _⟩
 ·rename_i l hd
  cases hx
  injection h with h; subst h
  refine ⟨.int .i64 (.ofNat l.length), ?_, by rw [len_eq]; exact .int _ _⟩
  simp [Builtin.len_, hu, hd, goInt]
  rfl
 ·rename_i n el hd
  injection h with h; subst h
  exact ⟨.int .i64 (.ofNat n), by simp [Builtin.len_, hu, hd, goInt], .int _ _⟩
 ·rename_i kt et hd
  split at h
  case h_2 => cases h
  rename_i es hes
  injection h with h; subst h
  obtain ⟨es', hrel, hcase⟩ := mapAt_ok (P := P) R hx hes
  have hl : es'.size = es.length := by have := hrel.1; simp at this; exact this.symm
  refine ⟨.int .i64 (.ofNat es.length), ?_, by rw [len_eq]; exact .int _ _⟩
  rcases hcase with ⟨rfl, rfl⟩ | ⟨r0, cl, rfl, hg⟩
  ·have : es.length = 0 := by simpa using hl.symm
   simp [Builtin.len_, hu, hd, goInt, this]
  ·simp [Builtin.len_, hu, hd, goInt, hg, hl]
 ·cases h
def opCap (T : Tab) (A : Xd) (ats : List TypeId) (x : Value) : Option Value :=
 match ats with
 | [t] =>
  match T.ty.get t with
  | some ti =>
   match ti.desc, x with
   | .slice _, .slice none _ c => some (.int .i64 (.ofNat c))
   | .slice _, .slice (some ⟨b, _, none⟩) _ c => (match A.heap.get b with | some (.cells _ (.fixed _)) => some (.int .i64 (.ofNat c)) | _ => none)
   | .array n _, _ => some (.int .i64 (.ofNat n))
   | _, _ => none
  | none => none
 | _ => none
theorem opCap_ok (C : Xy P T) (R : Xs μ B A w.heap) {ats : List TypeId} {x x' : Value} (hx : Xj μ x x') {v : Value} (h : opCap T A ats x = some v) (rt : TypeId) :
  ∃ v', (Builtin.cap_ ats.toArray rt #[x']).run P w = .ok v' w /\ Xj μ v v' := by
 unfold opCap at h
 split at h
 case h_2 => cases h
 rename_i t
 split at h
 case h_2 => cases h
 rename_i ti ht
 have hu := C.underlying ht w
 split at h
 ·rename_i el n c hd
  injection h with h; subst h
  cases hx
  exact ⟨.int .i64 (.ofNat 0), by simp [Builtin.cap_, hu, hd, goInt], .int _ _⟩
 ·rename_i el b off n c hd
  split at h
  case h_2 => cases h
  rename_i xs ro ho
  injection h with h; subst h
  have hx' : ∃ a', x' = .slice a' n c := by
   cases hx with
   | slice he hg => exact ⟨_, rfl⟩
   | @gslice _ _ _ _ _ e g he hg hl hc hb =>
    have := (R.obj b _ e ho he).1
    rw [this] at hg; cases hg
   | zslice he => exact ⟨_, rfl⟩
  obtain ⟨a', rfl⟩ := hx'
  exact ⟨.int .i64 (.ofNat c), by simp [Builtin.cap_, hu, hd, goInt], .int _ _⟩
 ·rename_i n el hd
  injection h with h; subst h
  exact ⟨.int .i64 (.ofNat n), by simp [Builtin.cap_, hu, hd, goInt], .int _ _⟩
 ·cases h
def opMinMax (mx : Bool) : List Value -> Option Value
 | .int k a :: .int k' b :: [] => (match decide (k = k'), mx with
  | true, true => some (.int k (match iLt a b with | true => b | false => a))
  | true, false => some (.int k (match iLt b a with | true => b | false => a))
  | _, _ => none)
 | .int k a :: .int k' b :: .int k'' c :: [] => (match decide (k = k'), decide (k = k''), mx with
  | true, true, true => (match (match iLt a b with | true => b | false => a) with | m => some (.int k (match iLt m c with | true => c | false => m)))
  | true, true, false => (match (match iLt b a with | true => b | false => a) with | m => some (.int k (match iLt c m with | true => c | false => m)))
  | _, _, _ => none)
 | [.int k a] => some (.int k a)
 | _ => none
theorem opMax_ok {xs xs' : List Value} (hx : Xo μ xs xs') {v : Value} (h : opMinMax true xs = some v) (ats : Array TypeId) (rt : TypeId) (w : World) : ∃ v', (Builtin.max_ ats rt xs'.toArray).run P w = .ok v' w /\ Xj μ v v' := by
 unfold opMinMax at h
 split at h
 ·rename_i k a k' b
  obtain ⟨y1, l1, rfl, h1, ht⟩ := hx.cons_left
  obtain ⟨y2, l2, rfl, h2, ht⟩ := ht.cons_left
  rw [ht.nil_left]
  cases h1; cases h2
  split at h
  ·rename_i hk _
   have hk := of_decide_eq_true hk; subst hk
   injection h with h; subst h
   refine ⟨_, ?_, .int _ _⟩
   simp only [Builtin.max_, List.foldlM_cons, List.foldlM_nil, Builtin.max2, Sem.run_bind, Sem.run_pure, Result.andThen_ok]
   congr 2
   rw [iLt_eq]
   by_cases hb : b > a
   ·simp [hb]
   ·simp [hb]
  ·rename_i hc; cases hc
  ·cases h
 ·rename_i k a k' b k'' c
  obtain ⟨y1, l1, rfl, h1, ht⟩ := hx.cons_left
  obtain ⟨y2, l2, rfl, h2, ht⟩ := ht.cons_left
  obtain ⟨y3, l3, rfl, h3, ht⟩ := ht.cons_left
  rw [ht.nil_left]
  cases h1; cases h2; cases h3
  split at h
  ·rename_i hk hk2 _
   have hk := of_decide_eq_true hk; subst hk
   have hk2 := of_decide_eq_true hk2; subst hk2
   injection h with h; subst h
   refine ⟨_, ?_, .int _ _⟩
   simp only [Builtin.max_, List.foldlM_cons, List.foldlM_nil, Builtin.max2, Sem.run_bind, Sem.run_pure, Result.andThen_ok]
   have e : (match iLt a b with | true => b | false => a) = (if b > a then b else a) := by rw [iLt_eq]; by_cases hb : a < b <;> simp [hb]
   rw [e]
   congr 2
   rw [iLt_eq]
   by_cases hb : c > (if b > a then b else a) <;> simp [hb]
  ·rename_i hc; cases hc
  ·cases h
 ·rename_i k a
  obtain ⟨y1, l1, rfl, h1, ht⟩ := hx.cons_left
  rw [ht.nil_left]
  cases h1
  injection h with h; subst h
  exact ⟨_, by simp [Builtin.max_], .int _ _⟩
 ·cases h
theorem opMin_ok {xs xs' : List Value} (hx : Xo μ xs xs') {v : Value} (h : opMinMax false xs = some v) (ats : Array TypeId) (rt : TypeId) (w : World) : ∃ v', (Builtin.min_ ats rt xs'.toArray).run P w = .ok v' w /\ Xj μ v v' := by
 unfold opMinMax at h
 split at h
 ·rename_i k a k' b
  obtain ⟨y1, l1, rfl, h1, ht⟩ := hx.cons_left
  obtain ⟨y2, l2, rfl, h2, ht⟩ := ht.cons_left
  rw [ht.nil_left]
  cases h1; cases h2
  split at h
  ·rename_i hc; cases hc
  ·rename_i hk _
   have hk := of_decide_eq_true hk; subst hk
   injection h with h; subst h
   refine ⟨_, ?_, .int _ _⟩
   simp only [Builtin.min_, List.foldlM_cons, List.foldlM_nil, Builtin.min2, Sem.run_bind, Sem.run_pure, Result.andThen_ok]
   congr 2
   rw [iLt_eq]
   by_cases hb : b < a <;> simp [hb]
  ·cases h
 ·rename_i k a k' b k'' c
  obtain ⟨y1, l1, rfl, h1, ht⟩ := hx.cons_left
  obtain ⟨y2, l2, rfl, h2, ht⟩ := ht.cons_left
  obtain ⟨y3, l3, rfl, h3, ht⟩ := ht.cons_left
  rw [ht.nil_left]
  cases h1; cases h2; cases h3
  split at h
  ·rename_i hc; cases hc
  ·rename_i hk hk2 _
   have hk := of_decide_eq_true hk; subst hk
   have hk2 := of_decide_eq_true hk2; subst hk2
   injection h with h; subst h
   refine ⟨_, ?_, .int _ _⟩
   simp only [Builtin.min_, List.foldlM_cons, List.foldlM_nil, Builtin.min2, Sem.run_bind, Sem.run_pure, Result.andThen_ok]
   have e : (match iLt b a with | true => b | false => a) = (if b < a then b else a) := by rw [iLt_eq]; by_cases hb : b < a <;> simp [hb]
   rw [e]
   congr 2
   rw [iLt_eq]
   by_cases hb : c < (if b < a then b else a) <;> simp [hb]
  ·cases h
 ·rename_i k a
  obtain ⟨y1, l1, rfl, h1, ht⟩ := hx.cons_left
  rw [ht.nil_left]
  cases h1
  injection h with h; subst h
  exact ⟨_, by simp [Builtin.min_], .int _ _⟩
 ·cases h
def asBytes (vs : List Value) : Option (List UInt8) :=
 List.rec (motive := fun _ => Option (List UInt8)) (some [])
  (fun v _ r => match v, r with | .int .u8 n, some l => some (UInt8.ofNat n.toNat :: l) | _, _ => none) vs
theorem asBytes_cons (v : Value) (vs : List Value) : asBytes (v :: vs) = match v, asBytes vs with | .int .u8 n, some l => some (UInt8.ofNat n.toNat :: l) | _, _ => none := rfl
theorem run_pushBytes : ∀ {vs vs' : List Value}, Xo μ vs vs' -> ∀ {l : List UInt8}, asBytes vs = some l -> ∀ (acc : ByteArray) (w : World),
  (forIn vs' acc fun c s => (match c with
   | .int .u8 n => pure (ForInStep.yield (s.push (UInt8.ofNat n.toNat)))
   | _ => do
    (stuck "bytesToString: byte expected" : Sem PUnit)
    pure (ForInStep.yield s) : Sem (ForInStep ByteArray))).run P w = .ok ⟨⟨acc.data.toList ++ l⟩⟩ w := by
 intro vs
 induction vs with
 | nil =>
  intro vs' h l hl acc w
  rw [h.nil_left]
  injection hl with hl; subst hl
  simp
 | cons v vs ih =>
  intro vs' h l hl acc w
  obtain ⟨v', vs'', rfl, hv, ht⟩ := h.cons_left
  rw [asBytes_cons] at hl
  split at hl
  ·rename_i n l' hl'
   injection hl with hl; subst hl
   cases hv
   simp only [List.forIn_cons, Sem.run_bind, Sem.run_pure, Result.andThen_ok]
   rw [ih ht hl']
   congr 1
   simp [ByteArray.push]
  ·cases hl
def opConvert (T : Tab) (A : Xd) (s d : TypeId) (x : Value) : Option (Value × Xd) :=
 match T.ty.get s, T.ty.get d with
 | some ts, some td =>
  match td.desc, x with
  | .int k, .int _ n => some (.int k (YU k n), A)
  | .string, .int _ n => some (.string (Utf8.encode n), A)
  | .string, .string b => some (.string b, A)
  | .slice el, .string ⟨⟨l⟩⟩ =>
   (match T.ty.get el with
    | some te => (match te.desc, te.size, Nat.ble (len l) 1000000000 with
     | .int .u8, 1, true => (match afresh A 1 el (bytesV l) with | some A' => some (.slice (some ⟨A.next, 0, none⟩) (len l) (len l), A') | none => none)
     | _, _, _ => none)
    | none => none)
  | .string, .slice a n c =>
   (match ts.desc with
    | .slice el =>
     (match T.ty.get el with
      | some te => (match te.desc with
       | .int .u8 =>
        (match a, n with
         | none, 0 => (match c with | 0 => some (.string ⟨⟨[]⟩⟩, A) | _ => none)
         | some ⟨b, off, none⟩, n => (match n with
          | 0 => some (.string ⟨⟨[]⟩⟩, A)
          | _ + 1 => (match YG A b off n with | some vs => (match asBytes vs with | some l => some (.string ⟨⟨l⟩⟩, A) | none => none) | none => none))
         | _, _ => none)
       | _ => none)
      | none => none)
    | _ => none)
  | .unsafePointer, .pointer (some ⟨b, off, none⟩) =>
   (match ts.desc with
    | .pointer t => (match T.ty.get t, YG A b off 1 with | some tt, some [_] => (match tt.size with | 0 => none | _ + 1 => some (.pointer (some ⟨b, off, none⟩), A)) | _, _ => none)
    | _ => none)
  | _, _ => none
 | _, _ => none
theorem convert_unsafe {src dst t : TypeId} {w : World} (hs : (underlying src).run P w = .ok (.pointer t) w) (hd : (underlying dst).run P w = .ok .unsafePointer w) {n0 : Nat} (hz : (sizeOf t).run P w = .ok n0 w) (hn : n0 ≠ 0)
  {b off n : Nat} {e : TypeId} (hsh : w.shape? b = some (e, n)) (hlt : off < n) : (convert src dst (.pointer (some ⟨b, off, none⟩))).run P w = .ok (.pointer (some ⟨b, off, none⟩)) w := by
 have hge : ¬ (n <= off) := by omega
 simp [convert, Conv.unsafePointer, Conv.seenAt, viewAt, cellsIn, hs, hd, hz, hn, hsh, hge]
theorem opConvert_ok (C : Xy P T) (R : Xs μ B A w.heap) {s d : TypeId} {x x' : Value} (hx : Xj μ x x') {r : Value × Xd} (h : opConvert T A s d x = some r) : Ok P μ B A w (convert s d x') r.1 r.2 := by
 unfold opConvert at h
 split at h
 case h_2 => cases h
 rename_i ts td hs hd
 have us := fun w => C.underlying hs w
 have ud := fun w => C.underlying hd w
 split at h
 ·rename_i k k' n hdesc
  cases hx
  injection h with h; subst h
  refine .pure R (v' := .int k (k.wrap n)) ?_ (by rw [wrapF_eq]; exact .int _ _)
  simp only [convert, Sem.run_bind, us, ud, Result.andThen_ok, hdesc, Conv.intToInt]
  rfl
 ·rename_i k n hdesc
  cases hx
  injection h with h; subst h
  refine .pure R (v' := .string (Utf8.encode n)) ?_ (.string _)
  simp only [convert, Sem.run_bind, us, ud, Result.andThen_ok, hdesc, Conv.intToString]
  rfl
 ·rename_i b hdesc
  cases hx
  injection h with h; subst h
  refine .pure R (v' := .string b) ?_ (.string _)
  simp only [convert, Sem.run_bind, us, ud, Result.andThen_ok, hdesc]
  rfl
 ·rename_i el l hdesc
  cases hx
  split at h
  case h_2 => cases h
  rename_i te hte
  split at h
  case h_2 => cases h
  rename_i hted hsz hbnd
  have hbnd := XZ hbnd
  rw [len_eq] at hbnd
  split at h
  case h_2 => cases h
  rename_i A' hA
  injection h with h; subst h
  have ue := fun w => C.underlying hte w
  obtain ⟨c, hc1, hc2⟩ := appendCap_run (P := P) l.length 0 el w
  have hsz2 : (⟨⟨l⟩⟩ : ByteArray).size = l.length := rfl
  let arr : Array Value := (⟨l⟩ : Array UInt8).map (fun b => Value.int .u8 b.toNat) ++ Array.replicate (c - l.length) (.int .u8 0)
  have harr : arr.toList = (l.map fun b => Value.int .u8 b.toNat) ++ List.replicate (c - l.length) (.int .u8 0) := by simp [arr]
  have hsa : arr.size = c := by
   have := congrArg List.length harr; simp at this; omega
  have hrel : Xo μ (bytesV l) (l.map fun b => Value.int .u8 b.toNat) := by
   rw [bytesV_eq]
   refine ⟨rfl, fun i x y hx hy => ?_⟩
   rw [hx] at hy; injection hy with hy; subst hy
   rw [List.getElem?_map] at hx
   cases hb : l[i]? with
   | none => rw [hb] at hx; cases hx
   | some q => rw [hb] at hx; injection hx with hx; subst hx; exact .int _ _
  obtain ⟨R', K, Bw, hm⟩ := KA (w := w.drew) R hA (arr := arr) (fr := (arr.size, arr.size + 1)) (.inr rfl) (ys := l.map fun b => Value.int .u8 b.toNat) (rest := List.replicate (c - l.length) (.int .u8 0)) harr hrel
  refine ⟨.slice (some ⟨w.heap.size, 0, none⟩) l.length c, _, _, ?_, hm, R', ?_, Yw R.base _, K⟩
  ·have hq : ∀ w1 : World, (Conv.stringToBytes el ⟨⟨l⟩⟩).run P w1 = ((choose (.appendCap l.length 0 el)).run P w1).andThen (fun cap w2 =>
     Sem.run P (do
      let a ← newRow el ((⟨l⟩ : Array UInt8).map (fun b => Value.int .u8 b.toNat) ++ Array.replicate (cap - l.length) (.int .u8 0))
      markStringish a
      pure (.slice (some a) l.length cap)) w2) := by
    intro w1
    simp only [Conv.stringToBytes, Sem.run_bind, hsz2]
   simp only [convert, Sem.run_bind, us, ud, Result.andThen_ok, hdesc, ue, hted]
   rw [hq, hc1]
   simp only [Result.andThen_ok, newRow, Sem.run_bind, run_newObj, Sem.run_pure, markStringish, run_shape]
   have hsh : World.shape? (w.drew.alloc (.cells arr el)) w.heap.size = some (el, arr.size) := shape?_of_heap (XB w.drew (.cells arr el))
   show ((Sem.run P (match (World.shape? (w.drew.alloc (.cells arr el)) w.heap.size) with | some (_, n) => freeze { block := w.heap.size, off := n } 1 | _ => pure ()) (w.drew.alloc (.cells arr el))).andThen fun _ w' => Result.ok (Value.slice (some ⟨w.heap.size, 0, none⟩) l.length c) w') = _
   rw [hsh]
   simp only [run_freeze, Result.andThen_ok]
   congr 1
   have hfz : World.freeze (w.drew.alloc (.cells arr el)) { block := w.heap.size, off := arr.size } 1 = w.drew.alloc (.cells arr el (arr.size, arr.size + 1)) := by
    simp only [World.freeze]
    rw [if_neg (by omega)]
    simp only [World.alloc]
    congr 1
    apply Array.ext_getElem?
    intro i
    rw [Array.getElem?_modify]
    by_cases hi : w.heap.size = i
    ·subst hi
     have e1 : (w.drew.heap.push (Obj.cells arr el))[w.heap.size]? = some (Obj.cells arr el) := XB w.drew _
     have e2 : (w.drew.heap.push (Obj.cells arr el (arr.size, arr.size + 1)))[w.heap.size]? = some (Obj.cells arr el (arr.size, arr.size + 1)) := XB w.drew _
     rw [e1, e2]
     simp
    ·have : ¬ i = w.drew.heap.size := fun e => hi e.symm
     rw [if_neg hi, Array.getElem?_push, Array.getElem?_push, if_neg this, if_neg this]
   exact hfz
  ·rw [len_eq]
   exact Kr (μ := μ) (b := A.next) (blk := w.heap.size) (dl := 0) (g := ⟨1, A.next, 0, el⟩) hc2 (by simp only; omega)
 ·rename_i a n c hdesc
  split at h
  case h_2 => cases h
  rename_i el hsd
  split at h
  case h_2 => cases h
  rename_i te hte
  split at h
  case h_2 => cases h
  rename_i hted
  have ue := fun w => C.underlying hte w
  have hconv : ∀ a' c', (convert s d (.slice a' n c')).run P w = (Conv.bytesToString (.slice a' n c')).run P w := by
   intro a' c'
   simp only [convert, Sem.run_bind, us, ud, Result.andThen_ok, hdesc, hsd, ue, hted]
  split at h
  ·split at h
   case h_2 => cases h
   injection h with h; subst h
   cases hx
   refine .pure R (v' := .string ⟨⟨[]⟩⟩) ?_ (.string _)
   rw [hconv]; rfl
  ·rename_i _ b off
   split at h
   ·injection h with h; subst h
    have : ∃ a' c', x' = .slice (some a') 0 c' := by cases hx <;> exact ⟨_, _, rfl⟩
    obtain ⟨a', c', rfl⟩ := this
    refine .pure R (v' := .string ⟨⟨[]⟩⟩) ?_ (.string _)
    rw [hconv]
    simp [Conv.bytesToString, loadCells, loadCellsFrom]
    rfl
   ·rename_i n1
    split at h
    case h_2 => cases h
    rename_i vs hvs
    split at h
    case h_2 => cases h
    rename_i l hl
    injection h with h; subst h
    have key : ∀ (e : Ent) (c' : Nat), μ b = some e -> x' = .slice (some ⟨e.blk, e.dl + off, none⟩) (n1 + 1) c' -> Ok P μ B A w (convert s d x') (.string ⟨⟨l⟩⟩) A := by
     intro e c' he hx'
     subst hx'
     obtain ⟨zs, z1, z2, _⟩ := Yz P R he hvs
     refine .pure R (v' := .string ⟨⟨l⟩⟩) ?_ (.string _)
     rw [hconv]
     have z1' : (loadCells ⟨e.blk, e.dl + off, none⟩ (n1 + 1)).run P w = .ok zs w := z1
     simp only [Conv.bytesToString, Sem.run_bind, z1', Result.andThen_ok]
     rw [← Array.forIn_toList]
     have := run_pushBytes (P := P) z2 hl ByteArray.empty w
     rw [show ByteArray.empty.data.toList ++ l = l from rfl] at this
     exact (congrArg (fun r => Result.andThen r (fun a w' => Sem.run P (Pure.pure (Value.string a)) w')) this).trans rfl
    cases hx with
    | slice he hg => exact key _ _ he rfl
    | gslice he hg h1 h2 h3 => exact key _ _ he rfl
  ·cases h
 ·rename_i b off hdesc
  split at h
  case h_2 => cases h
  rename_i t hsd
  split at h
  case h_2 => cases h
  rename_i tt vs ht hld
  split at h
  ·cases h
  rename_i sz hsz
  injection h with h; subst h
  cases hx with
  | @ptr _ _ e he =>
  have hpt : ∃ arr ty fr, w.heap[e.blk]? = some (.cells arr ty fr) /\ e.dl + off < arr.size := by
   unfold YG at hld
   split at hld
   ·rename_i xs k ho
    obtain ⟨arr, ty, fr, ha, hle, hx⟩ := cells_of R ho he
    obtain ⟨h1, hn⟩ := X9 hld
    rw [Yu] at h1 hn
    have h2 : off < xs.length := by
     rw [List.length_drop] at hn; omega
    obtain ⟨z, hz, _⟩ := hx off xs[off] (List.getElem?_eq_getElem h2)
    exact ⟨arr, ty, fr, ha, (Array.getElem?_eq_some_iff.1 hz).1⟩
   ·cases hld
  obtain ⟨arr, ty, fr, ha, hlt⟩ := hpt
  refine .pure R (v' := .pointer (some ⟨e.blk, e.dl + off, none⟩)) ?_ (.ptr he)
  have us' := us w
  have ud' := ud w
  rw [hsd] at us'
  rw [hdesc] at ud'
  exact convert_unsafe us' ud' (C.sizeOf ht w) (by omega) (shape?_of_heap ha) hlt
 ·cases h
end
end
section
section
variable {P : Program} {T : Tab} {μ : Mu} {B : Nat} {A : Xd} {w : World}
def opNextStr (A : Xd) (it : Value) : Option (Value × Xd) :=
  match it with
  | .pointer (some ⟨r, 0, none⟩) =>
    match A.heap.get r with
    | some (.siter ⟨⟨l⟩⟩ pos) =>
      match nth l pos with
      | some b =>
        (match Nat.blt b.toNat 128 with
          | true => some (.tuple ⟨[.bool true, .int .i64 (.ofNat pos), .int .i32 (.ofNat b.toNat)]⟩, YT A r (.siter ⟨⟨l⟩⟩ (Nat.succ pos)))
          | false => (match Utf8.decode ⟨⟨l⟩⟩ pos with | (c, wd) => some (.tuple ⟨[.bool true, .int .i64 (.ofNat pos), .int .i32 (.ofNat c)]⟩, YT A r (.siter ⟨⟨l⟩⟩ (Nat.add pos wd)))))
      | none => some (.tuple ⟨[.bool false]⟩, A)
    | _ => none
  | _ => none
theorem decode_ascii {l : List UInt8} {i : Nat} {b : UInt8} (hb : l[i]? = some b) (h : b.toNat < 128) : Utf8.decode ⟨⟨l⟩⟩ i = (b.toNat, 1) := by
  have hlt := (List.getElem?_eq_some_iff.1 hb).1
  have hg : (⟨⟨l⟩⟩ : ByteArray).get! (i + 0) = b := by
    have h1 : (⟨⟨l⟩⟩ : ByteArray).get! (i + 0) = (⟨l⟩ : Array UInt8)[i + 0]! := rfl
    rw [h1]
    simp [hlt, (List.getElem?_eq_some_iff.1 hb).2]
  unfold Utf8.decode
  simp only [hg]
  rw [if_pos h]
theorem opNextStr_ok (R : Xs μ B A w.heap) {it it' : Value} (hi : Xj μ it it') {r : Value × Xd} (h : opNextStr A it = some r) (rt : TypeId) : Ok P μ B A w (Instr.next it' true rt) r.1 r.2 := by
  unfold opNextStr at h
  split at h
  case h_2 => cases h
  rename_i rr
  cases hi with
  | @ptr _ _ e he =>
  split at h
  case h_2 => cases h
  rename_i l pos ho
  obtain ⟨hg, hB, h1⟩ := R.obj rr _ e ho he
  have hd := (R.dom rr e he).2.2.1 hg
  have hlt := (R.dom rr e he).2.1
  have hn : ∀ c t f, (Obj.stringIter ⟨⟨l⟩⟩ pos) ≠ .cells c t f := by intro c t f hc; cases hc
  have hg1 := XG (P := P) (w := w) h1 hn
  have hs1 := fun o => run_setObj (P := P) (w := w) h1 hn o
  have hadr : (⟨e.blk, e.dl + 0, none⟩ : Addr) = ⟨e.blk, 0, none⟩ := by rw [hd]
  have hsz : (⟨⟨l⟩⟩ : ByteArray).size = l.length := rfl
  have step : ∀ (c wd : Nat), pos < l.length -> Utf8.decode ⟨⟨l⟩⟩ pos = (c, wd) ->
      Ok P μ B A w (Instr.next (.pointer (some ⟨e.blk, e.dl + 0, none⟩)) true rt) (.tuple ⟨[.bool true, .int .i64 (.ofNat pos), .int .i32 (.ofNat c)]⟩) (YT A rr (.siter ⟨⟨l⟩⟩ (pos + wd))) := by
    intro c wd hlt2 hdec
    obtain ⟨k1, k2, k3⟩ := aset_spec R he hg hB (o := .siter ⟨⟨l⟩⟩ (pos + wd)) trivial (o' := .stringIter ⟨⟨l⟩⟩ (pos + wd)) ⟨hg, hB, YW hlt _⟩
    refine ⟨.tuple #[.bool true, .int .i64 (.ofNat pos), .int .i32 (.ofNat c)], _, μ, ?_, Mu.Ext.refl _ μ, k1, Xo.tuple (.cons (.bool _) (.cons (.int _ _) (.cons (.int _ _) .nil))), k3, k2⟩
    rw [hadr]
    simp only [Instr.next, Sem.run_bind, hg1, Result.andThen_ok, hsz, hlt2, if_true, hdec, hs1]
    rfl
  split at h
  · rename_i b hb
    rw [XT] at hb
    have hlt2 := (List.getElem?_eq_some_iff.1 hb).1
    split at h
    · rename_i h128
      injection h with h; subst h
      exact step _ 1 hlt2 (decode_ascii hb (blt_lt h128))
    · split at h
      rename_i c wd hdec
      injection h with h; subst h
      exact step c wd hlt2 hdec
  · rename_i hb
    rw [XT] at hb
    injection h with h; subst h
    have hge : ¬ pos < l.length := by
      intro hc; rw [List.getElem?_eq_getElem hc] at hb; cases hb
    refine .pure R (v' := .tuple #[.bool false]) ?_ (Xo.tuple (.cons (.bool _) .nil))
    rw [hadr]
    simp only [Instr.next, Sem.run_bind, hg1, Result.andThen_ok, hsz, hge, if_false]
    rfl
def Yh (es : List MapEntry) (since : Nat) (seen : List Nat) : List (Option MapEntry) :=
  let left := es.filter fun e => !seen.contains e.born
  let old := left.filter fun e => decide (e.born < since)
  let new := left.filter fun e => decide (e.born ≥ since)
  (match old with | [] => [none] | _ => []) ++ (old ++ new).map some
theorem XE.filter {R : MapEntry -> MapEntry -> Prop} {p : MapEntry -> Bool} (hp : ∀ x y, R x y -> p x = p y) {xs ys : List MapEntry} (h : XE R xs ys) : XE R (xs.filter p) (ys.filter p) := by
  induction xs generalizing ys with
  | nil => rw [h.nil_left]; exact .nil
  | cons x xs ih =>
    obtain ⟨y, ys', rfl, a, b⟩ := h.cons_left
    have := hp x y a
    cases hx : p x with
    | true => rw [List.filter_cons_of_pos hx, List.filter_cons_of_pos (by rw [← this]; exact hx)]; exact .cons a (ih b)
    | false => rw [List.filter_cons_of_neg (by simp [hx]), List.filter_cons_of_neg (by rw [← this]; simp [hx])]; exact ih b
def OptE (μ : Mu) : Option MapEntry -> Option MapEntry -> Prop
  | none, none => True
  | some a, some b => XM μ a b
  | _, _ => False
theorem candsA_rel {es es' : List MapEntry} (h : XE (XM μ) es es') (since : Nat) (seen : List Nat) : XE (OptE μ) (Yh es since seen) (Yh es' since seen) := by
  have h1 := h.filter (p := fun e => !seen.contains e.born) (by intro x y hxy; simp only [hxy.2.2])
  have h2 := h1.filter (p := fun e => decide (e.born < since)) (by intro x y hxy; simp only [hxy.2.2])
  have h3 := h1.filter (p := fun e => decide (e.born ≥ since)) (by intro x y hxy; simp only [hxy.2.2])
  have hm : ∀ {a b : List MapEntry}, XE (XM μ) a b -> XE (OptE μ) (a.map some) (b.map some) := by
    intro a b hab
    refine ⟨by simp [hab.1], fun i x y hx hy => ?_⟩
    rw [List.getElem?_map] at hx hy
    cases ha : a[i]? with
    | none => rw [ha] at hx; cases hx
    | some u =>
      cases hb : b[i]? with
      | none => rw [hb] at hy; cases hy
      | some v =>
        rw [ha] at hx; rw [hb] at hy
        injection hx with hx; injection hy with hy
        subst hx; subst hy
        exact hab.2 i u v ha hb
  unfold Yh
  refine XE.app ?_ (hm (h2.app h3))
  have hl := h2.1
  generalize List.filter (fun e => decide (e.born < since)) (List.filter (fun e => !seen.contains e.born) es) = p at hl
  generalize List.filter (fun e => decide (e.born < since)) (List.filter (fun e => !seen.contains e.born) es') = q at hl
  cases p <;> cases q <;> first | exact .cons trivial .nil | exact .nil | simp at hl
def nextOf (A : Xd) (r m since : Nat) (seen : List Nat) (cl : Nat) (o : Option MapEntry) : Value × Xd :=
  match o with
  | some e => (.tuple ⟨[.bool true, e.key, e.val]⟩, YT A r (.miter (some m) since (e.born :: seen) cl))
  | none => (.tuple ⟨[.bool false]⟩, A)
def opNextMap (A : Xd) (it : Value) : Option (List (Value × Xd)) :=
  match it with
  | .pointer (some ⟨r, 0, none⟩) =>
    match A.heap.get r with
    | some (.miter none _ _ _) => some [(.tuple ⟨[.bool false]⟩, A)]
    | some (.miter (some m) since seen last) =>
      match A.heap.get m with
      | some (.map es cl) =>
        (match !seen.isEmpty && !es.isEmpty && es.all (fun e => decide (e.born ≥ last)) with
          | true => none
          | false => some ((Yh es since seen).map (nextOf A r m since seen cl)))
      | _ => none
    | _ => none
  | _ => none
theorem opNextMap_ok (R : Xs μ B A w.heap) {it it' : Value} (hi : Xj μ it it') {rs : List (Value × Xd)} (h : opNextMap A it = some rs) (rt : TypeId) :
    ∃ r ∈ rs, Ok P μ B A w (Instr.next it' false rt) r.1 r.2 := by
  unfold opNextMap at h
  split at h
  case h_2 => cases h
  rename_i rr
  cases hi with
  | @ptr _ _ e he =>
  split at h
  · rename_i since seen last ho
    injection h with h; subst h
    refine ⟨_, List.mem_singleton.2 rfl, ?_⟩
    obtain ⟨hg, hB, m', h1, h2⟩ := R.obj rr _ e ho he
    have hd := (R.dom rr e he).2.2.1 hg
    rcases h2 with ⟨_, rfl⟩ | ⟨_, _, hc, _⟩
    · refine .pure R (v' := .tuple #[.bool false]) ?_ (Xo.tuple (.cons (.bool _) .nil))
      have hg1 := XG (P := P) (w := w) h1 (by intro c t f hc; cases hc)
      rw [hd]
      simp only [Instr.next, Nat.add_zero, Sem.run_bind, hg1, Result.andThen_ok]
      rfl
    · cases hc
  · rename_i m since seen last ho
    split at h
    case h_2 => cases h
    rename_i es cl hm
    split at h
    · cases h
    rename_i hcond
    injection h with h; subst h
    obtain ⟨hg, hB, m', h1, h2⟩ := R.obj rr _ e ho he
    have hd := (R.dom rr e he).2.2.1 hg
    have hlt := (R.dom rr e he).2.1
    rcases h2 with ⟨hc, _⟩ | ⟨m0, em, hm0, hem, rfl⟩
    · cases hc
    injection hm0 with hm0; subst hm0
    obtain ⟨_, _, es', h3, h4⟩ := R.obj m _ em hm hem
    have hn : ∀ c t f, (Obj.mapIter (some em.blk) since seen.reverse.toArray last) ≠ .cells c t f := by intro c t f hc; cases hc
    have hg1 := XG (P := P) (w := w) h1 hn
    have hs1 := fun o => run_setObj (P := P) (w := w) h1 hn o
    have hg2 := XG (P := P) (w := w) h3 (by intro c t f hc; cases hc)
    have hcr := candsA_rel h4 since seen
    have hall : es'.all (fun e => decide (e.born ≥ last)) = es.all (fun e => decide (e.born ≥ last)) := by
      rw [← Array.all_toList, List.all_eq, List.all_eq]
      have : ∀ (a b : List MapEntry), XE (XM μ) a b -> ((∀ x ∈ b, decide (x.born ≥ last) = true) ↔ (∀ x ∈ a, decide (x.born ≥ last) = true)) := by
        intro a
        induction a with
        | nil => intro b hb; rw [hb.nil_left]; 
        | cons x a ih =>
          intro b hb
          obtain ⟨y, b', rfl, p, q⟩ := hb.cons_left
          simp only [List.forall_mem_cons, ih b' q, p.2.2]
      simp only [this _ _ h4]
    have hsz : es'.toList.length = es.length := h4.1.symm
    have hemp : es'.isEmpty = es.isEmpty := by
      cases es with
      | nil => have : es' = #[] := by simpa using hsz
               simp [this]
      | cons a l =>
        have : es'.size ≠ 0 := by simp at hsz; omega
        simp [Array.isEmpty, this]
    have hcands : ((if ((es'.filter fun e => !seen.reverse.toArray.contains e.born).filter fun e => decide (e.born < since)).isEmpty = true then #[none] else #[]) ++
        Array.map some (((es'.filter fun e => !seen.reverse.toArray.contains e.born).filter fun e => decide (e.born < since)) ++ ((es'.filter fun e => !seen.reverse.toArray.contains e.born).filter fun e => decide (e.born ≥ since))) : Array (Option MapEntry)) = (Yh es'.toList since seen).toArray := by
      apply Array.ext'
      have e2 : ∀ p : MapEntry -> Bool, ((es'.filter fun e => !seen.reverse.toArray.contains e.born).filter p).toList = (es'.toList.filter (fun e => !seen.contains e.born)).filter p := by intro p; simp
      have e3 : ((es'.filter fun e => !seen.reverse.toArray.contains e.born).filter fun e => decide (e.born < since)).isEmpty = ((es'.toList.filter (fun e => !seen.contains e.born)).filter fun e => decide (e.born < since)).isEmpty := by rw [← e2, Array.isEmpty_toList]
      simp only [Yh, Array.toList_append, Array.toList_map, e2, e3]
      congr 1
      cases ((es'.toList.filter (fun e => !seen.contains e.born)).filter fun e => decide (e.born < since)) <;> rfl
    have hne : 0 < (Yh es'.toList since seen).length := by
      simp only [Yh]
      cases ((es'.toList.filter (fun e => !seen.contains e.born)).filter fun e => decide (e.born < since)) <;> simp
    have hch : ∃ i w1, (choose (.mapNext (Yh es'.toList since seen).length)).run P w = .ok i w1 /\ i < (Yh es'.toList since seen).length /\ w1.heap = w.heap /\ Below B w w1 := by
      rw [run_choose]
      split
      · exact ⟨0, w, rfl, hne, rfl, Below.refl _ _⟩
      · exact ⟨_, w.drew, rfl, Nat.mod_lt _ hne, rfl, (Below.refl _ _).drew⟩
    obtain ⟨i, w1, hc1, hi1, hw1, hB1⟩ := hch
    have hil : i < (Yh es since seen).length := by rw [hcr.1]; exact hi1
    refine ⟨nextOf A rr m since seen cl (Yh es since seen)[i], List.mem_map.2 ⟨_, List.getElem_mem hil, rfl⟩, ?_⟩
    have hoe := hcr.2 i _ _ (List.getElem?_eq_getElem hil) (List.getElem?_eq_getElem hi1)
    have hget : (Yh es'.toList since seen).toArray[i]? = some (Yh es'.toList since seen)[i] := by simp [hi1]
    have hcond' : (!seen.reverse.toArray.isEmpty && !es'.isEmpty && es'.all (fun e => decide (e.born ≥ last))) = false := by
      rw [hemp, hall]; simpa using hcond
    have hadr : (⟨e.blk, e.dl + 0, none⟩ : Addr) = ⟨e.blk, 0, none⟩ := by rw [hd]
    have hrun : (Instr.next (.pointer (some ⟨e.blk, e.dl + 0, none⟩)) false rt).run P w = (match (Yh es'.toList since seen)[i] with
        | some e1 => (setObj e.blk (.mapIter (some em.blk) since (seen.reverse.toArray.push e1.born) cl) >>= fun _ => pure (.tuple #[.bool true, e1.key, e1.val]))
        | none => pure (.tuple #[.bool false]) : Sem Value).run P w1 := by
      rw [hadr]
      simp only [Instr.next, Sem.run_bind, hg1, Result.andThen_ok, hg2]
      rw [if_neg (by rw [hcond']; simp)]
      simp only [Sem.run_bind]
      rw [hcands]
      simp only [List.size_toArray, hc1, Result.andThen_ok, hget]
      cases (Yh es'.toList since seen)[i] <;> rfl
    have R1 : Xs μ B A w1.heap := by rw [hw1]; exact R
    have h1' : w1.heap[e.blk]? = some (.mapIter (some em.blk) since seen.reverse.toArray last) := by rw [hw1]; exact h1
    generalize (Yh es'.toList since seen)[i] = o' at hoe hrun
    generalize (Yh es since seen)[i] = o at hoe
    cases o with
    | none =>
      cases o' with
      | some y => exact hoe.elim
      | none => exact ⟨_, w1, μ, hrun, Mu.Ext.refl _ μ, R1, Xo.tuple (.cons (.bool _) .nil), hB1, Ye.refl _ _⟩
    | some e0 =>
      cases o' with
      | none => exact hoe.elim
      | some e0' =>
        have hoe : XM μ e0 e0' := hoe
        obtain ⟨k1, k2, k3⟩ := aset_spec R1 he hg hB (o := .miter (some m) since (e0.born :: seen) cl) trivial (o' := .mapIter (some em.blk) since (seen.reverse.toArray.push e0'.born) cl)
          ⟨hg, hB, some em.blk, by rw [hoe.2.2]; rw [YW (by rw [hw1]; exact hlt)]; simp, .inr ⟨m, em, rfl, hem, rfl⟩⟩
        refine ⟨_, _, μ, ?_, Mu.Ext.refl _ μ, k1, Xo.tuple (.cons (.bool _) (.cons hoe.1 (.cons hoe.2.1 .nil))), hB1.trans k3, k2⟩
        rw [hrun]
        simp only [Sem.run_bind, run_setObj h1' hn, Result.andThen_ok]
        rfl
  · cases h
def opEntry (A : Xd) (it : Value) : Option Value :=
  match it with
  | .pointer (some ⟨r, 0, none⟩) =>
    match A.heap.get r with
    | some (.miter (some m) _ seen stepped) =>
      match A.heap.get m, seen with
      | some (.map es cl), b :: _ =>
        (match Nat.beq cl stepped, es.find? (fun e => e.born == b) with
          | true, some e => some (.tuple ⟨[e.key, e.val]⟩)
          | _, _ => none)
      | _, _ => none
    | _ => none
  | _ => none
theorem find_born {b : Nat} : ∀ {es es' : List MapEntry}, XE (XM μ) es es' -> ∀ {e : MapEntry}, es.find? (fun e => e.born == b) = some e -> ∃ e', es'.find? (fun e => e.born == b) = some e' /\ XM μ e e' := by
  intro es
  induction es with
  | nil => intro es' _ e h; cases h
  | cons x es ih =>
    intro es' h e he
    obtain ⟨y, es'', rfl, p, q⟩ := h.cons_left
    rw [List.find?_cons] at he ⊢
    rw [← p.2.2]
    cases hx : x.born == b with
    | true => rw [hx] at he; injection he with he; subst he; exact ⟨y, rfl, p⟩
    | false => rw [hx] at he; exact ih q he
theorem opEntry_ok (R : Xs μ B A w.heap) {it it' : Value} (hi : Xj μ it it') {v : Value} (h : opEntry A it = some v) : ∃ v', (Instr.entry it').run P w = .ok v' w /\ Xj μ v v' := by
  unfold opEntry at h
  split at h
  case h_2 => cases h
  rename_i rr
  cases hi with
  | @ptr _ _ e he =>
  split at h
  case h_2 => cases h
  rename_i m since seen stepped ho
  split at h
  case h_2 => cases h
  rename_i es cl b seen' hm
  split at h
  case h_2 => cases h
  rename_i e0 hcl hfind
  injection h with h; subst h
  have hcl := Nat.eq_of_beq_eq_true hcl
  subst hcl
  obtain ⟨hg, hB, m', h1, h2⟩ := R.obj rr _ e ho he
  have hd := (R.dom rr e he).2.2.1 hg
  rcases h2 with ⟨hc, _⟩ | ⟨m0, em, hm0, hem, rfl⟩
  · cases hc
  injection hm0 with hm0; subst hm0
  obtain ⟨_, _, es', h3, h4⟩ := R.obj m _ em hm hem
  have hg1 := XG (P := P) (w := w) h1 (by intro c t f hc; cases hc)
  have hg2 := XG (P := P) (w := w) h3 (by intro c t f hc; cases hc)
  obtain ⟨e', f1, f2⟩ := find_born h4 hfind
  have f1' : es'.find? (fun e => e.born == b) = some e' := by rw [← Array.find?_toList]; exact f1
  refine ⟨.tuple #[e'.key, e'.val], ?_, Xo.tuple (.cons f2.1 (.cons f2.2.1 .nil))⟩
  rw [hd]
  have hback : (b :: seen').reverse.toArray.back? = some b := by simp
  simp only [Instr.entry, Nat.add_zero, Sem.run_bind, hg1, Result.andThen_ok, hback, hg2, f1']
  simp
def opCopy (T : Tab) (A : Xd) (ats : List TypeId) (d s : Value) : Option (Value × Xd) :=
  match ats with
  | dt :: _ =>
    match T.ty.get dt with
    | some td =>
      match td.desc with
      | .slice el =>
        match T.ty.get el, d, lenV s with
        | some te, .slice (some ⟨b, off, none⟩) dl _, some sl =>
          (match bif Nat.ble sl dl then sl else dl with
            | 0 => some (.int .i64 (.ofNat 0), A)
            | n + 1 =>
              (match (match s with
                | .slice (some ⟨b2, off2, none⟩) _ _ => YG A b2 off2 (Nat.mul (Nat.succ n) te.size)
                | .string ⟨⟨l⟩⟩ => (match te.size, YP l (Nat.succ n) with | 1, some r => some (bytesV r) | _, _ => none)
                | _ => none) with
                | some cells => (match astore A b off cells with | some A' => some (.int .i64 (.ofNat (Nat.succ n)), A') | none => none)
                | none => none))
        | some _, .slice none 0 0, some _ => some (.int .i64 (.ofNat 0), A)
        | _, _, _ => none
      | _ => none
    | none => none
  | _ => none
theorem opCopy_ok (C : Xy P T) (R : Xs μ B A w.heap) {ats : List TypeId} {d d' s s' : Value} (hd : Xj μ d d') (hs : Xj μ s s') {r : Value × Xd} (h : opCopy T A ats d s = some r) (rt : TypeId) :
    Ok P μ B A w (Builtin.copy_ ats.toArray rt #[d', s']) r.1 r.2 := by
  unfold opCopy at h
  split at h
  case h_2 => cases h
  rename_i dt rest
  split at h
  case h_2 => cases h
  rename_i td htd
  split at h
  case h_2 => cases h
  rename_i el hdesc
  have hu := C.underlying htd w
  split at h
  · rename_i te b off dl cap sl hte hsl
    have hsl' : lenV s' = some sl := by
      unfold lenV at hsl
      split at hsl
      · injection hsl with hsl; subst hsl; cases hs <;> rfl
      · injection hsl with hsl; subst hsl; cases hs; rfl
      · cases hsl
    have hmin : (bif Nat.ble sl dl then sl else dl) = Nat.min sl dl := by
      cases hb : Nat.ble sl dl with
      | true => have := XZ hb; simp [this]
      | false => have : ¬ sl <= dl := fun hc => by rw [Nat.ble_eq_true_of_le hc] at hb; cases hb
                 simp [Nat.min_def, this]
    have hat : (dt :: rest).toArray[0]? = some dt := by simp
    have hshape : ∃ a c, d' = .slice (some a) dl c := by cases hd <;> exact ⟨_, _, rfl⟩
    obtain ⟨a, c, rfl⟩ := hshape
    have hrun : (Builtin.copy_ (dt :: rest).toArray rt #[.slice (some a) dl c, s']).run P w = ((Builtin.firstCells te.size (Nat.min sl dl) s' >>= fun cells => storeCells a cells.toList >>= fun _ => pure (goInt (Nat.min sl dl))) : Sem Value).run P w := by
      simp only [Builtin.copy_, hat, List.getElem?_toArray, List.getElem?_cons_zero, List.getElem?_cons_succ, Sem.run_bind, hu, hdesc, Result.andThen_ok, run_lenOf hsl', C.sizeOf hte]
    rw [hmin] at h
    split at h
    · rename_i hmz
      injection h with h; subst h
      refine .pure R (v' := goInt 0) ?_ (.int _ _)
      rw [hrun, hmz]
      have hf : (Builtin.firstCells te.size 0 s').run P w = .ok #[] w := by
        unfold lenV at hsl'
        split at hsl'
        · rename_i a0 n0 c0; cases a0 <;> simp [Builtin.firstCells, loadCells, loadCellsFrom]
        · simp [Builtin.firstCells]
        · cases hsl'
      simp only [Sem.run_bind, hf, Result.andThen_ok]
      rfl
    · rename_i n hmn
      split at h
      case h_2 => cases h
      rename_i cells hcells
      split at h
      case h_2 => cases h
      rename_i A' hA
      injection h with h; subst h
      have hf : ∃ zs : Array Value, (Builtin.firstCells te.size (n + 1) s').run P w = .ok zs w /\ Xo μ cells zs.toList := by
        split at hcells
        · rename_i b2 off2 n2 c2
          have hn0 : n2 ≠ 0 := by
            intro h0; subst h0
            injection hsl with hsl
            subst hsl
            have : Nat.min 0 dl = 0 := Nat.zero_min _
            omega
          have key : ∀ (e : Ent) (c' : Nat), μ b2 = some e -> s' = .slice (some ⟨e.blk, e.dl + off2, none⟩) n2 c' -> ∃ zs : Array Value, (Builtin.firstCells te.size (n + 1) s').run P w = .ok zs w /\ Xo μ cells zs.toList := by
            intro e c' he hs'
            subst hs'
            obtain ⟨zs, z1, z2, _⟩ := Yz P R he hcells
            exact ⟨zs, z1, z2⟩
          cases hs with
          | slice he hg => exact key _ _ he rfl
          | gslice he hg h1 h2 h3 => exact key _ _ he rfl
          | zslice he => exact absurd rfl hn0
        · rename_i l
          cases hs
          split at hcells
          · rename_i r0 hsz hr0
            injection hcells with hcells; subst hcells
            obtain ⟨rfl, hle⟩ := X9 hr0
            refine ⟨((l.take (n + 1)).map fun b => Value.int .u8 b.toNat).toArray, ?_, ?_⟩
            · simp only [Builtin.firstCells, Sem.run_pure]
              congr 1
              apply Array.ext'
              simp [ByteArray.data_extract]
            · rw [bytesV_eq]
              refine ⟨by simp, fun i x y hx hy => ?_⟩
              simp only [] at hy
              rw [hx] at hy; injection hy with hy; subst hy
              rw [List.getElem?_map] at hx
              cases hb : (l.take (n + 1))[i]? with
              | none => rw [hb] at hx; cases hx
              | some q => rw [hb] at hx; injection hx with hx; subst hx; exact .int _ _
          · cases hcells
        · cases hcells
      obtain ⟨zs, z1, z2⟩ := hf
      have key : ∀ (e : Ent), μ b = some e -> a = ⟨e.blk, e.dl + off, none⟩ -> Ok P μ B A w (Builtin.copy_ (dt :: rest).toArray rt #[.slice (some a) dl c, s']) (.int .i64 (.ofNat (Nat.succ n))) A' := by
        intro e he ha
        subst ha
        obtain ⟨w', k1, k2, k3, k4, _⟩ := Ky P R he z2 hA
        refine ⟨goInt (n + 1 : Nat), w', μ, ?_, Mu.Ext.refl _ μ, k2, .int _ _, k3, k4⟩
        rw [hrun, hmn]
        have z1' : (Builtin.firstCells te.size (Nat.succ n) s').run P w = .ok zs w := z1
        simp only [Sem.run_bind, z1', Result.andThen_ok, k1]
        rfl
      cases hd with
      | slice he hg => exact key _ he rfl
      | gslice he hg h1 h2 h3 => exact key _ he rfl
      | zslice he => have : Nat.min sl 0 = 0 := Nat.min_zero _; omega
  · rename_i te sl hte hsl
    injection h with h; subst h
    cases hd
    have hsl' : ∃ sl', lenV s' = some sl' := by
      unfold lenV at hsl
      split at hsl
      · cases hs <;> exact ⟨_, rfl⟩
      · cases hs; exact ⟨_, rfl⟩
      · cases hsl
    obtain ⟨sl', hsl'⟩ := hsl'
    have hat : (dt :: rest).toArray[0]? = some dt := by simp
    have hf : (Builtin.firstCells te.size 0 s').run P w = .ok #[] w := by
      unfold lenV at hsl'
      split at hsl'
      · rename_i a0 n0 c0; cases a0 <;> simp [Builtin.firstCells, loadCells, loadCellsFrom]
      · simp [Builtin.firstCells]
      · cases hsl'
    refine .pure R (v' := goInt 0) ?_ (.int _ _)
    have hm0 : Nat.min sl' 0 = 0 := Nat.min_zero _
    simp only [Builtin.copy_, hat, List.getElem?_toArray, List.getElem?_cons_zero, List.getElem?_cons_succ, Sem.run_bind, hu, hdesc, Result.andThen_ok, run_lenOf hsl', C.sizeOf hte, hm0, hf]
    rfl
  · cases h
def opAssert (T : Tab) (x : Value) (t : TypeId) (ok : Bool) : Option Value :=
  match T.ty.get t with
  | some ti =>
    match ti.desc, x with
    | .interface _, .nilIface => (match ok with | true => some (.tuple ⟨[ti.zero, .bool false]⟩) | false => none)
    | .interface _, _ => none
    | _, .nilIface => (match ok with | true => some (.tuple ⟨[ti.zero, .bool false]⟩) | false => none)
    | _, .iface u v => (match Nat.beq u t, ok with
      | true, true => some (.tuple ⟨[v, .bool true]⟩)
      | true, false => some v
      | false, true => some (.tuple ⟨[ti.zero, .bool false]⟩)
      | _, _ => none)
    | _, _ => none
  | none => none
theorem opAssert_ok (C : Xy P T) {x x' : Value} (hx : Xj μ x x') {xt t : TypeId} {ok : Bool} {v : Value} (h : opAssert T x t ok = some v) (w : World) : ∃ v', (Instr.typeAssert x' xt t ok).run P w = .ok v' w /\ Xj μ v v' := by
  unfold opAssert at h
  split at h
  case h_2 => cases h
  rename_i ti ht
  have hu := C.underlying ht w
  have hz := C.zeroValue ht w
  have hzr := XU (C.closed ht) μ
  have tup : ∀ a a' b, Xj μ a a' -> Xj μ (.tuple ⟨[a, .bool b]⟩) (.tuple #[a', .bool b]) := fun a a' b h1 => Xo.tuple (.cons h1 (.cons (.bool b) .nil))
  split at h
  · rename_i ms hd
    cases hx
    split at h
    · injection h with h; subst h
      exact ⟨_, by simp [Instr.typeAssert, hu, hd, hz], tup _ _ _ hzr⟩
    · cases h
  · cases h
  · rename_i hni
    cases hx
    split at h
    · injection h with h; subst h
      refine ⟨_, ?_, tup _ _ _ hzr⟩
      simp only [Instr.typeAssert, Sem.run_bind, hu, Result.andThen_ok]
      split <;> simp_all
    · cases h
  · rename_i u v0 hni
    cases hx with
    | iface _ hv =>
    have hnif : ∀ ms, ti.desc ≠ .interface ms := fun ms hc => hni ms hc
    split at h
    · rename_i heq
      have heq := Nat.eq_of_beq_eq_true heq
      injection h with h; subst h
      refine ⟨_, ?_, tup _ _ _ hv⟩
      simp only [Instr.typeAssert, Sem.run_bind, hu, Result.andThen_ok]
      split <;> simp_all
    · rename_i heq
      have heq := Nat.eq_of_beq_eq_true heq
      injection h with h; subst h
      refine ⟨_, ?_, hv⟩
      simp only [Instr.typeAssert, Sem.run_bind, hu, Result.andThen_ok]
      split <;> simp_all
    · rename_i hne
      have hne := Nat.ne_of_beq_eq_false hne
      injection h with h; subst h
      refine ⟨_, ?_, tup _ _ _ hzr⟩
      simp only [Instr.typeAssert, Sem.run_bind, hu, Result.andThen_ok]
      split <;> simp_all
    · cases h
  · cases h
end
end
section
def countB (l : List UInt8) (c : Nat) : Nat :=
 List.rec (motive := fun _ => Nat) 0 (fun b _ r => Bool.rec (motive := fun _ => Nat) r (Nat.succ r) (Nat.beq b.toNat c)) l
def idxB (l : List UInt8) (c : Nat) : Nat -> Option Nat :=
 List.rec (motive := fun _ => Nat -> Option Nat) (fun _ => none) (fun b _ ih k => Bool.rec (motive := fun _ => Option Nat) (ih (Nat.succ k)) (some k) (Nat.beq b.toNat c)) l
def cmpB (l m : List UInt8) : Int :=
 match l, m with
 | [], [] => .ofNat 0
 | [], _ :: _ => .negSucc 0
 | _ :: _, [] => .ofNat 1
 | a :: l1, b :: m1 => (match Nat.blt a.toNat b.toNat with | true => .negSucc 0 | false => (match Nat.blt b.toNat a.toNat with | true => .ofNat 1 | false => cmpB l1 m1))
theorem byte_beq (b : UInt8) (c : Nat) : Nat.beq b.toNat (Nat.mod c 256) = (b == c.toUInt8) := by
 have h : c.toUInt8.toNat = Nat.mod c 256 := by simp [Nat.toUInt8]; rfl
 rw [← h, Bool.eq_iff_iff, beq_iff_eq]
 constructor
 ·intro e; exact UInt8.toNat_inj.1 (Nat.eq_of_beq_eq_true e)
 ·intro e; subst e; exact Nat.beq_refl _
theorem countB_eq (l : List UInt8) (c : Nat) : countB l (Nat.mod c 256) = Lib.countByte l c.toUInt8 := by
 induction l with
 | nil => rfl
 | cons b l ih =>
  show Bool.rec (motive := fun _ => Nat) (countB l (Nat.mod c 256)) (Nat.succ (countB l (Nat.mod c 256))) (Nat.beq b.toNat (Nat.mod c 256)) = _
  rw [byte_beq, ih]
  unfold Lib.countByte
  rw [List.count_cons]
  cases h : b == c.toUInt8 <;> simp
theorem idxB_eq (l : List UInt8) (c : Nat) : ∀ k, idxB l (Nat.mod c 256) k = (if Lib.indexByte l c.toUInt8 = -1 then none else some ((Lib.indexByte l c.toUInt8).toNat + k)) := by
 induction l with
 | nil => intro k; rfl
 | cons b l ih =>
  intro k
  show Bool.rec (motive := fun _ => Option Nat) (idxB l (Nat.mod c 256) (Nat.succ k)) (some k) (Nat.beq b.toNat (Nat.mod c 256)) = _
  rw [byte_beq, ih]
  have hc : Lib.indexByte (b :: l) c.toUInt8 = if b == c.toUInt8 then 0 else if Lib.indexByte l c.toUInt8 == -1 then -1 else Lib.indexByte l c.toUInt8 + 1 := rfl
  rw [hc]
  have hge := Lib.indexByte_ge l c.toUInt8
  cases h : b == c.toUInt8 with
  | true => simp
  | false =>
   simp only [Bool.false_eq_true, if_false]
   by_cases h1 : Lib.indexByte l c.toUInt8 = -1
   ·simp [h1]
   ·have h2 : (Lib.indexByte l c.toUInt8 == -1) = false := by simpa using h1
    simp only [h1, h2, Bool.false_eq_true, if_false]
    rw [if_neg (by omega)]
    congr 1
    omega
theorem cmpB_eq : ∀ l m : List UInt8, cmpB l m = Lib.compareBytes l m
 | [], [] => rfl
 | [], _ :: _ => rfl
 | _ :: _, [] => rfl
 | a :: l1, b :: m1 => by
  unfold cmpB Lib.compareBytes
  have h1 : (a < b) ↔ a.toNat < b.toNat := UInt8.lt_iff_toNat_lt
  have h2 : (b < a) ↔ b.toNat < a.toNat := UInt8.lt_iff_toNat_lt
  cases ha : Nat.blt a.toNat b.toNat with
  | true => rw [if_pos (h1.2 (by simpa using ha))]; rfl
  | false =>
   rw [if_neg (fun h => by have := h1.1 h; rw [← Nat.blt_eq, ha] at this; cases this)]
   cases hb : Nat.blt b.toNat a.toNat with
   | true => rw [if_pos (h2.2 (by simpa using hb))]; rfl
   | false =>
    rw [if_neg (fun h => by have := h2.1 h; rw [← Nat.blt_eq, hb] at this; cases this)]
    exact cmpB_eq l1 m1
def extV (k : Nat) (args : List Value) : Option Value :=
 match k, args with
 | 0, [.string ⟨⟨s⟩⟩, .int .u8 (.ofNat c)] => some (.int .i64 (.ofNat (countB s (Nat.mod c 256))))
 | 1, [.string ⟨⟨s⟩⟩, .int .u8 (.ofNat c)] => (match idxB s (Nat.mod c 256) 0 with | some i => some (.int .i64 (.ofNat i)) | none => some (.int .i64 (.negSucc 0)))
 | 2, [.string ⟨⟨s⟩⟩, .string ⟨⟨t⟩⟩] => some (.int .i64 (cmpB s t))
 | _, _ => none
theorem ext_string {μ : Mu} {s : ByteArray} {v : Value} (h : Xj μ (.string s) v) : v = .string s := by cases h; rfl
theorem ext_int {μ : Mu} {k : IntKind} {n : Int} {v : Value} (h : Xj μ (.int k n) v) : v = .int k n := by cases h; rfl
theorem extV_ok {P : Program} {T : Tab} (C : Xy P T) {f : FuncId} {k : Nat} (hk : T.ext.get f = some k) {μ : Mu} {args args' : List Value} (ha : Xo μ args args') {v : Value} (h : extV k args = some v) (w : World) :
  (callFunc f args'.toArray).run P w = .ok (.value v) w := by
 obtain ⟨fn, h1, h2, h3, h4, h5⟩ := C.ext f k hk
 have h3' : ¬ fn.name = "runtime.NumGoroutine" := by simpa using h3
 have h4' : Extern.findNext fn = none := by simpa using h4
 have key : ∀ {e : Array Value -> Sem Value}, Extern.find fn = some e -> (e args'.toArray).run P w = .ok v w -> (callFunc f args'.toArray).run P w = .ok (.value v) w := by
  intro e he hr
  simp [callFunc, h1, h2, h3', h4', he, hr]
 unfold extV at h
 split at h
 ·rename_i s c
  injection h with h; subst h
  obtain ⟨y, r, rfl, hy, hr⟩ := ha.cons_left
  obtain ⟨z, r, rfl, hz, hr⟩ := hr.cons_left
  cases hr.nil_left; cases ext_string hy; cases ext_int hz
  refine key h5 ?_
  have := Lib.run_countString (P := P) ⟨⟨s⟩⟩ (.ofNat c) w
  rw [countB_eq]
  simpa using this
 ·rename_i s c
  obtain ⟨y, r, rfl, hy, hr⟩ := ha.cons_left
  obtain ⟨z, r, rfl, hz, hr⟩ := hr.cons_left
  cases hr.nil_left; cases ext_string hy; cases ext_int hz
  refine key h5 ?_
  have hrun := Lib.run_indexByteString (P := P) ⟨⟨s⟩⟩ (.ofNat c) w
  have e1 : (Int.ofNat c).toNat.toUInt8 = c.toUInt8 := rfl
  rw [e1] at hrun
  have hge := Lib.indexByte_ge s c.toUInt8
  have hi := idxB_eq s c 0
  split at h
  ·rename_i i hx
   injection h with h; subst h
   rw [hi] at hx
   split at hx
   ·cases hx
   ·rename_i hne
    injection hx with hx
    have : Lib.indexByte s c.toUInt8 = Int.ofNat i := by simp only [Int.ofNat_eq_natCast]; omega
    rw [← this]; exact hrun
  ·rename_i hx
   injection h with h; subst h
   rw [hi] at hx
   split at hx
   ·rename_i he
    have he : Lib.indexByte s c.toUInt8 = Int.negSucc 0 := he
    rw [← he]; exact hrun
   ·cases hx
 ·rename_i s t
  injection h with h; subst h
  obtain ⟨y, r, rfl, hy, hr⟩ := ha.cons_left
  obtain ⟨z, r, rfl, hz, hr⟩ := hr.cons_left
  cases hr.nil_left; cases ext_string hy; cases ext_string hz
  refine key h5 ?_
  rw [cmpB_eq]
  exact Lib.run_compareString (P := P) ⟨⟨s⟩⟩ ⟨⟨t⟩⟩ w
 ·cases h
theorem extV_rel {k : Nat} {args : List Value} {v : Value} (h : extV k args = some v) (μ : Mu) : Xj μ v v := by
 unfold extV at h
 split at h
 ·injection h with h; subst h; exact .int _ _
 ·split at h <;> (injection h with h; subst h; exact .int _ _)
 ·injection h with h; subst h; exact .int _ _
 ·cases h
def extR (A : Xd) (k : Nat) (args : List Value) : Option (Value × Xd) :=
 match k, args with
 | 10, [.pointer (some ⟨b, off, none⟩)] => (match YG A b off 1 with | some [.int .u32 n] => some (.int .u32 n, A) | _ => none)
 | 11, [.pointer (some ⟨b, off, none⟩), .int .u32 n] => (match YG A b off 1 with
   | some [.int .u32 _] => (match astore A b off [.int .u32 n] with | some A' => some (.tuple ⟨[]⟩, A') | none => none)
   | _ => none)
 | 12, [.pointer (some ⟨b, off, none⟩), .int .i32 x, .int .i32 y] =>
  (match YG A b off 1 with
   | some [.int .i32 v] => (match iEq v x with | true => (match astore A b off [.int .i32 y] with | some A' => some (.bool true, A') | none => none) | false => none)
   | _ => none)
 | 13, [.pointer (some ⟨b, off, none⟩), .int .i32 d] =>
  (match YG A b off 1 with
   | some [.int .i32 v] => (match astore A b off [.int .i32 (YU .i32 (Int.add v d))] with | some A' => some (.int .i32 (YU .i32 (Int.add v d)), A') | none => none)
   | _ => none)
 | 20, [.pointer (some ⟨_, _, none⟩)] => some (.tuple ⟨[]⟩, A)
 | 21, [] => some (.tuple ⟨[]⟩, A)
 | k, args => (match extV k args with | some v => some (v, A) | none => none)
theorem load_at {P : Program} {μ : Mu} {B : Nat} {A : Xd} {w : World} (R : Xs μ B A w.heap) {b off : Nat} {e : Ent} {x : Value} (he : μ b = some e) (h : YG A b off 1 = some [x]) (m : Mode) :
  ∃ z : Value, (load ⟨e.blk, e.dl + off, none⟩ m).run P w = .ok z w /\ Xj μ x z /\ w.cell? ⟨e.blk, e.dl + off, none⟩ = some z := by
 unfold YG at h
 split at h
 ·rename_i xs k ho
  obtain ⟨arr, t, fr, ha, hle, hx⟩ := cells_of R ho he
  obtain ⟨h1, hn⟩ := X9 h
  rw [Yu] at h1 hn
  have h2 : xs[off]? = some x := by
   have : (xs.drop off)[0]? = some x := by
    have := congrArg (fun l => l[0]?) h1
    simp at this
    simpa using this.symm
   simpa using this
  obtain ⟨z, hz, hr⟩ := hx off x h2
  have hc : w.cell? ⟨e.blk, e.dl + off, none⟩ = some z := by rw [cell?_of_heap ha, hz]
  exact ⟨z, by rw [run_load, hc], hr, hc⟩
 ·cases h
theorem store_at {P : Program} {μ : Mu} {B : Nat} {A A' : Xd} {w : World} (R : Xs μ B A w.heap) {b off : Nat} {e : Ent} {x z : Value} (he : μ b = some e) (hv : Xj μ x x) (hone : x.oneCell' = true) (hc : w.cell? ⟨e.blk, e.dl + off, none⟩ = some z)
  (h : astore A b off [x] = some A') (m : Mode) :
  w.frozen? ⟨e.blk, e.dl + off, none⟩ = false /\ ∃ w', (store ⟨e.blk, e.dl + off, none⟩ x m).run P w = .ok () w' /\ Xs μ B A' w'.heap /\ Below B w w' /\ Ye μ A A' := by
 obtain ⟨w', h1, h2, h3, h4, _⟩ := Ky P R he (.cons hv .nil) h
 have h5 : (store ⟨e.blk, e.dl + off, none⟩ x .plain).run P w = .ok () w' := by
  simp only [storeCells, Sem.run_bind, Kc, Nat.add_zero] at h1
  cases hr : (store ⟨e.blk, e.dl + off, none⟩ x .plain).run P w with
  | ok u w2 => rw [hr] at h1; simpa using h1
  | halt x' w2 => rw [hr] at h1; cases h1
 have hpl := h5
 rw [run_store P w _ x .plain hone, hc] at hpl
 cases hf : w.frozen? ⟨e.blk, e.dl + off, none⟩ with
 | true => rw [hf] at hpl; cases hpl
 | false =>
  rw [hf] at hpl
  refine ⟨rfl, w', ?_, h2, h3, h4⟩
  rw [run_store P w _ x m hone, hc, hf]
  exact hpl
theorem loadT_one (t : Extern.Atomic.T) (p : Value) : Extern.Atomic.loadT t #[p] = (asAddr p >>= fun a => Extern.Atomic.read t a) := rfl
theorem storeT_two (p v : Value) : Extern.Atomic.storeT #[p, v] = (asAddr p >>= fun a => store a v .atomic >>= fun _ => pure (.tuple #[])) := rfl
theorem run_casT_i32 {P : Program} {w w' : World} {a : Addr} {x y : Int} (hc : w.cell? a = some (.int .i32 x)) (hz : w.frozen? a = false) (s1 : (store a (.int .i32 y) .atomic).run P w = .ok () w') :
  (Extern.Atomic.casT (.int .i32) #[.pointer (some a), .int .i32 x, .int .i32 y]).run P w = .ok (.bool true) w' := by
 change Sem.run P (do
  let a' ← asAddr (.pointer (some a))
  if ← Extern.Atomic.touchesFrozen a' then unsupported (.unsafePointer "a write to bytes that a string shares")
  let eq ← match Extern.Atomic.T.int .i32, ← Extern.Atomic.read (.int .i32) a', Value.int .i32 x with
   | _, .int _ x, .int _ y => pure (x == y)
   | .ptr, .pointer x, .pointer y => samePointer x y
   | .int _, .pointer (some _), .int _ 0 | .int _, .int _ 0, .pointer (some _) => pure false
   | .int _, .pointer (some _), _ | .int _, _, .pointer (some _) => unsupported .addressObserved
   | _, _, _ => stuck "atomic.CompareAndSwap: old is no T"
  if eq then store a' (.int .i32 y) .atomic
  pure (Value.bool eq)) w = _
 simp [Extern.Atomic.touchesFrozen, Extern.Atomic.read, asAddr, viewAt, World.shape?_isSome_of_cell? hc, hc, hz, s1]
theorem update_i32 (p y : Value) : Extern.Atomic.update (Op.intArith .add) .i32 true #[p, y] = (asAddr p >>= fun a => Extern.Atomic.read (.int .i32) a >>= fun old => asInt old >>= fun o => asInt y >>= fun n => Op.intArith .add .i32 o n >>= fun new => store a new .atomic >>= fun _ => pure new) := rfl
theorem extR_ok {P : Program} {T : Tab} (C : Xy P T) {f : FuncId} {k : Nat} (hk : T.ext.get f = some k) {μ : Mu} {B : Nat} {A : Xd} {w : World} (R : Xs μ B A w.heap) {args args' : List Value} (ha : Xo μ args args') {r : Value × Xd} (h : extR A k args = some r) :
  ∃ v' w', (callFunc f args'.toArray).run P w = .ok (.value v') w' /\ Xs μ B r.2 w'.heap /\ Xj μ r.1 v' /\ Below B w w' /\ Ye μ A r.2 := by
 obtain ⟨fn, h1, h2, h3, h4, h5⟩ := C.ext f k hk
 have h3' : ¬ fn.name = "runtime.NumGoroutine" := by simpa using h3
 have h4' : Extern.findNext fn = none := by simpa using h4
 have key : ∀ {e : Array Value -> Sem Value} {v' : Value} {w' : World}, Extern.find fn = some e -> (e args'.toArray).run P w = .ok v' w' -> (callFunc f args'.toArray).run P w = .ok (.value v') w' := by
  intro e v' w' he hr
  simp [callFunc, h1, h2, h3', h4', he, hr]
 unfold extR at h
 split at h
 ·rename_i b off
  split at h
  case h_2 => cases h
  rename_i n hl
  injection h with h; subst h
  obtain ⟨y, l, rfl, hy, hr⟩ := ha.cons_left
  cases hr.nil_left
  cases hy with
  | @ptr _ _ e he =>
  obtain ⟨z, z1, z2, _⟩ := load_at (P := P) R he hl .atomic
  cases z2
  refine ⟨_, w, key h5 ?_, R, .int _ _, Below.refl _ _, Ye.refl _ _⟩
  simp [loadT_one, Extern.Atomic.read, asAddr, z1]
 ·rename_i b off n
  split at h
  case h_2 => cases h
  rename_i n0 hl
  split at h
  case h_2 => cases h
  rename_i A' hs
  injection h with h; subst h
  obtain ⟨y, l, rfl, hy, hr⟩ := ha.cons_left
  obtain ⟨z, l, rfl, hz, hr⟩ := hr.cons_left
  cases hr.nil_left; cases ext_int hz
  cases hy with
  | @ptr _ _ e he =>
  obtain ⟨z0, _, _, hc⟩ := load_at (P := P) R he hl .atomic
  obtain ⟨_, w', s1, s2, s3, s4⟩ := store_at (P := P) R he (.int _ _) rfl hc hs .atomic
  refine ⟨_, w', key h5 ?_, s2, Xo.tuple .nil, s3, s4⟩
  simp [storeT_two, asAddr, s1]
 ·rename_i b off x y
  split at h
  case h_2 => cases h
  rename_i v hl
  split at h
  case h_2 => cases h
  rename_i heq
  split at h
  case h_2 => cases h
  rename_i A' hs
  injection h with h; subst h
  obtain ⟨a1, l, rfl, hy, hr⟩ := ha.cons_left
  obtain ⟨a2, l, rfl, hx, hr⟩ := hr.cons_left
  obtain ⟨a3, l, rfl, hz, hr⟩ := hr.cons_left
  cases hr.nil_left; cases ext_int hx; cases ext_int hz
  cases hy with
  | @ptr _ _ e he =>
  obtain ⟨z, z1, z2, hc⟩ := load_at (P := P) R he hl .atomic
  cases z2
  obtain ⟨hf, w', s1, s2, s3, s4⟩ := store_at (P := P) R he (.int _ _) rfl hc hs .atomic
  rw [iEq_eq] at heq
  simp at heq
  subst heq
  refine ⟨_, w', key h5 ?_, s2, .bool true, s3, s4⟩
  exact run_casT_i32 hc hf s1
 ·rename_i b off d
  split at h
  case h_2 => cases h
  rename_i v hl
  split at h
  case h_2 => cases h
  rename_i A' hs
  injection h with h; subst h
  obtain ⟨a1, l, rfl, hy, hr⟩ := ha.cons_left
  obtain ⟨a2, l, rfl, hx, hr⟩ := hr.cons_left
  cases hr.nil_left; cases ext_int hx
  cases hy with
  | @ptr _ _ e he =>
  obtain ⟨z, z1, z2, hc⟩ := load_at (P := P) R he hl .atomic
  cases z2
  obtain ⟨_, w', s1, s2, s3, s4⟩ := store_at (P := P) R he (.int _ _) rfl hc hs .atomic
  rw [wrapF_eq] at *
  refine ⟨_, w', key h5 ?_, s2, .int _ _, s3, s4⟩
  have s1' : (store ⟨e.blk, e.dl + off, none⟩ (.int .i32 (IntKind.i32.wrap (v + d))) .atomic).run P w = .ok () w' := s1
  simp [update_i32, asAddr, Extern.Atomic.read, hc, asInt, asIntOf, Op.intArith, s1']
 ·rename_i b off
  injection h with h; subst h
  obtain ⟨y, l, rfl, hy, hr⟩ := ha.cons_left
  cases hr.nil_left
  obtain ⟨m, hm⟩ := h5
  cases hy with
  | @ptr _ _ e he =>
  refine ⟨_, w, key hm ?_, R, Xo.tuple .nil, Below.refl _ _, Ye.refl _ _⟩
  simp [Extern.Race.marked, Extern.Race.at_, Extern.Race.none_]
 ·injection h with h; subst h
  cases ha.nil_left
  obtain ⟨m, hm⟩ := h5
  refine ⟨_, w, key hm ?_, R, Xo.tuple .nil, Below.refl _ _, Ye.refl _ _⟩
  simp [Extern.Race.none_]
 ·split at h
  case h_2 => cases h
  rename_i v hv
  injection h with h; subst h
  exact ⟨v, w, extV_ok C hk ha hv w, R, extV_rel hv μ, Below.refl _ _, Ye.refl _ _⟩
end
section
def opSliceData (x : Value) : Option Value :=
 match x with
 | .slice none 0 0 => some (.pointer none)
 | .slice (some ⟨b, off, none⟩) _ (_ + 1) => some (.pointer (some ⟨b, off, none⟩))
 | _ => none
def killF (fam : Nat) (l : List Nat) (h : Tr Xg) : Tr Xg :=
 match l with
 | [] => h
 | m :: r => (match h.get m with
  | some (.cells _ (.grown g)) => (match Nat.beq g.fam fam with | true => killF fam r (h.put none m) | false => killF fam r h)
  | _ => killF fam r h)
def opUStr (T : Tab) (A : Xd) (ats : List TypeId) (p n : Value) : Option (Value × Xd) :=
 match ats with
 | [pt, _] =>
  (match n, p with
   | .int .i64 (.ofNat 0), .pointer _ => some (.string ⟨⟨[]⟩⟩, A)
   | .int .i64 (.ofNat (n + 1)), .pointer (some ⟨b, off, none⟩) =>
    (match T.ty.get pt with
     | some { desc := .pointer e, .. } =>
      (match T.ty.get e, A.heap.get b with
       | some te, some (.cells xs (.grown g)) =>
        (match Nat.beq te.size 1, Nat.beq g.ty e, Nat.ble n 1000000000, YP (Xf xs off) (Nat.succ n) with
         | true, true, true, some ys => (match asBytes ys with | some l => some (.string ⟨⟨l⟩⟩, { A with heap := killF g.fam (famOf A g.fam) A.heap }) | none => none)
         | _, _, _, _ => none)
       | _, _ => none)
     | _ => none)
   | _, _ => none)
 | _ => none
section
variable {P : Program} {T : Tab} {μ : Mu} {B : Nat} {A : Xd} {w : World}
theorem opSliceData_ok {x x' : Value} (hx : Xj μ x x') {v : Value} (h : opSliceData x = some v) (ts : Array TypeId) (ty : TypeId) (w : World) : ∃ v', (Builtin.unsafeSliceData_ ts ty #[x']).run P w = .ok v' w /\ Xj μ v v' := by
 unfold opSliceData at h
 split at h
 ·injection h with h; subst h
  cases hx
  exact ⟨_, Go.Lib.run_unsafeSliceData_nil w ts ty 0 0, .nilptr⟩
 ·rename_i b off n c
  injection h with h; subst h
  cases hx with
  | slice he hg => exact ⟨_, Go.Lib.run_unsafeSliceData_row w ts ty _ n (c + 1) (by omega), .ptr he⟩
  | gslice he hg hl hc hb => exact ⟨_, Go.Lib.run_unsafeSliceData_row w ts ty _ n _ (by omega), .ptr he⟩
 ·cases h
def opMakeBytes (T : Tab) (A : Xd) (t : TypeId) (l c : Value) : Option (Value × Xd) :=
 match l, c with
 | .int _ (.ofNat (n + 1)), .int _ (.ofNat m) =>
  (match T.ty.get t with
   | some { desc := .slice el, .. } =>
    (match T.ty.get el with
     | some te =>
      (match te.desc, Nat.beq te.size 1, Nat.beq (len te.zero.cells.toList) te.size, Nat.ble (Nat.mul te.bytes m) 1000000000, Nat.ble m 1000000000, Nat.beq (Nat.succ n) m with
       | .int .u8, true, true, true, true, true => (match afresh A 1 el (Kk te.zero.cells.toList m) with | some A' => some (.slice (some ⟨A.next, 0, none⟩) m m, A') | none => none)
       | _, _, _, _, _, _ => none)
     | none => none)
   | _ => none)
 | _, _ => none
theorem opMakeBytes_ok (C : Xy P T) (R : Xs μ B A w.heap) {t : TypeId} {l l' c c' : Value} (hl : Xj μ l l') (hc : Xj μ c c') {r : Value × Xd} (h : opMakeBytes T A t l c = some r) :
  Ok P μ B A w (Instr.makeSlice t l' c') r.1 r.2 := by
 unfold opMakeBytes at h
 split at h
 case h_2 => cases h
 rename_i k n k' m
 cases hl; cases hc
 split at h
 case h_2 => cases h
 rename_i el _ _ _ _ ht
 split at h
 case h_2 => cases h
 rename_i te hte
 split at h
 case h_2 => cases h
 rename_i hd hsz hz hbig hm hnm
 split at h
 case h_2 => cases h
 rename_i A' hA
 injection h with h; subst h
 have hsz := Nat.eq_of_beq_eq_true hsz
 have hz := Nat.eq_of_beq_eq_true hz
 have hbig := XZ hbig
 have hm := XZ hm
 have hnm := Nat.eq_of_beq_eq_true hnm
 simp at hz
 have hrun := makeSlice_run (w := w) (k := k) (k' := k') (n := n + 1) (m := m) (j := 0) C ht rfl hte (by simpa using hz) hbig hm (Nat.le_of_eq hnm) hsz
 have hrel : Xo μ (Kk te.zero.cells.toList m) (Kk te.zero.cells.toList m) := by
  have := reps_rel (XU (C.closed hte) μ).cells m
  exact this
 have hlen : (Kk te.zero.cells.toList m).length = m := by
  have key : ∀ q, (Kk te.zero.cells.toList q).length = q := by
   intro q
   induction q with
   | zero => rfl
   | succ q ih =>
    show (app te.zero.cells.toList (Kk te.zero.cells.toList q)).length = q + 1
    rw [Yi, List.length_append, ih]
    have : te.zero.cells.toList.length = 1 := by simpa [hsz] using hz
    omega
  exact key m
 obtain ⟨R', K, Bw, hm'⟩ := KA (w := w) R hA (arr := (Kk te.zero.cells.toList m).toArray) (fr := (0, 0)) (.inl rfl) (ys := Kk te.zero.cells.toList m) (rest := []) (by simp) hrel
 refine ⟨_, _, _, hrun, hm', R', ?_, Bw, K⟩
 have hnm' : n + 1 = m := hnm
 rw [hnm']
 exact .gslice (g := ⟨1, A.next, 0, el⟩) (Mu.add_same _ _ _) rfl (Nat.le_refl _) (Nat.le_refl _) (by simp [hlen])
def opMakeSliceX (T : Tab) (A : Xd) (t : TypeId) (l c : Value) : Option (Value × Xd) :=
 match opMakeBytes T A t l c with
 | some r => some r
 | none => opMakeSlice T A t l c
theorem opMakeSliceX_ok (C : Xy P T) (R : Xs μ B A w.heap) {t : TypeId} {l l' c c' : Value} (hl : Xj μ l l') (hc : Xj μ c c') {r : Value × Xd} (h : opMakeSliceX T A t l c = some r) :
  Ok P μ B A w (Instr.makeSlice t l' c') r.1 r.2 := by
 unfold opMakeSliceX at h
 split at h
 ·rename_i r' hr; injection h with h; subst h; exact opMakeBytes_ok C R hl hc hr
 ·exact opMakeSlice_ok C R hl hc h
theorem killF_sub {fam : Nat} : ∀ {l : List Nat} {h : Tr Xg} {k : Nat} {o : Xg}, (killF fam l h).get k = some o -> h.get k = some o := by
 intro l
 induction l with
 | nil => intro h k o hk; exact hk
 | cons m l ih =>
  intro h k o hk
  unfold killF at hk
  split at hk
  ·split at hk
   ·rcases Tr.get_put (ih hk) with ⟨_, hc⟩ | ⟨_, hc⟩
    ·cases hc
    ·exact hc
   ·exact ih hk
  ·exact ih hk
theorem killF_same {fam : Nat} : ∀ {l : List Nat} {h : Tr Xg} {k : Nat} {o : Xg}, h.get k = some o -> o.notGrown -> (killF fam l h).get k = some o := by
 intro l
 induction l with
 | nil => intro h k o hk _; exact hk
 | cons m l ih =>
  intro h k o hk hn
  unfold killF
  split
  ·rename_i xs g hm
   split
   ·refine ih ?_ hn
    rw [Tr.get_put_other]
    ·exact hk
    ·rintro rfl
     rw [hk] at hm; injection hm with hm; subst hm
     exact hn
   ·exact ih hk hn
  ·exact ih hk hn
theorem killF_gone {fam : Nat} : ∀ {l : List Nat} {h : Tr Xg} {k : Nat} {xs : List Value} {g : Gr}, k ∈ l -> (killF fam l h).get k = some (.cells xs (.grown g)) -> g.fam ≠ fam := by
 intro l
 induction l with
 | nil => intro h k xs g hk; cases hk
 | cons m l ih =>
  intro h k xs g hk ho
  by_cases hkm : k ∈ l
  ·unfold killF at ho
   split at ho
   ·split at ho
    ·exact ih hkm ho
    ·exact ih hkm ho
   ·exact ih hkm ho
  ·have hkm' : k = m := by
    rcases List.mem_cons.1 hk with h | h
    ·exact h
    ·exact absurd h hkm
   subst hkm'
   unfold killF at ho
   split at ho
   ·rename_i ys g2 hm
    split at ho
    ·rcases Tr.get_put (killF_sub ho) with ⟨_, hc⟩ | ⟨hc, _⟩
     ·cases hc
     ·exact absurd rfl hc
    ·rename_i hne
     have := killF_sub ho
     rw [hm] at this; injection this with this; injection this with _ this; injection this with this; subst this
     intro hc
     rw [hc, Nat.beq_refl] at hne
     cases hne
   ·rename_i hno
    exact absurd (killF_sub ho) (hno xs g)
theorem addr_add (b o j : Nat) : (⟨b, o, none⟩ : Addr).add j = ⟨b, o + j, none⟩ := by
 unfold Addr.add
 by_cases hj : j = 0
 ·subst hj; simp
 ·simp [hj]
theorem run_loadBytes2 (b : Nat) (w : World) : ∀ {ys : List Value} {l : List UInt8}, asBytes ys = some l -> ∀ (o : Nat) (acc : ByteArray), (∀ j x, ys[j]? = some x -> ∃ y, w.cell? ⟨b, o + j, none⟩ = some y /\ Xj μ x y) ->
  (loadBytes ⟨b, o, none⟩ acc ys.length).run P w = .ok ⟨⟨acc.data.toList ++ l⟩⟩ w := by
 intro ys
 induction ys with
 | nil =>
  intro l hl o acc _
  injection hl with hl; subst hl
  simp [loadBytes]
 | cons y ys ih =>
  intro l hl o acc hc
  rw [asBytes_cons] at hl
  split at hl
  ·rename_i n l' hl'
   injection hl with hl; subst hl
   obtain ⟨y', h0, hr⟩ := hc 0 _ rfl
   cases hr
   have := ih hl' (o + 1) (acc.push n.toNat.toUInt8) (fun j x hx => by
    have := hc (j + 1) x (by simpa using hx)
    rw [show o + 1 + j = o + (j + 1) from by omega]; exact this)
   simp only [List.length_cons, loadBytes, Sem.run_bind, run_load, Nat.add_zero] at h0 ⊢
   rw [h0]
   simp only [Result.andThen_ok, addr_add]
   rw [this]
   congr 1
   simp [ByteArray.push]
  ·cases hl
theorem opUStr_ok (C : Xy P T) (R : Xs μ B A w.heap) {ats : List TypeId} {p p' n n' : Value} (hp : Xj μ p p') (hn : Xj μ n n') {r : Value × Xd} (h : opUStr T A ats p n = some r) (rt : TypeId) :
  Ok P μ B A w (Builtin.unsafeString_ ats.toArray rt #[p', n']) r.1 r.2 := by
 unfold opUStr at h
 split at h
 case h_2 => cases h
 rename_i pt it
 split at h
 ·rename_i a
  injection h with h; subst h
  cases hn
  have : ∃ a', p' = .pointer a' := by cases hp <;> exact ⟨_, rfl⟩
  obtain ⟨a', rfl⟩ := this
  exact .pure R (v' := .string .empty) (Go.Lib.run_unsafeString_none w pt it rt a') (.string _)
 ·rename_i m b off
  split at h
  case h_2 => cases h
  rename_i e _ _ _ _ hpt
  split at h
  case h_2 => cases h
  rename_i te xs g hte ho
  split at h
  case h_2 => cases h
  rename_i ys hsz hty hm hys
  split at h
  case h_2 => cases h
  rename_i l hl
  injection h with h; subst h
  have hsz := Nat.eq_of_beq_eq_true hsz
  have hty := Nat.eq_of_beq_eq_true hty
  have hm := Nat.le_of_ble_eq_true hm
  cases hn
  cases hp with
  | @ptr _ _ en he =>
  obtain ⟨h1, hB, arr, t, fr, ha, ⟨hmk, ht⟩, hcs, hle, hx⟩ := R.obj b _ en ho he
  subst ht
  obtain ⟨hys1, hys2⟩ := X9 hys
  rw [Yu] at hys1 hys2
  have hlen : ys.length = m + 1 := by
   rw [hys1]; simp at hys2 ⊢; omega
  have hcell : ∀ j x, ys[j]? = some x -> ∃ y, w.cell? ⟨en.blk, en.dl + off + j, none⟩ = some y /\ Xj μ x y := by
   intro j x hj
   rw [hys1, List.getElem?_take] at hj
   split at hj
   ·rw [List.getElem?_drop] at hj
    obtain ⟨y, hy, hr⟩ := hx (off + j) x hj
    refine ⟨y, ?_, hr⟩
    rw [cell?_of_heap ha, Nat.add_assoc]; exact hy
   ·cases hj
  have hlb := run_loadBytes2 (P := P) (μ := μ) en.blk w hl (en.dl + off) .empty hcell
  rw [hlen] at hlb
  have hroom : en.dl + off + (m + 1) <= arr.size := by
   simp at hys2; omega
  obtain ⟨hu, info, hi, hisz, _⟩ := C.ty e te hte
  have hce : P.cellsOf e = 1 := by
   unfold Program.cellsOf
   rw [hi]
   simp [hisz, hsz]
  have hlies : liesAt P P.depth g.ty (arr.size / P.cellsOf g.ty) (en.dl + off) e (m + 1) = true := by
   rw [hty, hce]
   have hd : P.depth = (2 * (P.types.size + Made.depth) + 1) + 1 := rfl
   rw [hd]
   simp only [liesAt, Bool.or_eq_true]
   left
   rw [hd]
   simp [rowAt, hce, sameLayout]
   exact .inl ⟨Nat.mod_one _, hroom⟩
  have hshape := shape?_of_heap ha
  have hneg : ¬ ((m + 1 : Nat) : Int) < 0 := by omega
  have hmax : IntKind.i64.max = 9223372036854775807 := rfl
  have h63 : ¬ (9223372036854775807 : Int) < ((m + 1 : Nat) : Int) := by omega
  have h0 : ¬ ((m + 1 : Nat) : Int) = 0 := by omega
  have hdef : Builtin.unsafeString_ #[pt, it] rt #[.pointer (some ⟨en.blk, en.dl + off, none⟩), .int .i64 ((m + 1 : Nat) : Int)] =
    (do
     let n ← asInt (.int .i64 ((m + 1 : Nat) : Int))
     if n < 0 then runtimePanic (.error "unsafe.String: len out of range")
     if n > IntKind.i64.max then unsupported (.unsafePointer "String: a length above the largest int")
     if n = 0 then pure (.string .empty)
     else if ← variablesAt ⟨en.blk, en.dl + off, none⟩ (← elemOf pt) n.toNat then do
      let s ← loadBytes ⟨en.blk, en.dl + off, none⟩ .empty n.toNat
      freeze ⟨en.blk, en.dl + off, none⟩ n.toNat
      pure (.string s)
     else unsupported (.unsafePointer "String: not so many bytes at ptr")) := rfl
  have hpu := C.underlying hpt w
  have hnat : ((m + 1 : Nat) : Int).toNat = m + 1 := by omega
  have hrun : (Builtin.unsafeString_ #[pt, it] rt #[.pointer (some ⟨en.blk, en.dl + off, none⟩), .int .i64 ((m + 1 : Nat) : Int)]).run P w = .ok (.string ⟨⟨l⟩⟩) (w.freeze ⟨en.blk, en.dl + off, none⟩ (m + 1)) := by
   rw [hdef]
   simp only [asInt, asIntOf, Sem.run_bind, Sem.run_pure, Result.andThen_ok, hmax, hneg, h63, h0, if_false, gt_iff_lt, hnat, elemOf, hpu, variablesAt, run_program, run_shape]
   simp only [hshape, Sem.run_pure, Result.andThen_ok, hlies, if_true]
   rw [Sem.run_bind, hlb]
   rfl
  have hfz : (w.freeze ⟨en.blk, en.dl + off, none⟩ (m + 1)) = wr w en.blk (.cells arr g.ty (if fr.1 == fr.2 then (en.dl + off, en.dl + off + (m + 1)) else (min fr.1 (en.dl + off), max fr.2 (en.dl + off + (m + 1))))) := by
   unfold World.freeze wr
   rw [if_neg (by omega)]
   congr 1
   apply Array.ext_getElem?
   intro i
   rw [Array.getElem?_modify, Array.getElem?_setIfInBounds]
   split
   ·rename_i hi
    subst hi
    have hlt := (Array.getElem?_eq_some_iff.1 ha).1
    rw [if_pos hlt, ha]
    rfl
   ·rfl
  refine ⟨.string ⟨⟨l⟩⟩, _, μ, hrun, Mu.Ext.refl _ μ, ?_, .string _, ?_, ?_⟩
  ·rw [hfz]
   have famL : ∀ k ys g', A.heap.get k = some (.cells ys (.grown g')) -> g'.fam = g.fam -> k ∈ famOf A g.fam := by
    intro k ys g' hk' hf
    obtain ⟨_, l, hl, hm⟩ := R.memb k ys g' hk'
    unfold famOf
    rw [← hf, hl]; exact hm
   refine ⟨by simpa using R.base, ?_, ?_, R.sep, ?_, fun k o hk => R.live k o (killF_sub hk)⟩
   ·intro k o ek hk hek
    have hk0 := killF_sub hk
    have hob := R.obj k o ek hk0 hek
    refine hob.mono (Mu.Le.refl μ) (wr_other ?_ _)
    intro hblk
    rcases R.sep k b ek en hek he hblk with hc | ⟨g1, g2, q1, q2, q3, _⟩
    ·subst hc
     rw [ho] at hk0; injection hk0 with hk0; subst hk0
     exact killF_gone (famL _ _ _ ho rfl) hk rfl
    ·rw [h1] at q2; injection q2 with q2; subst q2
     cases o with
     | cells zs kd =>
      cases kd with
      | fixed ro => rw [hob.1] at q1; cases q1
      | seen => exact absurd hob.1 (by rw [hblk]; exact Nat.not_lt.2 hB)
      | grown g3 =>
       rw [hob.1] at q1; injection q1 with q1; subst q1
       exact killF_gone (famL _ _ _ hk0 q3) hk q3
     | _ => rw [hob.1] at q1; cases q1
   ·intro k ek hek
    have := R.dom k ek hek
    exact ⟨this.1, by simpa using this.2.1, this.2.2⟩
   ·intro k zs g' hk
    exact R.memb k zs g' (killF_sub hk)
  ·rw [hfz]; exact Below_wr hB _
  ·exact ⟨Nat.le_refl _, fun k o _ hk hng => killF_same hk hng⟩
 ·cases h
end
end
end
end Go.Proofs.YtckflfichfnclaaGreatDoor.Sim
