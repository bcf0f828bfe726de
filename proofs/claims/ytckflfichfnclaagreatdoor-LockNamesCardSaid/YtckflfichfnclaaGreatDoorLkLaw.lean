/- fencepostlaw24.LockNames: (first part, the law itself) called from whatever start fits, and with whatever arguments, it returns true, and what was there reads as it did; the listed variables of packages are tied to the program's text. Condition: the listed variables of packages read as their packages lay them (the card ties that). -/
import Derived.Test.YtckflfichfnclaaGreatDoorRows
import Derived.Test.YtckflfichfnclaaGreatDoorLkFin
import Derived.ProofKit
import Derived.ChangeSame
import Derived.ChangeVars
import Derived.JoinedOf
import Derived.LaidLaws
import Derived.LaidHandle
import Derived.LaidSub
import Derived.MakeChecks
import Derived.OpenShut
import Derived.Lay
import Derived.Carry
import Derived.ChangeMaps5
import Derived.Stop.Joined
import Derived.SevenTiedAt
namespace Go.Proofs.YtckflfichfnclaaGreatDoor
open Go Go.ChangeShapes Go.WideShapes Go.ChangeAt Go.RowKit
set_option maxRecDepth 100000

/-- A row of integers, each of one cell, out of its reading. -/
theorem row_core {P : Program} {W : World} {k : IntKind} {ns : List Int} {e m f : Nat} {cs : List Value} {xs : List (DataW Unit × List MemPlace)} (he : P.underlying e = some (.int k)) (hlen : cs.length = m) (hn : xs.length = m)
    (hx : (ns.map fun x => (DataW.lit (.int k x) : DataW Unit)) = xs.map (·.1)) (hel : ∀ i, i < m → DataW.trod (fun _ => ()) P W 0 (fun _ => true) false f e ((cs.drop i).take 1) = xs[i]?) : cs = ns.map (.int k) := by
  have hl2 : ns.length = m := by rw [← hn, ← List.length_map (f := fun x => (DataW.lit (.int k x) : DataW Unit)), hx, List.length_map]
  apply List.ext_getElem?
  intro i
  rcases Nat.lt_or_ge i m with hi | hi
  · have h1 := hel i hi
    have hx1 : i < xs.length := by omega
    rw [List.getElem?_eq_getElem hx1] at h1
    obtain ⟨v, e1, e2, _⟩ := DataW.trod_int he h1
    have hc1 : cs[i]? = some (.int k v) := by
      have := congrArg (fun l => l[0]?) e1
      simpa using this
    have hn1 : (ns.map fun x => (DataW.lit (.int k x) : DataW Unit))[i]? = some (.lit (.int k v)) := by
      rw [hx, List.getElem?_map, List.getElem?_eq_getElem hx1, Option.map_some, e2]
    rw [List.getElem?_map, List.getElem?_eq_getElem (by omega), Option.map_some] at hn1
    injection hn1 with hn1
    injection hn1 with hn1
    injection hn1 with _ hn1
    rw [hc1, List.getElem?_map, List.getElem?_eq_getElem (by omega), Option.map_some, hn1]
  · rw [List.getElem?_eq_none (by rw [hlen]; exact hi), List.getElem?_eq_none (by rw [List.length_map, hl2]; exact hi)]

/-- A listed variable's one block and its reading. -/
theorem laid_one {P : Program} {W : World} {n : String} {d : DataW Unit} {g t : Nat} (h : laidMet P [(n, d)] W) (hg : P.globalNamed n = some g) (ht : (P.globals[g]?).map (·.type) = some t) :
    ∃ (arr : Array Value) (ty : TypeId) (fr : Nat × Nat) (fuel : Nat) (p : List MemPlace), W.heap[g]? = some (.cells arr ty fr) ∧ DataW.trod (fun _ => ()) P W 0 (fun _ => true) false fuel t arr.toList = some (d, p) := by
  obtain ⟨ps, ⟨g0, t0, cs0, f0, p0, q0, hg0, ht0, hv0, hd0, _, _⟩, _, _⟩ := h
  obtain rfl := Option.some.inj (hg.symm.trans hg0)
  obtain rfl := Option.some.inj (ht.symm.trans ht0)
  have hcell : ∃ (ty : TypeId) (fr : Nat × Nat), W.heap[g]? = some (.cells cs0 ty fr) := by
    unfold World.var? at hv0
    rw [hg] at hv0
    simp only [Option.bind_some] at hv0
    split at hv0
    · rename_i cs ty fr hh
      injection hv0 with hv0; subst hv0
      exact ⟨ty, fr, hh⟩
    · cases hv0
  obtain ⟨ty, fr, hh⟩ := hcell
  exact ⟨cs0, ty, fr, f0, p0, hh, hd0⟩

/-- A listed table of integers: its cells. -/
theorem laid_row {P : Program} {W : World} {n : String} {k : IntKind} {ns : List Int} {g t e m : Nat} (h : laidMet P [(n, .agg (ns.map fun x => .lit (.int k x)))] W) (hg : P.globalNamed n = some g)
    (ht : (P.globals[g]?).map (·.type) = some t) (hu : P.underlying t = some (.array m e)) (he : P.underlying e = some (.int k)) (hc : P.cellsOf e = 1) (hct : P.cellsOf t = m) :
    ∃ (arr : Array Value) (ty : TypeId) (fr : Nat × Nat), W.heap[g]? = some (.cells arr ty fr) ∧ arr.toList = ns.map (.int k) := by
  obtain ⟨arr, ty, fr, fuel, p, hh, hd0⟩ := laid_one h hg ht
  refine ⟨arr, ty, fr, hh, ?_⟩
  obtain ⟨xs, m1, _, hx, hlen, hn, hel⟩ := DataW.trod_array hu hd0
  injection hx with hx _
  injection hx with hx
  rw [hc] at hel
  exact row_core he (by rw [hlen, hct]) hn hx (fun i hi => by have := hel i hi; rwa [Nat.mul_one] at this)

/-- A listed struct whose fields are integers: its cells. -/
theorem laid_struct {P : Program} {W : World} {n : String} {k : IntKind} {ns : List Int} {g t e m : Nat} {fs : Array Field} (h : laidMet P [(n, .agg (ns.map fun x => .lit (.int k x)))] W) (hg : P.globalNamed n = some g)
    (ht : (P.globals[g]?).map (·.type) = some t) (hu : P.underlying t = some (.struct fs)) (hfs : (fs.toList.map fun f => (f.type, f.offset)) = (List.range m).map fun i => (e, i)) (he : P.underlying e = some (.int k)) (hc : P.cellsOf e = 1) (hct : P.cellsOf t = m) :
    ∃ (arr : Array Value) (ty : TypeId) (fr : Nat × Nat), W.heap[g]? = some (.cells arr ty fr) ∧ arr.toList = ns.map (.int k) := by
  obtain ⟨arr, ty, fr, fuel, p, hh, hd0⟩ := laid_one h hg ht
  refine ⟨arr, ty, fr, hh, ?_⟩
  obtain ⟨xs, m1, _, hx, hlen, hn, hel⟩ := DataW.trod_struct hu hd0
  injection hx with hx _
  injection hx with hx
  have hsz : fs.size = m := by
    have := congrArg List.length hfs
    simpa using this
  refine row_core (W := W) (f := m1) he (by rw [hlen, hct]) (by rw [hn, hsz]) hx (fun i hi => ?_)
  have hi' : i < fs.size := by omega
  have h1 := hel i fs[i] (Array.getElem?_eq_getElem hi')
  have h2 := congrArg (fun l => l[i]?) hfs
  simp only [List.getElem?_map, List.getElem?_range hi, Option.map_some, Array.getElem?_toList, Array.getElem?_eq_getElem hi'] at h2
  injection h2 with h2
  injection h2 with h2 h3
  rw [h2, h3, hc] at h1
  exact h1

/-- A variable of an interface's type has one cell. -/
theorem trod_iface_one {P : Program} {W : World} {t f : Nat} {ms : Array (String × TypeId)} {cs : List Value} {x : DataW Unit × List MemPlace} (ht : P.underlying t = some (.interface ms)) (h : DataW.trod (fun _ => ()) P W 0 (fun _ => true) false f t cs = some x) : ∃ v, cs = [v] ∧ v.oneCell' = true := by
  cases f with
  | zero => simp [DataW.trod] at h
  | succ f =>
    simp only [DataW.trod, ht] at h
    split at h <;> first
      | exact ⟨_, rfl, rfl⟩
      | simp_all

/-- The numbers of a block's cells. -/
def numsOf (o : Sim.Xg) : List Int := match o with | .cells l _ => l.map (fun v => match v with | .int _ x => x | _ => 0) | _ => []
def cellsOfO (o : Sim.Xg) : List Value := match o with | .cells l _ => l | _ => []

theorem own : ownKnob Tryz.prog.godebug = none := by kernel_rfl
theorem noInit : Tryz.prog.inits.idxOf? 3 = none := by kernel_rfl
theorem laidOut : laidOutB Tryz.prog = true := by kernel_rfl

theorem cells0 {W : World} (h : laidMetH Tryz.prog Rows.lockNamesRow.laid W) : ∃ (arr : Array Value) (ty : TypeId) (fr : Nat × Nat), W.heap[0]? = some (.cells arr ty fr) ∧ Sim.gl0 = .cells arr.toList (.fixed true) := by
  have h1 := h.filter (fun x => x.1 == "strings.asciiSpace")
  have e1 : (Rows.lockNamesRow.laid.filter fun x => x.1 == "strings.asciiSpace") = [("strings.asciiSpace", .agg ((numsOf Sim.gl0).map fun x => .lit (.int .u8 x)))] := by kernel_rfl
  rw [e1, MakeChecks.laidMetH_plain _ _ _ (by kernel_rfl)] at h1
  obtain ⟨arr, ty, fr, a, b⟩ := laid_row h1 (g := 0) (t := 311) (e := 5) (m := 256) (by kernel_rfl) (by kernel_rfl) (by kernel_rfl) (by kernel_rfl) (by kernel_rfl) (by kernel_rfl)
  exact ⟨arr, ty, fr, a, by rw [b]; kernel_rfl⟩
theorem closed0 : Sim.allB Sim.Xw (cellsOfO Sim.gl0) = true := by kernel_rfl

theorem cells5 {W : World} (h : laidMetH Tryz.prog Rows.lockNamesRow.laid W) : ∃ (arr : Array Value) (ty : TypeId) (fr : Nat × Nat), W.heap[5]? = some (.cells arr ty fr) ∧ Sim.gl5 = .cells arr.toList (.fixed true) := by
  have h1 := h.filter (fun x => x.1 == "math/bits.deBruijn32tab")
  have e1 : (Rows.lockNamesRow.laid.filter fun x => x.1 == "math/bits.deBruijn32tab") = [("math/bits.deBruijn32tab", .agg ((numsOf Sim.gl5).map fun x => .lit (.int .u8 x)))] := by kernel_rfl
  rw [e1, MakeChecks.laidMetH_plain _ _ _ (by kernel_rfl)] at h1
  obtain ⟨arr, ty, fr, a, b⟩ := laid_row h1 (g := 5) (t := 412) (e := 5) (m := 32) (by kernel_rfl) (by kernel_rfl) (by kernel_rfl) (by kernel_rfl) (by kernel_rfl) (by kernel_rfl)
  exact ⟨arr, ty, fr, a, by rw [b]; kernel_rfl⟩
theorem closed5 : Sim.allB Sim.Xw (cellsOfO Sim.gl5) = true := by kernel_rfl

theorem cells6 {W : World} (h : laidMetH Tryz.prog Rows.lockNamesRow.laid W) : ∃ (arr : Array Value) (ty : TypeId) (fr : Nat × Nat), W.heap[6]? = some (.cells arr ty fr) ∧ Sim.gl6 = .cells arr.toList (.fixed true) := by
  have h1 := h.filter (fun x => x.1 == "math/bits.deBruijn64tab")
  have e1 : (Rows.lockNamesRow.laid.filter fun x => x.1 == "math/bits.deBruijn64tab") = [("math/bits.deBruijn64tab", .agg ((numsOf Sim.gl6).map fun x => .lit (.int .u8 x)))] := by kernel_rfl
  rw [e1, MakeChecks.laidMetH_plain _ _ _ (by kernel_rfl)] at h1
  obtain ⟨arr, ty, fr, a, b⟩ := laid_row h1 (g := 6) (t := 413) (e := 5) (m := 64) (by kernel_rfl) (by kernel_rfl) (by kernel_rfl) (by kernel_rfl) (by kernel_rfl) (by kernel_rfl)
  exact ⟨arr, ty, fr, a, by rw [b]; kernel_rfl⟩
theorem closed6 : Sim.allB Sim.Xw (cellsOfO Sim.gl6) = true := by kernel_rfl

def dd7 : DataW Unit := match Rows.lockNamesRow.laid.filter fun x => x.1 == "strconv.ErrSyntax" with | [x] => x.2 | _ => .nil
theorem cells7 {W : World} (h : laidMetH Tryz.prog Rows.lockNamesRow.laid W) : ∃ (arr : Array Value) (ty : TypeId) (fr : Nat × Nat) (v : Value), W.heap[7]? = some (.cells arr ty fr) ∧ arr.toList = [v] ∧ v.oneCell' = true := by
  have h1 := h.filter (fun x => x.1 == "strconv.ErrSyntax")
  have e1 : (Rows.lockNamesRow.laid.filter fun x => x.1 == "strconv.ErrSyntax") = [("strconv.ErrSyntax", dd7)] := by kernel_rfl
  rw [e1, MakeChecks.laidMetH_plain _ _ _ (by kernel_rfl)] at h1
  obtain ⟨arr, ty, fr, fuel, p, a, b⟩ := laid_one h1 (g := 7) (t := 362) (by kernel_rfl) (by kernel_rfl)
  obtain ⟨v, hv, h1⟩ := trod_iface_one Tryz.underlying362 b
  exact ⟨arr, ty, fr, v, a, hv, h1⟩

def dd8 : DataW Unit := match Rows.lockNamesRow.laid.filter fun x => x.1 == "strconv.ErrRange" with | [x] => x.2 | _ => .nil
theorem cells8 {W : World} (h : laidMetH Tryz.prog Rows.lockNamesRow.laid W) : ∃ (arr : Array Value) (ty : TypeId) (fr : Nat × Nat) (v : Value), W.heap[8]? = some (.cells arr ty fr) ∧ arr.toList = [v] ∧ v.oneCell' = true := by
  have h1 := h.filter (fun x => x.1 == "strconv.ErrRange")
  have e1 : (Rows.lockNamesRow.laid.filter fun x => x.1 == "strconv.ErrRange") = [("strconv.ErrRange", dd8)] := by kernel_rfl
  rw [e1, MakeChecks.laidMetH_plain _ _ _ (by kernel_rfl)] at h1
  obtain ⟨arr, ty, fr, fuel, p, a, b⟩ := laid_one h1 (g := 8) (t := 362) (by kernel_rfl) (by kernel_rfl)
  obtain ⟨v, hv, h1⟩ := trod_iface_one Tryz.underlying362 b
  exact ⟨arr, ty, fr, v, a, hv, h1⟩

/-- How the machine's memory stands to the world in which the call begins. -/
def mu0 : Sim.Mu := fun b => if b < 9 then some ⟨b, 0, none, 0⟩ else none
theorem rel0 {W : World} (h : laidMetH Tryz.prog Rows.lockNamesRow.laid W) : Sim.Xs mu0 W.heap.size (Sim.zs0).A W.heap := by
  obtain ⟨arr0, ty0, fr0, hh0, hg0⟩ := cells0 h
  obtain ⟨arr5, ty5, fr5, hh5, hg5⟩ := cells5 h
  obtain ⟨arr6, ty6, fr6, hh6, hg6⟩ := cells6 h
  obtain ⟨arr7, ty7, fr7, v7, hh7, hl7, ho7⟩ := cells7 h
  have hg7 : Sim.gl7 = .cells [Sim.vx] (.fixed true) := rfl
  obtain ⟨arr8, ty8, fr8, v8, hh8, hl8, ho8⟩ := cells8 h
  have hg8 : Sim.gl8 = .cells [Sim.vx] (.fixed true) := rfl
  have hsz : 8 < W.heap.size := (Array.getElem?_eq_some_iff.1 hh8).1
  have hA : (Sim.zs0).A = ⟨Sim.Xa Sim.zh0, 11, Sim.Xa Sim.zg0⟩ := rfl
  have hget : ∀ {b : Nat} {o : Sim.Xg}, (Sim.Xa Sim.zh0).get b = some o → (b = 0 ∧ o = Sim.gl0) ∨ (b = 5 ∧ o = Sim.gl5) ∨ (b = 6 ∧ o = Sim.gl6) ∨ (b = 7 ∧ o = Sim.gl7) ∨ (b = 8 ∧ o = Sim.gl8) := by
    intro b o ho
    refine Sim.tput_get (Q := fun b o => (b = 0 ∧ o = Sim.gl0) ∨ (b = 5 ∧ o = Sim.gl5) ∨ (b = 6 ∧ o = Sim.gl6) ∨ (b = 7 ∧ o = Sim.gl7) ∨ (b = 8 ∧ o = Sim.gl8)) (fun p hp => ?_) ho
    have hp : p ∈ [(0, Sim.gl0), (5, Sim.gl5), (6, Sim.gl6), (7, Sim.gl7), (8, Sim.gl8)] := hp
    simp only [List.mem_cons, List.mem_nil_iff, or_false] at hp
    rcases hp with rfl | rfl | rfl | rfl | rfl
    · exact .inl ⟨rfl, rfl⟩
    · exact .inr (.inl ⟨rfl, rfl⟩)
    · exact .inr (.inr (.inl ⟨rfl, rfl⟩))
    · exact .inr (.inr (.inr (.inl ⟨rfl, rfl⟩)))
    · exact .inr (.inr (.inr (.inr (⟨rfl, rfl⟩))))
  have hmu : ∀ {b : Nat} {e : Sim.Ent}, mu0 b = some e → b < 9 ∧ e = ⟨b, 0, none, 0⟩ := by
    intro b e he
    unfold mu0 at he
    split at he
    · rename_i hb
      injection he with he
      exact ⟨hb, he.symm⟩
    · cases he
  rw [hA]
  refine ⟨Nat.le_refl _, ?_, ?_, ?_, ?_, ?_⟩
  · intro b o e ho he
    obtain ⟨_, rfl⟩ := hmu he
    have hcell : ∀ {arr : Array Value} {ty : TypeId} {fr : Nat × Nat}, W.heap[b]? = some (.cells arr ty fr) → Sim.allB Sim.Xw arr.toList = true → Sim.ORel mu0 W.heap.size W.heap ⟨b, 0, none, 0⟩ (.cells arr.toList (.fixed true)) := by
      intro arr ty fr hh hc
      refine ⟨rfl, arr, ty, fr, hh, ⟨rfl, ?_⟩, fun hc => by cases hc⟩
      intro i x y hx hy
      rw [hx] at hy; injection hy with hy; subst hy
      exact Sim.YK (Sim.allB_ok hc x (List.mem_of_getElem? hx)) _
    rcases hget ho with ⟨rfl, rfl⟩ | ⟨rfl, rfl⟩ | ⟨rfl, rfl⟩ | ⟨rfl, rfl⟩ | ⟨rfl, rfl⟩
    · have hc := closed0
      rw [hg0] at hc ⊢
      exact hcell hh0 hc
    · have hc := closed5
      rw [hg5] at hc ⊢
      exact hcell hh5 hc
    · have hc := closed6
      rw [hg6] at hc ⊢
      exact hcell hh6 hc
    · exact ⟨rfl, arr7, ty7, fr7, hh7, by rw [hl7]; exact .cons (.any ho7) .nil, fun hc => by cases hc⟩
    · exact ⟨rfl, arr8, ty8, fr8, hh8, by rw [hl8]; exact .cons (.any ho8) .nil, fun hc => by cases hc⟩
  · intro b e he
    obtain ⟨hb, rfl⟩ := hmu he
    exact ⟨Nat.lt_trans hb (by show 9 < 11; decide), by show b < W.heap.size; omega, fun _ => rfl, fun g hg => by cases hg⟩
  · intro b b' e e' he he' hbb
    obtain ⟨_, rfl⟩ := hmu he
    obtain ⟨_, rfl⟩ := hmu he'
    exact .inl hbb
  · intro b xs g ho
    rcases hget ho with ⟨_, h2⟩ | ⟨_, h2⟩ | ⟨_, h2⟩ | ⟨_, h2⟩ | ⟨_, h2⟩
    · rw [hg0] at h2; cases h2
    · rw [hg5] at h2; cases h2
    · rw [hg6] at h2; cases h2
    · rw [hg7] at h2; cases h2
    · rw [hg8] at h2; cases h2
  · intro b o ho
    rcases hget ho with ⟨rfl, _⟩ | ⟨rfl, _⟩ | ⟨rfl, _⟩ | ⟨rfl, _⟩ | ⟨rfl, _⟩
    · show 0 < 11; decide
    · show 5 < 11; decide
    · show 6 < 11; decide
    · show 7 < 11; decide
    · show 8 < 11; decide

theorem law {W : World} (h : laidMetH Tryz.prog Rows.lockNamesRow.laid W) : Calls Tryz.prog 3 #[] W fun e W' => e = .returned (.bool true) ∧ Below W.heap.size W W' := by
  have c := Sim.open_calls Sim.cert (rel0 h) ⟨fun g hg => by
    have hg : g < 9 := hg
    unfold mu0
    rw [if_pos hg], fun b e hb => by cases hb⟩ (f := 3) (v := Sim.vt) (args := []) (args' := #[]) (.nil) (fr := (Sim.zs0).fr) (by kernel_rfl) (Sim.fin)
  refine c.mono fun e W' ⟨μ, v, he, hv, hb⟩ => ⟨?_, hb⟩
  subst he
  have hv : Sim.Xj μ (.bool true) v := hv
  cases hv
  rfl

theorem lifted (os : Os) (started : os.Started) (H : Type) (enc : TypeId × Value → H) :
    ReturnsInHanded {} Tryz.checked os 3 .any (fun w args => (Rows.lockNamesSpec.pre enc Tryz.prog Tryz.f3 [] false w args ∧ laidMetH Tryz.prog Rows.lockNamesRow.laid w) ∧ sizedMet enc Tryz.prog Tryz.f3 (OpenSpec.ofChange Rows.lockNamesSpec) false w args)
      (Rows.lockNamesSpec.post enc Tryz.prog Tryz.f3 false true false false) := by
  refine returnsInHanded_of_change_and (C := Tryz.checked) (X := fun w _ => laidMetH Tryz.prog Rows.lockNamesRow.laid w) (fun _ _ _ hh h => h.of_heap hh) own started noInit Tryz.func3
    (ChangeSpec.witness_shaped (enc := enc) (C := Tryz.checked) (os := os) (X := fun w _ => laidMetH Tryz.prog Rows.lockNamesRow.laid w) false (World.laidAll Tryz.prog os Rows.lockNamesRow.laid) #[] 8 (World.laidAll_os _ _ _)
      (World.shaped_of_ZipB (by kernel_rfl) (by kernel_rfl)) (by kernel_rfl) (by kernel_rfl) (by kernel_rfl)
      (by rw [MakeChecks.laidMetH_plain _ _ _ (by kernel_rfl)]; exact laidMet_laidAll _ (by kernel_rfl) (by kernel_rfl))) ?_
  intro W base args ds gs X2 hval0 hW _ _ hL _
  have hW' := hW
  obtain ⟨p, q, hA0, hV, rfl, _, _⟩ := hW
  have hA : DataW.TrodAll enc Tryz.prog W 0 (fun _ => true) true Tryz.f3.params.toList args.toList ds p := hA0
  rw [Tryz.params3] at hA
  obtain ⟨rfl, rfl, rfl⟩ := trodAll_none hA
  obtain ⟨rfl, rfl⟩ := trodVars_none hV
  refine (law hL).mono fun e W' ⟨he, hb⟩ => ?_
  subst he
  exact ⟨_, rfl, _, _, _, [], [], [], hW', trodAll_mk1 (shut_bool Tryz.underlying4 _), rfl, rfl, hb.frame _, fun h => by cases h⟩

end Go.Proofs.YtckflfichfnclaaGreatDoor
