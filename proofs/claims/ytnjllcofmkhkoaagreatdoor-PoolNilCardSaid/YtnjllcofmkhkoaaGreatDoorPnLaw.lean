/- fencepostlaw23.PoolNil: called from whatever start fits, and with whatever arguments, it returns true, and what was there reads as it did; the listed variables of packages are tied to the program's text. Condition: the listed variables of packages read as their packages lay them (the card ties that). -/
import Derived.Test.YtnjllcofmkhkoaaGreatDoorCards
import Derived.Test.YtnjllcofmkhkoaaGreatDoorTie
import Derived.Test.YtnjllcofmkhkoaaGreatDoorPnFin
import Derived.ProofKit
import Derived.ChangeSame
import Derived.ChangeVars
import Derived.JoinedOf
import Derived.LaidLaws
import Derived.LaidHandle
import Derived.LaidSub
import Derived.MakeChecks
import Derived.OpenShut
import Derived.Lay
import Derived.Carry
import Derived.ChangeMaps5
import Derived.Stop.Joined
import Derived.SevenTiedAt
namespace Go.Proofs.YtnjllcofmkhkoaaGreatDoor
open Go Go.ChangeShapes Go.WideShapes Go.ChangeAt Go.RowKit
set_option maxRecDepth 100000

/-- A row of integers, each of one cell, out of its reading. -/
theorem row_core {P : Program} {W : World} {k : IntKind} {ns : List Int} {e m f : Nat} {cs : List Value} {xs : List (DataW Unit × List MemPlace)} (he : P.underlying e = some (.int k)) (hlen : cs.length = m) (hn : xs.length = m)
    (hx : (ns.map fun x => (DataW.lit (.int k x) : DataW Unit)) = xs.map (·.1)) (hel : ∀ i, i < m → DataW.trod (fun _ => ()) P W 0 (fun _ => true) false f e ((cs.drop i).take 1) = xs[i]?) : cs = ns.map (.int k) := by
  have hl2 : ns.length = m := by rw [← hn, ← List.length_map (f := fun x => (DataW.lit (.int k x) : DataW Unit)), hx, List.length_map]
  apply List.ext_getElem?
  intro i
  rcases Nat.lt_or_ge i m with hi | hi
  · have h1 := hel i hi
    have hx1 : i < xs.length := by omega
    rw [List.getElem?_eq_getElem hx1] at h1
    obtain ⟨v, e1, e2, _⟩ := DataW.trod_int he h1
    have hc1 : cs[i]? = some (.int k v) := by
      have := congrArg (fun l => l[0]?) e1
      simpa using this
    have hn1 : (ns.map fun x => (DataW.lit (.int k x) : DataW Unit))[i]? = some (.lit (.int k v)) := by
      rw [hx, List.getElem?_map, List.getElem?_eq_getElem hx1, Option.map_some, e2]
    rw [List.getElem?_map, List.getElem?_eq_getElem (by omega), Option.map_some] at hn1
    injection hn1 with hn1
    injection hn1 with hn1
    injection hn1 with _ hn1
    rw [hc1, List.getElem?_map, List.getElem?_eq_getElem (by omega), Option.map_some, hn1]
  · rw [List.getElem?_eq_none (by rw [hlen]; exact hi), List.getElem?_eq_none (by rw [List.length_map, hl2]; exact hi)]

/-- A listed variable's one block and its reading. -/
theorem laid_one {P : Program} {W : World} {n : String} {d : DataW Unit} {g t : Nat} (h : laidMet P [(n, d)] W) (hg : P.globalNamed n = some g) (ht : (P.globals[g]?).map (·.type) = some t) :
    ∃ (arr : Array Value) (ty : TypeId) (fr : Nat × Nat) (fuel : Nat) (p : List MemPlace), W.heap[g]? = some (.cells arr ty fr) ∧ DataW.trod (fun _ => ()) P W 0 (fun _ => true) false fuel t arr.toList = some (d, p) := by
  obtain ⟨ps, ⟨g0, t0, cs0, f0, p0, q0, hg0, ht0, hv0, hd0, _, _⟩, _, _⟩ := h
  obtain rfl := Option.some.inj (hg.symm.trans hg0)
  obtain rfl := Option.some.inj (ht.symm.trans ht0)
  have hcell : ∃ (ty : TypeId) (fr : Nat × Nat), W.heap[g]? = some (.cells cs0 ty fr) := by
    unfold World.var? at hv0
    rw [hg] at hv0
    simp only [Option.bind_some] at hv0
    split at hv0
    · rename_i cs ty fr hh
      injection hv0 with hv0; subst hv0
      exact ⟨ty, fr, hh⟩
    · cases hv0
  obtain ⟨ty, fr, hh⟩ := hcell
  exact ⟨cs0, ty, fr, f0, p0, hh, hd0⟩

/-- A listed table of integers: its cells. -/
theorem laid_row {P : Program} {W : World} {n : String} {k : IntKind} {ns : List Int} {g t e m : Nat} (h : laidMet P [(n, .agg (ns.map fun x => .lit (.int k x)))] W) (hg : P.globalNamed n = some g)
    (ht : (P.globals[g]?).map (·.type) = some t) (hu : P.underlying t = some (.array m e)) (he : P.underlying e = some (.int k)) (hc : P.cellsOf e = 1) (hct : P.cellsOf t = m) :
    ∃ (arr : Array Value) (ty : TypeId) (fr : Nat × Nat), W.heap[g]? = some (.cells arr ty fr) ∧ arr.toList = ns.map (.int k) := by
  obtain ⟨arr, ty, fr, fuel, p, hh, hd0⟩ := laid_one h hg ht
  refine ⟨arr, ty, fr, hh, ?_⟩
  obtain ⟨xs, m1, _, hx, hlen, hn, hel⟩ := DataW.trod_array hu hd0
  injection hx with hx _
  injection hx with hx
  rw [hc] at hel
  exact row_core he (by rw [hlen, hct]) hn hx (fun i hi => by have := hel i hi; rwa [Nat.mul_one] at this)

/-- A listed struct whose fields are integers: its cells. -/
theorem laid_struct {P : Program} {W : World} {n : String} {k : IntKind} {ns : List Int} {g t e m : Nat} {fs : Array Field} (h : laidMet P [(n, .agg (ns.map fun x => .lit (.int k x)))] W) (hg : P.globalNamed n = some g)
    (ht : (P.globals[g]?).map (·.type) = some t) (hu : P.underlying t = some (.struct fs)) (hfs : (fs.toList.map fun f => (f.type, f.offset)) = (List.range m).map fun i => (e, i)) (he : P.underlying e = some (.int k)) (hc : P.cellsOf e = 1) (hct : P.cellsOf t = m) :
    ∃ (arr : Array Value) (ty : TypeId) (fr : Nat × Nat), W.heap[g]? = some (.cells arr ty fr) ∧ arr.toList = ns.map (.int k) := by
  obtain ⟨arr, ty, fr, fuel, p, hh, hd0⟩ := laid_one h hg ht
  refine ⟨arr, ty, fr, hh, ?_⟩
  obtain ⟨xs, m1, _, hx, hlen, hn, hel⟩ := DataW.trod_struct hu hd0
  injection hx with hx _
  injection hx with hx
  have hsz : fs.size = m := by
    have := congrArg List.length hfs
    simpa using this
  refine row_core (W := W) (f := m1) he (by rw [hlen, hct]) (by rw [hn, hsz]) hx (fun i hi => ?_)
  have hi' : i < fs.size := by omega
  have h1 := hel i fs[i] (Array.getElem?_eq_getElem hi')
  have h2 := congrArg (fun l => l[i]?) hfs
  simp only [List.getElem?_map, List.getElem?_range hi, Option.map_some, Array.getElem?_toList, Array.getElem?_eq_getElem hi'] at h2
  injection h2 with h2
  injection h2 with h2 h3
  rw [h2, h3, hc] at h1
  exact h1

/-- The numbers of a block's cells. -/
def numsOf (o : Sim.AObj) : List Int := match o with | .cells l _ => l.map (fun v => match v with | .int _ x => x | _ => 0) | _ => []
def cellsOfO (o : Sim.AObj) : List Value := match o with | .cells l _ => l | _ => []

theorem own : ownKnob Tryz.prog.godebug = none := by kernel_rfl
theorem noInit : Tryz.prog.inits.idxOf? 3 = none := by kernel_rfl
theorem laidOut : laidOutB Tryz.prog = true := by kernel_rfl

theorem cells0 {W : World} (h : laidMetH Tryz.prog Rows.poolNilRow.laid W) : ∃ (arr : Array Value) (ty : TypeId) (fr : Nat × Nat), W.heap[0]? = some (.cells arr ty fr) ∧ Sim.gl0 = .cells arr.toList (.fixed true) := by
  have h1 := h.filter (fun x => x.1 == "strings.asciiSpace")
  have e1 : (Rows.poolNilRow.laid.filter fun x => x.1 == "strings.asciiSpace") = [("strings.asciiSpace", .agg ((numsOf Sim.gl0).map fun x => .lit (.int .u8 x)))] := by kernel_rfl
  rw [e1, MakeChecks.laidMetH_plain _ _ _ (by kernel_rfl)] at h1
  obtain ⟨arr, ty, fr, a, b⟩ := laid_row h1 (g := 0) (t := 170) (e := 5) (m := 256) (by kernel_rfl) (by kernel_rfl) (by kernel_rfl) (by kernel_rfl) (by kernel_rfl) (by kernel_rfl)
  exact ⟨arr, ty, fr, a, by rw [b]; kernel_rfl⟩
theorem closed0 : Sim.allB Sim.closedCell (cellsOfO Sim.gl0) = true := by kernel_rfl

/-- How the machine's memory stands to the world in which the call begins. -/
def mu0 : Sim.Mu := fun b => if b < 1 then some ⟨b, 0, none, 0⟩ else none
theorem rel0 {W : World} (h : laidMetH Tryz.prog Rows.poolNilRow.laid W) (x1 x2 x3 : Int) (x4 : ByteArray) (x5 x6 : Int) : Sim.MRel mu0 W.heap.size (Sim.s0 x1 x2 x3 x4 x5 x6).A W.heap := by
  obtain ⟨arr0, ty0, fr0, hh0, hg0⟩ := cells0 h
  have hsz : 0 < W.heap.size := (Array.getElem?_eq_some_iff.1 hh0).1
  have hA : (Sim.s0 x1 x2 x3 x4 x5 x6).A = ⟨Sim.tput (Sim.h0 x1 x2 x3 x4 x5 x6), 11, Sim.tput Sim.g0⟩ := rfl
  have hget : ∀ {b : Nat} {o : Sim.AObj}, (Sim.tput (Sim.h0 x1 x2 x3 x4 x5 x6)).get b = some o → (b = 0 ∧ o = Sim.gl0) := by
    intro b o ho
    refine Sim.tput_get (Q := fun b o => (b = 0 ∧ o = Sim.gl0)) (fun p hp => ?_) ho
    have hp : p ∈ [(0, Sim.gl0)] := hp
    simp only [List.mem_cons, List.mem_nil_iff, or_false] at hp
    rcases hp with rfl
    · exact ⟨rfl, rfl⟩
  have hmu : ∀ {b : Nat} {e : Sim.Ent}, mu0 b = some e → b < 1 ∧ e = ⟨b, 0, none, 0⟩ := by
    intro b e he
    unfold mu0 at he
    split at he
    · rename_i hb
      injection he with he
      exact ⟨hb, he.symm⟩
    · cases he
  rw [hA]
  refine ⟨Nat.le_refl _, ?_, ?_, ?_, ?_, ?_⟩
  · intro b o e ho he
    obtain ⟨_, rfl⟩ := hmu he
    have hcell : ∀ {arr : Array Value} {ty : TypeId} {fr : Nat × Nat}, W.heap[b]? = some (.cells arr ty fr) → Sim.allB Sim.closedCell arr.toList = true → Sim.ORel mu0 W.heap.size W.heap ⟨b, 0, none, 0⟩ (.cells arr.toList (.fixed true)) := by
      intro arr ty fr hh hc
      refine ⟨rfl, arr, ty, fr, hh, ⟨rfl, ?_⟩, fun hc => by cases hc⟩
      intro i x y hx hy
      rw [hx] at hy; injection hy with hy; subst hy
      exact Sim.closedCell_rel (Sim.allB_ok hc x (List.mem_of_getElem? hx)) _
    rcases hget ho with ⟨rfl, rfl⟩
    · have hc := closed0
      rw [hg0] at hc ⊢
      exact hcell hh0 hc
  · intro b e he
    obtain ⟨hb, rfl⟩ := hmu he
    exact ⟨Nat.lt_trans hb (by show 1 < 11; decide), by show b < W.heap.size; omega, fun _ => rfl, fun g hg => by cases hg⟩
  · intro b b' e e' he he' hbb
    obtain ⟨_, rfl⟩ := hmu he
    obtain ⟨_, rfl⟩ := hmu he'
    exact .inl hbb
  · intro b xs g ho
    rcases hget ho with ⟨_, h2⟩
    · rw [hg0] at h2; cases h2
  · intro b o ho
    rcases hget ho with ⟨rfl, _⟩
    · show 0 < 11; decide

theorem law {W : World} (h : laidMetH Tryz.prog Rows.poolNilRow.laid W) (x1 x2 x3 : Int) (x4 : ByteArray) (x5 x6 : Int) : Calls Tryz.prog 3 #[.agg #[.int .i64 x1, .int .i64 x2, .int .i64 x3], .string x4, .int .i64 x5, .int .i64 x6] W fun e W' => e = .returned (.bool true) ∧ Below W.heap.size W W' := by
  have c := Sim.open_calls Sim.cert (rel0 h x1 x2 x3 x4 x5 x6) (fun g hg => by
    have hg : g < 1 := hg
    unfold mu0
    rw [if_pos hg]) (f := 3) (v := Sim.vt) (args := [.agg #[.int .i64 x1, .int .i64 x2, .int .i64 x3], .string x4, .int .i64 x5, .int .i64 x6]) (args' := #[.agg #[.int .i64 x1, .int .i64 x2, .int .i64 x3], .string x4, .int .i64 x5, .int .i64 x6]) (.cons (Sim.VsRel.agg (.cons (.int _ _) (.cons (.int _ _) (.cons (.int _ _) .nil)))) (.cons (.string _) (.cons (.int _ _) (.cons (.int _ _) .nil)))) (fr := (Sim.s0 x1 x2 x3 x4 x5 x6).fr) (by kernel_rfl) (Sim.fin x1 x2 x3 x4 x5 x6)
  refine c.mono fun e W' ⟨μ, v, he, hv, hb⟩ => ⟨?_, hb⟩
  subst he
  have hv : Sim.VRel μ (.bool true) v := hv
  cases hv
  rfl

/-- A struct of three integers, handed in by value. -/
theorem open_three {H : Type} {enc : TypeId × Value → H} {P : Program} {W : World} {r : Reach} {b0 : Nat} {sp : Nat → Bool} {held : Bool} {k : IntKind} {t e : TypeId} {fs : Array Field} {v : Value} {d : DataW H} {ps : List MemPlace} (ht : P.underlying t = some (.struct fs))
    (hfs : (fs.toList.map fun f => (f.type, f.offset)) = [(e, 0), (e, 1), (e, 2)]) (he : P.underlying e = some (.int k)) (hc : P.cellsOf e = 1) (hct : P.cellsOf t = 3) (hval : Value.okWide P W r b0 t v) (hd : DataW.Trod enc P W 0 sp held t v d ps) :
    ∃ x y z, v = .agg #[.int k x, .int k y, .int k z] ∧ ps = [] := by
  obtain ⟨cs, rfl, hsz⟩ := okWide_struct ht hval
  obtain ⟨fuel, hf⟩ := hd
  obtain ⟨xs, m, _, hx, _, hn, hel⟩ := DataW.trod_struct ht hf
  have hcs : (Value.agg cs).cells = cs := rfl
  rw [hcs] at hel
  rw [hct] at hsz
  have hfz : fs.size = 3 := by have := congrArg List.length hfs; simpa using this
  have one : ∀ i, i < 3 → ∃ c, cs[i]? = some (.int k c) ∧ ∃ dd, xs[i]? = some (dd, []) := by
    intro i hi
    have hi' : i < fs.size := by omega
    have h1 := hel i fs[i] (Array.getElem?_eq_getElem hi')
    have h2 : (fs.toList.map fun f => (f.type, f.offset))[i]? = some (e, i) := by
      rw [hfs]
      match i, hi with
      | 0, _ => rfl
      | 1, _ => rfl
      | 2, _ => rfl
    simp only [List.getElem?_map, Array.getElem?_toList, Array.getElem?_eq_getElem hi', Option.map_some] at h2
    injection h2 with h2
    injection h2 with h2 h3
    rw [h2, h3, hc] at h1
    have hx1 : i < xs.length := by omega
    rw [List.getElem?_eq_getElem hx1] at h1
    obtain ⟨c, e1, e2, _⟩ := DataW.trod_int he h1
    have hc1 : cs[i]? = some (.int k c) := by
      have := congrArg (fun l => l[0]?) e1
      simpa using this
    exact ⟨c, hc1, _, by rw [List.getElem?_eq_getElem hx1, e2]⟩
  obtain ⟨x, hx0, _, hd0⟩ := one 0 (by omega)
  obtain ⟨y, hx1, _, hd1⟩ := one 1 (by omega)
  obtain ⟨z, hx2, _, hd2⟩ := one 2 (by omega)
  refine ⟨x, y, z, ?_, ?_⟩
  · congr 1
    apply Array.ext_getElem?
    intro i
    match i with
    | 0 => rw [hx0]; rfl
    | 1 => rw [hx1]; rfl
    | 2 => rw [hx2]; rfl
    | i + 3 => rw [Array.getElem?_eq_none (by omega)]; rfl
  · injection hx with _ hx
    rw [hx]
    match xs, hn, hd0, hd1, hd2 with
    | [a, b, c], _, hd0, hd1, hd2 =>
      simp at hd0 hd1 hd2
      simp [hd0, hd1, hd2]
    | [], hn, _, _, _ => simp [hfz] at hn
    | [a], hn, _, _, _ => simp [hfz] at hn
    | [a, b], hn, _, _, _ => simp [hfz] at hn
    | a :: b :: c :: d :: l, hn, _, _, _ => simp [hfz] at hn

theorem lifted (os : Os) (started : os.Started) (H : Type) (enc : TypeId × Value → H) :
    ReturnsInHanded {} Tryz.checked os 3 .any (fun w args => (Rows.poolNilSpec.pre enc Tryz.prog Tryz.f3 [] false w args ∧ laidMetH Tryz.prog Rows.poolNilRow.laid w) ∧ sizedMet enc Tryz.prog Tryz.f3 (OpenSpec.ofChange Rows.poolNilSpec) false w args)
      (Rows.poolNilSpec.post enc Tryz.prog Tryz.f3 false true false false) := by
  refine returnsInHanded_of_change_and (C := Tryz.checked) (X := fun w _ => laidMetH Tryz.prog Rows.poolNilRow.laid w) (fun _ _ _ hh h => h.of_heap hh) own started noInit Tryz.func3
    (ChangeSpec.witness_shaped (enc := enc) (C := Tryz.checked) (os := os) (X := fun w _ => laidMetH Tryz.prog Rows.poolNilRow.laid w) false (World.laidAll Tryz.prog os Rows.poolNilRow.laid) #[.agg #[.int .i64 0, .int .i64 0, .int .i64 0], .string ⟨#[]⟩, .int .i64 0, .int .i64 0] 8 (World.laidAll_os _ _ _)
      (World.shaped_of_ZipB (by kernel_rfl) (by kernel_rfl)) (by kernel_rfl) (by kernel_rfl) (by kernel_rfl)
      (by rw [MakeChecks.laidMetH_plain _ _ _ (by kernel_rfl)]; exact laidMet_laidAll _ (by kernel_rfl) (by kernel_rfl))) ?_
  intro W base args ds gs before hval0 hW _ _ hL _
  have hW' := hW
  obtain ⟨p, q, hA0, hV, rfl, _, _⟩ := hW
  have hA : DataW.TrodAll enc Tryz.prog W 0 (fun _ => true) true Tryz.f3.params.toList args.toList ds p := hA0
  rw [Tryz.params3] at hA
  obtain ⟨v0, v1, v2, v3, d0, d1, d2, d3, p0, p1, p2, p3, rfl, rfl, rfl, h0, h1, h2, h3⟩ := trodAll_four hA
  obtain ⟨rfl, rfl⟩ := trodVars_none hV
  have hval : ∀ (j : Nat) t v, Tryz.f3.params[j]? = some t → (#[v0, v1, v2, v3] : Array Value)[j]? = some v → Value.okWide Tryz.prog W .any base t v := hval0
  rw [Tryz.params3] at hval
  obtain ⟨x1, x2, x3, rfl, rfl⟩ := open_three Tryz.underlying23 (by kernel_rfl) Tryz.underlying3 (by kernel_rfl) (by kernel_rfl) (hval 0 23 v0 rfl rfl) h0
  obtain ⟨x4, rfl, rfl, rfl, _⟩ := ChangeMaps.open_string Tryz.underlying9 (hval 1 9 v1 rfl rfl) h1
  obtain ⟨x5, rfl, rfl, rfl, _⟩ := open_int Tryz.underlying3 (hval 2 3 v2 rfl rfl) h2
  obtain ⟨x6, rfl, rfl, rfl, _⟩ := open_int Tryz.underlying2 (hval 3 2 v3 rfl rfl) h3
  refine (law hL x1 x2 x3 x4 x5 x6).mono fun e W' ⟨he, hb⟩ => ?_
  subst he
  exact ⟨_, rfl, _, _, _, [], [], [], hW', trodAll_mk1 (shut_bool Tryz.underlying4 _),
    trodAll_mk4 (hb.trod laidOut (by kernel_rfl) (by decide +kernel) h0 (fun x hx => by cases hx)) (hb.trod laidOut (by kernel_rfl) (by decide +kernel) h1 (fun x hx => by cases hx)) (hb.trod laidOut (by kernel_rfl) (by decide +kernel) h2 (fun x hx => by cases hx)) (hb.trod laidOut (by kernel_rfl) (by decide +kernel) h3 (fun x hx => by cases hx)), rfl, hb.frame _, fun h => by cases h⟩

theorem holds : Rows.PoolNilSaid :=
  OpenClaim.holds_of_wide 3 Tryz.f3 rfl rfl rfl rfl rfl rfl rfl ⟨rfl, rfl, rfl, rfl, rfl⟩ rfl rfl rfl rfl rfl (by kernel_rfl) Tryz.func3 (by kernel_rfl)
    (of_decide_eq_true (by kernel_rfl)) (by unfold Func.isWrapper; first | (rw [if_pos (by decide +kernel)]; kernel_rfl) | (rw [if_neg (by decide +kernel)]; exact ⟨rfl, rfl⟩))
    (fun os started H enc _ => lifted os started H enc)

theorem card_holds : Rows.PoolNilCardSaid :=
  Claim7.holds_tied_plain_at .later [] [.data, .data, .data, .data, .sentinel, .sentinel, .listed, .data, .pinned] true (true, "1dda5239665f2424f969fb552b917970b8f8e6249adead9b7e8d9a99bc9b1f86") true
    holds (fun _ h => by cases h) (by kernel_rfl) (fun _ h => by cases h) poolNil_row_tie rfl ⟨rfl, rfl⟩ (by kernel_rfl) rfl
    (fun f fn hf hfn => by
      obtain rfl : f = 3 := Option.some.inj ((show Tryz.prog.funcNamed "fencepost/fencepostlaw23.PoolNil" = some 3 by kernel_rfl).symm.trans hf) |>.symm
      obtain rfl : fn = Tryz.f3 := (Option.some.inj (Tryz.func3.symm.trans hfn)).symm
      exact ⟨by kernel_rfl, fun j t ht => by
        rw [Tryz.params3] at ht
        have hm : t ∈ [23, 9, 3, 2] := by simpa using Array.mem_of_getElem? ht
        have hall : ([23, 9, 3, 2].all fun u => !Tryz.prog.wantsStandIn u) = true := by kernel_rfl
        exact (show Tryz.prog.wantsStandIn t = false by simpa using List.all_eq_true.1 hall t hm)⟩)
    (by kernel_rfl)
#print axioms card_holds
end Go.Proofs.YtnjllcofmkhkoaaGreatDoor
