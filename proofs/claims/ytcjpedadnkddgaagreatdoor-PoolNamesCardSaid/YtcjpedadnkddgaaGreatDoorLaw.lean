/- fencepostlaw23.PoolNames: called from whatever start fits it returns true, and what was there reads as it did; the listed variables of packages are tied to the program's text. Condition: the listed variables of packages read as their packages lay them (the card ties that). -/
import Derived.Test.YtcjpedadnkddgaaGreatDoorCards
import Derived.Test.YtcjpedadnkddgaaGreatDoorTie
import Derived.Test.YtcjpedadnkddgaaGreatDoorFin
import Derived.ProofKit
import Derived.ChangeSame
import Derived.ChangeVars
import Derived.JoinedOf
import Derived.LaidLaws
import Derived.LaidHandle
import Derived.LaidSub
import Derived.MakeChecks
import Derived.OpenShut
import Derived.Lay
import Derived.Stop.Joined
import Derived.SevenTiedAt
namespace Go.Proofs.YtcjpedadnkddgaaGreatDoor
open Go Go.ChangeShapes Go.WideShapes Go.ChangeAt Go.RowKit
set_option maxRecDepth 100000

/-- A listed table of integers: its cells. -/
theorem laid_row {P : Program} {W : World} {n : String} {k : IntKind} {ns : List Int} {g t e m : Nat} (h : laidMet P [(n, .agg (ns.map fun x => .lit (.int k x)))] W) (hg : P.globalNamed n = some g)
    (ht : (P.globals[g]?).map (·.type) = some t) (hu : P.underlying t = some (.array m e)) (he : P.underlying e = some (.int k)) (hc : P.cellsOf e = 1) (hct : P.cellsOf t = m) :
    ∃ (arr : Array Value) (ty : TypeId) (fr : Nat × Nat), W.heap[g]? = some (.cells arr ty fr) ∧ arr.toList = ns.map (.int k) := by
  obtain ⟨ps, ⟨g0, t0, cs0, f0, p0, q0, hg0, ht0, hv0, hd0, _, _⟩, _, _⟩ := h
  obtain rfl := Option.some.inj (hg.symm.trans hg0)
  obtain rfl := Option.some.inj (ht.symm.trans ht0)
  have hcell : ∃ (ty : TypeId) (fr : Nat × Nat), W.heap[g]? = some (.cells cs0 ty fr) := by
    unfold World.var? at hv0
    rw [hg] at hv0
    simp only [Option.bind_some] at hv0
    split at hv0
    · rename_i cs ty fr hh
      injection hv0 with hv0; subst hv0
      exact ⟨ty, fr, hh⟩
    · cases hv0
  obtain ⟨ty, fr, hh⟩ := hcell
  refine ⟨cs0, ty, fr, hh, ?_⟩
  obtain ⟨xs, m1, _, hx, hlen, hn, hel⟩ := DataW.trod_array hu hd0
  injection hx with hx _
  injection hx with hx
  have hl2 : ns.length = m := by rw [← hn, ← List.length_map (f := fun x => (DataW.lit (.int k x) : DataW Unit)), hx, List.length_map]
  rw [hc] at hel
  apply List.ext_getElem?
  intro i
  rcases Nat.lt_or_ge i m with hi | hi
  · have h1 := hel i hi
    rw [Nat.mul_one] at h1
    have hx1 : i < xs.length := by omega
    rw [List.getElem?_eq_getElem hx1] at h1
    obtain ⟨v, e1, e2, _⟩ := DataW.trod_int he h1
    have hc1 : cs0.toList[i]? = some (.int k v) := by
      have := congrArg (fun l => l[0]?) e1
      simpa using this
    have hn1 : (ns.map fun x => (DataW.lit (.int k x) : DataW Unit))[i]? = some (.lit (.int k v)) := by
      rw [hx, List.getElem?_map, List.getElem?_eq_getElem hx1, Option.map_some, e2]
    rw [List.getElem?_map, List.getElem?_eq_getElem (by omega), Option.map_some] at hn1
    injection hn1 with hn1
    injection hn1 with hn1
    injection hn1 with _ hn1
    rw [hc1, List.getElem?_map, List.getElem?_eq_getElem (by omega), Option.map_some, hn1]
  · rw [List.getElem?_eq_none (by rw [hlen, hct]; exact hi), List.getElem?_eq_none (by rw [List.length_map, hl2]; exact hi)]

/-- The numbers of a block's cells. -/
def numsOf (o : Sim.AObj) : List Int := match o with | .cells l _ => l.map (fun v => match v with | .int _ x => x | _ => 0) | _ => []

theorem own : ownKnob Tryz.prog.godebug = none := by kernel_rfl
theorem noInit : Tryz.prog.inits.idxOf? 3 = none := by kernel_rfl

theorem cells0 {W : World} (h : laidMetH Tryz.prog Rows.poolNamesRow.laid W) : ∃ (arr : Array Value) (ty : TypeId) (fr : Nat × Nat), W.heap[0]? = some (.cells arr ty fr) ∧ Sim.gl0 = .cells arr.toList (.fixed true) := by
  have h1 := h.filter (fun x => x.1 == "strings.asciiSpace")
  have e1 : (Rows.poolNamesRow.laid.filter fun x => x.1 == "strings.asciiSpace") = [("strings.asciiSpace", .agg ((numsOf Sim.gl0).map fun x => .lit (.int .u8 x)))] := by kernel_rfl
  rw [e1, MakeChecks.laidMetH_plain _ _ _ (by kernel_rfl)] at h1
  obtain ⟨arr, ty, fr, a, b⟩ := laid_row h1 (g := 0) (t := 196) (e := 5) (m := 256) (by kernel_rfl) (by kernel_rfl) (by kernel_rfl) (by kernel_rfl) (by kernel_rfl) (by kernel_rfl)
  exact ⟨arr, ty, fr, a, by rw [b]; kernel_rfl⟩

/-- How the machine's memory stands to the world in which the call begins. -/
def mu0 : Sim.Mu := fun b => if b < 1 then some ⟨b, 0, none, 0⟩ else none
theorem rel0 {W : World} (h : laidMetH Tryz.prog Rows.poolNamesRow.laid W) : Sim.MRel mu0 W.heap.size Sim.s0.A W.heap := by
  obtain ⟨arr, ty, fr, hh, hg⟩ := cells0 h
  have hsz : 0 < W.heap.size := (Array.getElem?_eq_some_iff.1 hh).1
  have hA : Sim.s0.A = ⟨Sim.tput Sim.h0, 11, Sim.tput Sim.g0⟩ := rfl
  have hget : ∀ {b : Nat} {o : Sim.AObj}, (Sim.tput Sim.h0).get b = some o → b = 0 ∧ o = Sim.gl0 := by
    intro b o ho
    exact Sim.tput_get (Q := fun b o => b = 0 ∧ o = Sim.gl0) (fun p hp => by
      obtain rfl := List.mem_singleton.1 (show p ∈ [(0, Sim.gl0)] from hp)
      exact ⟨rfl, rfl⟩) ho
  have hmu : ∀ {b : Nat} {e : Sim.Ent}, mu0 b = some e → b = 0 ∧ e = ⟨0, 0, none, 0⟩ := by
    intro b e he
    unfold mu0 at he
    split at he
    · rename_i hb
      have : b = 0 := by omega
      subst this
      injection he with he
      exact ⟨rfl, he.symm⟩
    · cases he
  rw [hA]
  refine ⟨Nat.le_refl _, ?_, ?_, ?_, ?_, ?_⟩
  · intro b o e ho he
    obtain ⟨rfl, rfl⟩ := hget ho
    obtain ⟨_, rfl⟩ := hmu he
    rw [hg]
    refine ⟨rfl, arr, ty, fr, hh, ⟨rfl, ?_⟩, fun hc => by cases hc⟩
    intro i x y hx hy
    rw [hx] at hy; injection hy with hy; subst hy
    have hcl : ∀ v ∈ arr.toList, Sim.closedCell v = true := by
      have : Sim.allB Sim.closedCell (match Sim.gl0 with | .cells l _ => l | _ => []) = true := by kernel_rfl
      rw [hg] at this
      exact Sim.allB_ok this
    exact Sim.closedCell_rel (hcl x (List.mem_of_getElem? hx)) _
  · intro b e he
    obtain ⟨rfl, rfl⟩ := hmu he
    exact ⟨by decide, hsz, fun _ => rfl, fun g hg => by cases hg⟩
  · intro b b' e e' he he' _
    obtain ⟨rfl, _⟩ := hmu he
    obtain ⟨rfl, _⟩ := hmu he'
    exact .inl rfl
  · intro b xs g ho
    obtain ⟨_, h2⟩ := hget ho
    rw [hg] at h2
    cases h2
  · intro b o ho
    obtain ⟨rfl, _⟩ := hget ho
    decide

theorem law {W : World} (h : laidMetH Tryz.prog Rows.poolNamesRow.laid W) : Calls Tryz.prog 3 #[] W fun e W' => e = .returned (.bool true) ∧ Below W.heap.size W W' := by
  have c := Sim.closed_calls Sim.cert (rel0 h) (fun g hg => by
    have : g < 1 := hg
    have : g = 0 := by omega
    subst this; rfl) (f := 3) (v := Sim.vt) (fr := Sim.s0.fr) (by kernel_rfl) Sim.fin
  refine c.mono fun e W' ⟨μ, v, he, hv, hb⟩ => ⟨?_, hb⟩
  subst he
  have hv : Sim.VRel μ (.bool true) v := hv
  cases hv
  rfl

theorem lifted (os : Os) (started : os.Started) (H : Type) (enc : TypeId × Value → H) :
    ReturnsInHanded {} Tryz.checked os 3 .any (fun w args => (Rows.poolNamesSpec.pre enc Tryz.prog Tryz.f3 [] false w args ∧ laidMetH Tryz.prog Rows.poolNamesRow.laid w) ∧ sizedMet enc Tryz.prog Tryz.f3 (OpenSpec.ofChange Rows.poolNamesSpec) false w args)
      (Rows.poolNamesSpec.post enc Tryz.prog Tryz.f3 false true false false) := by
  refine returnsInHanded_of_change_and (C := Tryz.checked) (X := fun w _ => laidMetH Tryz.prog Rows.poolNamesRow.laid w) (fun _ _ _ hh h => h.of_heap hh) own started noInit Tryz.func3
    (ChangeSpec.witness_shaped (enc := enc) (C := Tryz.checked) (os := os) (X := fun w _ => laidMetH Tryz.prog Rows.poolNamesRow.laid w) false (World.laidAll Tryz.prog os Rows.poolNamesRow.laid) #[] 8 (World.laidAll_os _ _ _)
      (World.shaped_of_ZipB (by kernel_rfl) (by kernel_rfl)) (by kernel_rfl) (by kernel_rfl) (by kernel_rfl)
      (by rw [MakeChecks.laidMetH_plain _ _ _ (by kernel_rfl)]; exact laidMet_laidAll _ (by kernel_rfl) (by kernel_rfl))) ?_
  intro W base args ds gs before hval0 hW _ _ hL _
  have hW' := hW
  obtain ⟨p, q, hA0, hV, rfl, _, _⟩ := hW
  have hA : DataW.TrodAll enc Tryz.prog W 0 (fun _ => true) true Tryz.f3.params.toList args.toList ds p := hA0
  rw [Tryz.params3] at hA
  obtain ⟨rfl, rfl, rfl⟩ := trodAll_none hA
  obtain ⟨rfl, rfl⟩ := trodVars_none hV
  refine (law hL).mono fun e W' ⟨he, hb⟩ => ?_
  subst he
  exact ⟨_, rfl, _, _, _, [], [], [], hW', trodAll_mk1 (shut_bool Tryz.underlying4 _), rfl, rfl, hb.frame _, fun h => by cases h⟩

theorem holds : Rows.PoolNamesSaid :=
  OpenClaim.holds_of_wide 3 Tryz.f3 rfl rfl rfl rfl rfl rfl rfl ⟨rfl, rfl, rfl, rfl, rfl⟩ rfl rfl rfl rfl rfl (by kernel_rfl) Tryz.func3 (by kernel_rfl)
    (of_decide_eq_true (by kernel_rfl)) (by unfold Func.isWrapper; first | (rw [if_pos (by decide +kernel)]; kernel_rfl) | (rw [if_neg (by decide +kernel)]; exact ⟨rfl, rfl⟩))
    (fun os started H enc _ => lifted os started H enc)

theorem card_holds : Rows.PoolNamesCardSaid :=
  Claim7.holds_tied_plain_at .later [] [.data, .data, .data, .data, .sentinel, .sentinel, .listed, .data, .pinned] true (true, "ae503525f5df312b74d6147f1a654f509a37641fc7eb0f9215c91d23a6e9ad24") true
    holds (fun _ h => by cases h) (by kernel_rfl) (fun _ h => by cases h) poolNames_row_tie rfl ⟨rfl, rfl⟩ (by kernel_rfl) rfl
    (fun f fn hf hfn => by
      obtain rfl : f = 3 := Option.some.inj ((show Tryz.prog.funcNamed "fencepost/fencepostlaw23.PoolNames" = some 3 by kernel_rfl).symm.trans hf) |>.symm
      obtain rfl : fn = Tryz.f3 := (Option.some.inj (Tryz.func3.symm.trans hfn)).symm
      exact ⟨by kernel_rfl, fun j t ht => by
        rw [Tryz.params3] at ht
        simp at ht⟩)
    (by kernel_rfl)
#print axioms card_holds
end Go.Proofs.YtcjpedadnkddgaaGreatDoor
