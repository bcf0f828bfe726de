/- fencepostlaw12.InterShared: called from whatever start fits, with whatever candidate and whatever two addresses, it returns true, and what was there reads as it did; the listed variables of packages are tied to the program's text. Condition: the listed variables of packages read as their packages lay them (the card ties that). -/
import Derived.Test.YtbkpmfjfpcoehaaGreatDoorCards
import Derived.Test.YtbkpmfjfpcoehaaGreatDoorTie
import Derived.Test.YtbkpmfjfpcoehaaGreatDoorLvLaw
import Derived.Test.YtbkpmfjfpcoehaaGreatDoorFa
import Derived.Test.YtbkpmfjfpcoehaaGreatDoorWn
import Derived.ProofKit
import Derived.ChangeSame
import Derived.ChangeVars
import Derived.JoinedOf
import Derived.LaidLaws
import Derived.LaidHandle
import Derived.LaidSub
import Derived.MakeChecks
import Derived.OpenShut
import Derived.Lay
import Derived.Carry
import Derived.ChangeMaps5
import Derived.Stop.Joined
import Derived.SevenTiedAt
namespace Go.Proofs.YtbkpmfjfpcoehaaGreatDoor
open Go Go.ChangeShapes Go.WideShapes Go.ChangeAt Go.RowKit
set_option maxRecDepth 100000
theorem lifted (os : Os) (started : os.Started) (H : Type) (enc : TypeId × Value → H) :
    ReturnsInHanded {} Tryz.checked os 3 .any (fun w args => (Rows.interSharedSpec.pre enc Tryz.prog Tryz.f3 [] false w args ∧ laidMetH Tryz.prog Rows.interSharedRow.laid w) ∧ sizedMet enc Tryz.prog Tryz.f3 (OpenSpec.ofChange Rows.interSharedSpec) false w args)
      (Rows.interSharedSpec.post enc Tryz.prog Tryz.f3 false true false false) := by
  refine returnsInHanded_of_change_and (C := Tryz.checked) (X := fun w _ => laidMetH Tryz.prog Rows.interSharedRow.laid w) (fun _ _ _ hh h => h.of_heap hh) own started SD Tryz.func3
    (ChangeSpec.witness_shaped (enc := enc) (C := Tryz.checked) (os := os) (X := fun w _ => laidMetH Tryz.prog Rows.interSharedRow.laid w) false (World.laidAll Tryz.prog os Rows.interSharedRow.laid) #[.agg #[.slice none 0 0, .slice none 0 0, .slice none 0 0, .slice none 0 0], .int .u64 0, .int .u64 0] 8 (World.laidAll_os _ _ _)
      (World.shaped_of_ZipB (by kernel_rfl) (by kernel_rfl)) (by kernel_rfl) (by kernel_rfl) (by kernel_rfl)
      (by rw [MakeChecks.laidMetH_plain _ _ _ (by kernel_rfl)]; exact laidMet_laidAll _ (by kernel_rfl) (by kernel_rfl))) ?_
  intro W base args ds gs before hval0 hW _ _ hL _
  exact L4 (s := Rows.interSharedSpec) rfl (fun H d1 d2 d3 => rfl) laidOut W base args ds gs before hval0 hW (fun w' B => Al hL B)

theorem holds : Rows.InterSharedSaid :=
  OpenClaim.holds_of_wide 3 Tryz.f3 rfl rfl rfl rfl rfl rfl rfl ⟨rfl, rfl, rfl, rfl, rfl⟩ rfl rfl rfl rfl rfl qU Tryz.func3 SV
    (of_decide_eq_true (by kernel_rfl)) (by unfold Func.isWrapper; first | (rw [if_pos (by decide +kernel)]; kernel_rfl) | (rw [if_neg (by decide +kernel)]; exact ⟨rfl, rfl⟩))
    (fun os started H enc _ => lifted os started H enc)

theorem card_holds : Rows.InterSharedCardSaid :=
  Claim7.holds_tied_plain_at .later [] [.listed, .data, .wider, .wider, .wider, .wider, .wider, .wider, .wider, .wider] true (true, "d02439d7949571b7608c0f64b6d6fadc30db585630ca82ef523a513e964b777a") true
    holds (fun _ h => by cases h) tD (fun _ h => by cases h) interShared_row_tie rfl ⟨rfl, rfl⟩ dU rfl
    (fun f fn hf hfn => by
      obtain rfl : f = 3 := (Option.some.inj (qU.symm.trans hf)).symm
      obtain rfl : fn = Tryz.f3 := (Option.some.inj (Tryz.func3.symm.trans hfn)).symm
      exact ⟨dV, fun j t ht => by
        rw [Tryz.params3] at ht
        have hm : t ∈ [26, 27] := by simpa using Array.mem_of_getElem? ht
        have hall : ([26, 27].all fun u => !Tryz.prog.wantsStandIn u) = true := by kernel_rfl
        exact (show Tryz.prog.wantsStandIn t = false by simpa using List.all_eq_true.1 hall t hm)⟩)
    dW
#print axioms card_holds
end Go.Proofs.YtbkpmfjfpcoehaaGreatDoor
