/- fencepostlaw24.LockNames: called from whatever start fits, and with whatever arguments, it returns true, and what was there reads as it did; the listed variables of packages are tied to the program's text. Condition: the listed variables of packages read as their packages lay them (the card ties that). -/
import Derived.Test.YtckflfichfnclaaGreatDoorCards
import Derived.Test.YtckflfichfnclaaGreatDoorTie
import Derived.Test.YtckflfichfnclaaGreatDoorLkHolds
import Derived.ProofKit
import Derived.ChangeSame
import Derived.ChangeVars
import Derived.JoinedOf
import Derived.LaidLaws
import Derived.LaidHandle
import Derived.LaidSub
import Derived.MakeChecks
import Derived.OpenShut
import Derived.Lay
import Derived.Carry
import Derived.ChangeMaps5
import Derived.Stop.Joined
import Derived.SevenTiedAt
namespace Go.Proofs.YtckflfichfnclaaGreatDoor
open Go Go.ChangeShapes Go.WideShapes Go.ChangeAt Go.RowKit
set_option maxRecDepth 100000

theorem card_holds : Rows.LockNamesCardSaid :=
  Claim7.holds_tied_plain_at .later [] [.data, .data, .data, .data, .sentinel, .sentinel, .listed, .data, .pinned] true (true, "52251c0a69e99b2a7db3f03ac7d8293498290852f4e7041762544f320c3fae19") true
    holds (fun _ h => by cases h) hwf3 (fun _ h => by cases h) lockNames_row_tie rfl ⟨rfl, rfl⟩ hmain3 rfl
    (fun f fn hf hfn => by
      obtain rfl : f = 3 := (Option.some.inj (hfn3.symm.trans hf)).symm
      obtain rfl : fn = Tryz.f3 := (Option.some.inj (Tryz.func3.symm.trans hfn)).symm
      exact ⟨hlook3, fun j t ht => by
        rw [Tryz.params3] at ht
        simp at ht⟩)
    hgoes3
#print axioms card_holds
end Go.Proofs.YtckflfichfnclaaGreatDoor
