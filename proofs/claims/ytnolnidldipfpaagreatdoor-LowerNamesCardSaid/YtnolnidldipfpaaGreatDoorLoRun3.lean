/- The run of the law, from state 12 to state 16. No condition. -/
import Derived.Test.YtnolnidldipfpaaGreatDoorLoSt1
import Derived.KernelRfl
set_option maxRecDepth 100000
namespace Go.Proofs.YtnolnidldipfpaaGreatDoor.Sim
open Go Go.RowKit
theorem ze13 : canS (keys zh13) (keys zg13) 12797 [(12792, [(vs [70,82,69,69,67,79,85,78,84]),(vs [70,82,69,69]),(vs [82,69,84,73,82,69,68]),(vs [82,69,84,67,79,85,78,84]),(vs [83,69,69,78])])] [(8, 0),(9, 0)] (aruns tab [] zs12) = zs13 := by kernel_rfl
noncomputable def zQh14 (S : List Nat) (L : Nat) (σ : Nat → Option Value) : LH := app [(12792,.mapU [(zw27,(σ 0)),(zw28,(σ 1)),(zw29,(σ 2)),(zw30,(σ 3)),(zw31,(σ 4))]),(12796,.miter (some 12795) 5 S L)] (rmv zh13 [12792,12796])
noncomputable def zQs14 (j : Nat) (S : List Nat) (L : Nat) (σ : Nat → Option Value) : ASt := ⟨(zF 308 49 [(sa 9443 0),(sa 10239 0),(si 0),(sa 12787 0),(sa 12788 0),(sa 12789 0),(so vp),(sa 12794 0),no,no,(sa 10239 0),(sa 12794 0),(so (.map (some 12795))),(so (.map (some 12795))),(sa 12796 0)] [] [iR zk251 0,.code zk252,.inLoop zk253,.inBlock 0,.code zk105]), zc13, ⟨tput (zQh14 S L σ), Nat.add 12797 (Nat.mul j 14), tput (zg13)⟩⟩
noncomputable def zHh14 (S : List Nat) (σ : Nat → Option Value) : LH := app [(12792,.mapU [(zw27,(σ 0)),(zw28,(σ 1)),(zw29,(σ 2)),(zw30,(σ 3)),(zw31,(σ 4))]),(12796,.miter (some 12795) 5 S 5)] (rmv zh13 [12792,12796])
noncomputable def zHs14 (j : Nat) (S : List Nat) (σ : Nat → Option Value) : ASt := ⟨(zF 308 49 [(sa 9443 0),(sa 10239 0),(si 0),(sa 12787 0),(sa 12788 0),(sa 12789 0),(so vp),(sa 12794 0),no,no,(sa 10239 0),(sa 12794 0),(so (.map (some 12795))),(so (.map (some 12795))),(sa 12796 0)] [] [.inLoop zk253,.inBlock 0,.code zk105]), zc13, ⟨tput (zHh14 S σ), Nat.add 12797 (Nat.mul j 14), tput (zg13)⟩⟩
noncomputable def zXh14 (σ : Nat → Option Value) : LH := app [(12792,.mapU [(zw27,(σ 0)),(zw28,(σ 1)),(zw29,(σ 2)),(zw30,(σ 3)),(zw31,(σ 4))])] (rmv zh13 [12792,12796])
noncomputable def zXs14 (σ : Nat → Option Value) : ASt := ⟨zf11, zc13, ⟨tput (zXh14 σ), 12867, tput (zg13)⟩⟩
noncomputable def zes14 : List MapEntry := [⟨zw27, zw6, 0⟩,⟨zw28, zw5, 1⟩,⟨zw29, zw7, 2⟩,⟨zw30, zw8, 3⟩,⟨zw31, zw9, 4⟩]
noncomputable def zvs14 : List Value := [(vi 1048744),(vi 1048728),(vi 1048752),(vi 1048784),(vi 1048792)]
noncomputable def zsg14 : Nat → Option Value := sg [no,no,no,no,no]
noncomputable def zop14 : Oper := opAt (zk251) 0
noncomputable def zre14 : List Oper := dropN (opsOf (zk251)).toList 1
noncomputable def zkk14 : List AItem := [.code zk252,.inLoop zk253,.inBlock 0,.code zk105]
noncomputable def zkh14 : List Nat := keys (zHh14 [] (fun _ => none))
noncomputable def zkx14 : List Nat := keys (zXh14 (fun _ => none))
noncomputable def zkf14 : List Nat := [5017,5940,8676,9447,10176,10873,11173,11846,11886,12269,12691]
noncomputable def zkg14 : List Nat := [5017,5940,8676,9447,10176,10873,11173,11846,11886,12269,12691]
noncomputable def zkd14 : List (Nat × Nat) := [(8, 0),(9, 0)]
theorem zlv14 : LevelsOk tab 12796 12795 5 5 zQs14 zHs14 zes14 zvs14 zes14.length 0 :=
 ⟨⟨⟨[0,1,5,6],zkh14,zkf14,12811,[],zkd14,fun _ _ _ => by kernel_rfl⟩,⟨⟨[3,4,6],zkh14,zkf14,12811,[],zkd14,fun _ _ _ => by kernel_rfl⟩,⟨⟨[1,2,3,5,6],zkh14,zkf14,12811,[],zkd14,fun _ _ _ => by kernel_rfl⟩,⟨⟨[0,3,4,5,6],zkh14,zkf14,12811,[],zkd14,fun _ _ _ => by kernel_rfl⟩,⟨⟨[2,7],zkh14,zkf14,12811,[],zkd14,fun _ _ _ => by kernel_rfl⟩,trivial⟩⟩⟩⟩⟩,
 ⟨⟨⟨[0,1,5,6],zkh14,zkf14,12825,[],zkd14,fun _ _ _ => by kernel_rfl⟩,⟨⟨[3,4,6],zkh14,zkf14,12825,[],zkd14,fun _ _ _ => by kernel_rfl⟩,⟨⟨[1,2,3,5,6],zkh14,zkf14,12825,[],zkd14,fun _ _ _ => by kernel_rfl⟩,⟨⟨[0,3,4,5,6],zkh14,zkf14,12825,[],zkd14,fun _ _ _ => by kernel_rfl⟩,⟨⟨[2,7],zkh14,zkf14,12825,[],zkd14,fun _ _ _ => by kernel_rfl⟩,trivial⟩⟩⟩⟩⟩,
 ⟨⟨⟨[0,1,5,6],zkh14,zkf14,12839,[],zkd14,fun _ _ _ => by kernel_rfl⟩,⟨⟨[3,4,6],zkh14,zkf14,12839,[],zkd14,fun _ _ _ => by kernel_rfl⟩,⟨⟨[1,2,3,5,6],zkh14,zkf14,12839,[],zkd14,fun _ _ _ => by kernel_rfl⟩,⟨⟨[0,3,4,5,6],zkh14,zkf14,12839,[],zkd14,fun _ _ _ => by kernel_rfl⟩,⟨⟨[2,7],zkh14,zkf14,12839,[],zkd14,fun _ _ _ => by kernel_rfl⟩,trivial⟩⟩⟩⟩⟩,
 ⟨⟨⟨[0,1,5,6],zkh14,zkf14,12853,[],zkd14,fun _ _ _ => by kernel_rfl⟩,⟨⟨[3,4,6],zkh14,zkf14,12853,[],zkd14,fun _ _ _ => by kernel_rfl⟩,⟨⟨[1,2,3,5,6],zkh14,zkf14,12853,[],zkd14,fun _ _ _ => by kernel_rfl⟩,⟨⟨[0,3,4,5,6],zkh14,zkf14,12853,[],zkd14,fun _ _ _ => by kernel_rfl⟩,⟨⟨[2,7],zkh14,zkf14,12853,[],zkd14,fun _ _ _ => by kernel_rfl⟩,trivial⟩⟩⟩⟩⟩,
 ⟨⟨⟨[0,1,5,6],zkh14,zkf14,12867,[],zkd14,fun _ _ _ => by kernel_rfl⟩,⟨⟨[3,4,6],zkh14,zkf14,12867,[],zkd14,fun _ _ _ => by kernel_rfl⟩,⟨⟨[1,2,3,5,6],zkh14,zkf14,12867,[],zkd14,fun _ _ _ => by kernel_rfl⟩,⟨⟨[0,3,4,5,6],zkh14,zkf14,12867,[],zkd14,fun _ _ _ => by kernel_rfl⟩,⟨⟨[2,7],zkh14,zkf14,12867,[],zkd14,fun _ _ _ => by kernel_rfl⟩,trivial⟩⟩⟩⟩⟩,
 trivial⟩⟩⟩⟩⟩
theorem zlz14 : zXs14 (endV zvs14 zsg14) = zs14 := by kernel_rfl
theorem zlp14 (f : FuncId) (v : Value) (k : Fin tab f v zs14) : Fin tab f v zs13 :=
  .loop (ops := opsOf (zk251)) (o := zop14) (rest := zre14) (k := zkk14) (it := .tmp 14) (r := 12796) (m := 12795) (since := 5) (L0 := 5) (cl := 5) (es := zes14) (vals := zvs14) (σ0 := zsg14) (Q := zQs14) (H := zHs14) (X := zXs14) (nsx := [1]) (keepx := zkx14) (fsx := zkg14) (nxx := 12867) (usx := []) (dsx := [])
    (by kernel_rfl) (fun _ _ _ => by kernel_rfl) (by kernel_rfl) (by kernel_rfl) (fun _ _ _ _ => by kernel_rfl) (fun _ _ _ _ => by kernel_rfl) (fun _ _ _ _ => by kernel_rfl) (fun _ _ _ _ => by kernel_rfl) (fun _ _ _ _ => by kernel_rfl) (by kernel_rfl) (by kernel_rfl) (by decide +kernel) zlv14 (fun _ _ _ => by kernel_rfl) (by rw [zlz14]; exact k)
theorem ze15 : gcS (keys zh15) (keys zg15) 13028 (arun tab 14 zs14) = zs15 := by kernel_rfl
theorem ze16 : gcS (keys zh16) (keys zg16) 13194 (arun tab 14 zs15) = zs16 := by kernel_rfl
theorem run3 (f : FuncId) (v : Value) (k : Fin tab f v zs16) : Fin tab f v zs12 := .runw [] _ _ _ [(12792, [(vs [70,82,69,69,67,79,85,78,84]),(vs [70,82,69,69]),(vs [82,69,84,73,82,69,68]),(vs [82,69,84,67,79,85,78,84]),(vs [83,69,69,78])])] [(8, 0),(9, 0)] ze13 (zlp14 f v (.run 14 _ _ _ ze15 (.run 14 _ _ _ ze16 (k))))
end Go.Proofs.YtnolnidldipfpaaGreatDoor.Sim
