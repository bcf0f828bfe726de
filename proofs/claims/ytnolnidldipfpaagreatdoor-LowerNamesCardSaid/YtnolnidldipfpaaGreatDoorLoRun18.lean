/- The run of the law, from state 72 to state 76. No condition. -/
import Derived.Test.YtnolnidldipfpaaGreatDoorLoSt1
import Derived.KernelRfl
set_option maxRecDepth 100000
namespace Go.Proofs.YtnolnidldipfpaaGreatDoor.Sim
open Go Go.RowKit
theorem ze73 : canS (keys zh73) (keys zg73) 89431 [(89426, [(vs [70,82,69,69,67,79,85,78,84]),(vs [70,82,69,69]),(vs [82,69,84,73,82,69,68]),(vs [82,69,84,67,79,85,78,84]),(vs [83,69,69,78])])] [(8, 0),(9, 0)] (aruns tab [] zs72) = zs73 := by kernel_rfl
noncomputable def zQh74 (S : List Nat) (L : Nat) (σ : Nat → Option Value) : LH := app [(89426,.mapU [(zw27,(σ 0)),(zw28,(σ 1)),(zw29,(σ 2)),(zw30,(σ 3)),(zw31,(σ 4))]),(89430,.miter (some 89429) 5 S L)] (rmv zh73 [89426,89430])
noncomputable def zQs74 (j : Nat) (S : List Nat) (L : Nat) (σ : Nat → Option Value) : ASt := ⟨(zF 308 49 [(sa 68813 0),(sa 83490 0),(si 1),(sa 89421 0),(sa 89422 0),(sa 89423 0),(so vp),(sa 89428 0),no,no,(sa 83490 0),(sa 89428 0),(so (.map (some 89429))),(so (.map (some 89429))),(sa 89430 0)] [] [iR zk251 0,.code zk252,.inLoop zk253,.inBlock 0,.code zk105]), zc73, ⟨tput (zQh74 S L σ), Nat.add 89431 (Nat.mul j 20), tput (zg73)⟩⟩
noncomputable def zHh74 (S : List Nat) (σ : Nat → Option Value) : LH := app [(89426,.mapU [(zw27,(σ 0)),(zw28,(σ 1)),(zw29,(σ 2)),(zw30,(σ 3)),(zw31,(σ 4))]),(89430,.miter (some 89429) 5 S 5)] (rmv zh73 [89426,89430])
noncomputable def zHs74 (j : Nat) (S : List Nat) (σ : Nat → Option Value) : ASt := ⟨(zF 308 49 [(sa 68813 0),(sa 83490 0),(si 1),(sa 89421 0),(sa 89422 0),(sa 89423 0),(so vp),(sa 89428 0),no,no,(sa 83490 0),(sa 89428 0),(so (.map (some 89429))),(so (.map (some 89429))),(sa 89430 0)] [] [.inLoop zk253,.inBlock 0,.code zk105]), zc73, ⟨tput (zHh74 S σ), Nat.add 89431 (Nat.mul j 20), tput (zg73)⟩⟩
noncomputable def zXh74 (σ : Nat → Option Value) : LH := app [(89426,.mapU [(zw27,(σ 0)),(zw28,(σ 1)),(zw29,(σ 2)),(zw30,(σ 3)),(zw31,(σ 4))])] (rmv zh73 [89426,89430])
noncomputable def zXs74 (σ : Nat → Option Value) : ASt := ⟨zf40, zc73, ⟨tput (zXh74 σ), 89531, tput (zg73)⟩⟩
noncomputable def zes74 : List MapEntry := [⟨zw27, zw6, 0⟩,⟨zw28, zw5, 1⟩,⟨zw29, zw7, 2⟩,⟨zw30, zw8, 3⟩,⟨zw31, zw9, 4⟩]
noncomputable def zvs74 : List Value := [(vi 1048920),(vi 1048912),(vi 1048928),(vi 1048984),(vi 1048992)]
noncomputable def zsg74 : Nat → Option Value := sg [no,no,no,no,no]
noncomputable def zop74 : Oper := opAt (zk251) 0
noncomputable def zre74 : List Oper := dropN (opsOf (zk251)).toList 1
noncomputable def zkk74 : List AItem := [.code zk252,.inLoop zk253,.inBlock 0,.code zk105]
noncomputable def zkh74 : List Nat := keys (zHh74 [] (fun _ => none))
noncomputable def zkx74 : List Nat := keys (zXh74 (fun _ => none))
noncomputable def zkf74 : List Nat := [58584,58959,64009,64840,68817,71271,80082,83461,86199,86474,86951,86991,87092,87160,87849,89393]
noncomputable def zkg74 : List Nat := [58584,58959,64009,64840,68817,71271,80082,83461,86199,86474,86951,86991,87092,87160,87849,89393]
noncomputable def zkd74 : List (Nat × Nat) := [(8, 0),(9, 0)]
theorem zlv74 : LevelsOk tab 89430 89429 5 5 zQs74 zHs74 zes74 zvs74 zes74.length 0 :=
 ⟨⟨⟨[0,2,5,7],zkh74,zkf74,89451,[],zkd74,fun _ _ _ => by kernel_rfl⟩,⟨⟨[1,3,4,7],zkh74,zkf74,89451,[],zkd74,fun _ _ _ => by kernel_rfl⟩,⟨⟨[4,5,7],zkh74,zkf74,89451,[],zkd74,fun _ _ _ => by kernel_rfl⟩,⟨⟨[0,1,3,4,5,7],zkh74,zkf74,89451,[],zkd74,fun _ _ _ => by kernel_rfl⟩,⟨⟨[1,2,6,7],zkh74,zkf74,89451,[],zkd74,fun _ _ _ => by kernel_rfl⟩,trivial⟩⟩⟩⟩⟩,
 ⟨⟨⟨[0,2,5,7],zkh74,zkf74,89471,[],zkd74,fun _ _ _ => by kernel_rfl⟩,⟨⟨[1,3,4,7],zkh74,zkf74,89471,[],zkd74,fun _ _ _ => by kernel_rfl⟩,⟨⟨[4,5,7],zkh74,zkf74,89471,[],zkd74,fun _ _ _ => by kernel_rfl⟩,⟨⟨[0,1,3,4,5,7],zkh74,zkf74,89471,[],zkd74,fun _ _ _ => by kernel_rfl⟩,⟨⟨[1,2,6,7],zkh74,zkf74,89471,[],zkd74,fun _ _ _ => by kernel_rfl⟩,trivial⟩⟩⟩⟩⟩,
 ⟨⟨⟨[0,2,5,7],zkh74,zkf74,89491,[],zkd74,fun _ _ _ => by kernel_rfl⟩,⟨⟨[1,3,4,7],zkh74,zkf74,89491,[],zkd74,fun _ _ _ => by kernel_rfl⟩,⟨⟨[4,5,7],zkh74,zkf74,89491,[],zkd74,fun _ _ _ => by kernel_rfl⟩,⟨⟨[0,1,3,4,5,7],zkh74,zkf74,89491,[],zkd74,fun _ _ _ => by kernel_rfl⟩,⟨⟨[1,2,6,7],zkh74,zkf74,89491,[],zkd74,fun _ _ _ => by kernel_rfl⟩,trivial⟩⟩⟩⟩⟩,
 ⟨⟨⟨[0,2,5,7],zkh74,zkf74,89511,[],zkd74,fun _ _ _ => by kernel_rfl⟩,⟨⟨[1,3,4,7],zkh74,zkf74,89511,[],zkd74,fun _ _ _ => by kernel_rfl⟩,⟨⟨[4,5,7],zkh74,zkf74,89511,[],zkd74,fun _ _ _ => by kernel_rfl⟩,⟨⟨[0,1,3,4,5,7],zkh74,zkf74,89511,[],zkd74,fun _ _ _ => by kernel_rfl⟩,⟨⟨[1,2,6,7],zkh74,zkf74,89511,[],zkd74,fun _ _ _ => by kernel_rfl⟩,trivial⟩⟩⟩⟩⟩,
 ⟨⟨⟨[0,2,5,7],zkh74,zkf74,89531,[],zkd74,fun _ _ _ => by kernel_rfl⟩,⟨⟨[1,3,4,7],zkh74,zkf74,89531,[],zkd74,fun _ _ _ => by kernel_rfl⟩,⟨⟨[4,5,7],zkh74,zkf74,89531,[],zkd74,fun _ _ _ => by kernel_rfl⟩,⟨⟨[0,1,3,4,5,7],zkh74,zkf74,89531,[],zkd74,fun _ _ _ => by kernel_rfl⟩,⟨⟨[1,2,6,7],zkh74,zkf74,89531,[],zkd74,fun _ _ _ => by kernel_rfl⟩,trivial⟩⟩⟩⟩⟩,
 trivial⟩⟩⟩⟩⟩
theorem zlz74 : zXs74 (endV zvs74 zsg74) = zs74 := by kernel_rfl
theorem zlp74 (f : FuncId) (v : Value) (k : Fin tab f v zs74) : Fin tab f v zs73 :=
  .loop (ops := opsOf (zk251)) (o := zop74) (rest := zre74) (k := zkk74) (it := .tmp 14) (r := 89430) (m := 89429) (since := 5) (L0 := 5) (cl := 5) (es := zes74) (vals := zvs74) (σ0 := zsg74) (Q := zQs74) (H := zHs74) (X := zXs74) (nsx := [1]) (keepx := zkx74) (fsx := zkg74) (nxx := 89531) (usx := []) (dsx := [])
    (by kernel_rfl) (fun _ _ _ => by kernel_rfl) (by kernel_rfl) (by kernel_rfl) (fun _ _ _ _ => by kernel_rfl) (fun _ _ _ _ => by kernel_rfl) (fun _ _ _ _ => by kernel_rfl) (fun _ _ _ _ => by kernel_rfl) (fun _ _ _ _ => by kernel_rfl) (by kernel_rfl) (by kernel_rfl) (by decide +kernel) zlv74 (fun _ _ _ => by kernel_rfl) (by rw [zlz74]; exact k)
theorem ze75 : gcS (keys zh75) (keys zg75) 89691 (arun tab 14 zs74) = zs75 := by kernel_rfl
theorem ze76 : gcS (keys zh76) (keys zg76) 89875 (arun tab 14 zs75) = zs76 := by kernel_rfl
theorem run18 (f : FuncId) (v : Value) (k : Fin tab f v zs76) : Fin tab f v zs72 := .runw [] _ _ _ [(89426, [(vs [70,82,69,69,67,79,85,78,84]),(vs [70,82,69,69]),(vs [82,69,84,73,82,69,68]),(vs [82,69,84,67,79,85,78,84]),(vs [83,69,69,78])])] [(8, 0),(9, 0)] ze73 (zlp74 f v (.run 14 _ _ _ ze75 (.run 14 _ _ _ ze76 (k))))
end Go.Proofs.YtnolnidldipfpaaGreatDoor.Sim
