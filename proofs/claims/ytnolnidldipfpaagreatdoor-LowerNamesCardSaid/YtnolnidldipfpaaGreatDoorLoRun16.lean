/- The run of the law, from state 64 to state 68. No condition. -/
import Derived.Test.YtnolnidldipfpaaGreatDoorLoSt1
import Derived.KernelRfl
set_option maxRecDepth 100000
namespace Go.Proofs.YtnolnidldipfpaaGreatDoor.Sim
open Go Go.RowKit
theorem ze65 : gcS (keys zh65) (keys zg65) 87807 (arun tab 14 zs64) = zs65 := by kernel_rfl
theorem ze66 : gcS (keys zh66) (keys zg66) 88121 (arun tab 14 zs65) = zs66 := by kernel_rfl
theorem ze67 : canS (keys zh67) (keys zg67) 88121 [(88116, [(vs [70,82,69,69,67,79,85,78,84]),(vs [70,82,69,69]),(vs [82,69,84,73,82,69,68]),(vs [82,69,84,67,79,85,78,84]),(vs [83,69,69,78])])] [(8, 0),(9, 0)] (aruns tab [] zs66) = zs67 := by kernel_rfl
noncomputable def zQh68 (S : List Nat) (L : Nat) (σ : Nat → Option Value) : LH := app [(88116,.mapU [(zw27,(σ 0)),(zw28,(σ 1)),(zw29,(σ 2)),(zw30,(σ 3)),(zw31,(σ 4))]),(88120,.miter (some 88119) 5 S L)] (rmv zh67 [88116,88120])
noncomputable def zQs68 (j : Nat) (S : List Nat) (L : Nat) (σ : Nat → Option Value) : ASt := ⟨(zF 308 49 [(sa 68813 0),(sa 83490 0),(si 1),(sa 88111 0),(sa 88112 0),(sa 88113 0),(so vp),(sa 88118 0),no,no,(sa 83490 0),(sa 88118 0),(so (.map (some 88119))),(so (.map (some 88119))),(sa 88120 0)] [] [iR zk251 0,.code zk252,.inLoop zk253,.inBlock 0,.code zk105]), zc67, ⟨tput (zQh68 S L σ), Nat.add 88121 (Nat.mul j 20), tput (zg67)⟩⟩
noncomputable def zHh68 (S : List Nat) (σ : Nat → Option Value) : LH := app [(88116,.mapU [(zw27,(σ 0)),(zw28,(σ 1)),(zw29,(σ 2)),(zw30,(σ 3)),(zw31,(σ 4))]),(88120,.miter (some 88119) 5 S 5)] (rmv zh67 [88116,88120])
noncomputable def zHs68 (j : Nat) (S : List Nat) (σ : Nat → Option Value) : ASt := ⟨(zF 308 49 [(sa 68813 0),(sa 83490 0),(si 1),(sa 88111 0),(sa 88112 0),(sa 88113 0),(so vp),(sa 88118 0),no,no,(sa 83490 0),(sa 88118 0),(so (.map (some 88119))),(so (.map (some 88119))),(sa 88120 0)] [] [.inLoop zk253,.inBlock 0,.code zk105]), zc67, ⟨tput (zHh68 S σ), Nat.add 88121 (Nat.mul j 20), tput (zg67)⟩⟩
noncomputable def zXh68 (σ : Nat → Option Value) : LH := app [(88116,.mapU [(zw27,(σ 0)),(zw28,(σ 1)),(zw29,(σ 2)),(zw30,(σ 3)),(zw31,(σ 4))])] (rmv zh67 [88116,88120])
noncomputable def zXs68 (σ : Nat → Option Value) : ASt := ⟨zf36, zc67, ⟨tput (zXh68 σ), 88221, tput (zg67)⟩⟩
noncomputable def zes68 : List MapEntry := [⟨zw27, zw6, 0⟩,⟨zw28, zw5, 1⟩,⟨zw29, zw7, 2⟩,⟨zw30, zw8, 3⟩,⟨zw31, zw9, 4⟩]
noncomputable def zvs68 : List Value := [(vi 1048920),(vi 1048912),(vi 1048928),(vi 1048984),(vi 1048992)]
noncomputable def zsg68 : Nat → Option Value := sg [no,no,no,no,no]
noncomputable def zop68 : Oper := opAt (zk251) 0
noncomputable def zre68 : List Oper := dropN (opsOf (zk251)).toList 1
noncomputable def zkk68 : List AItem := [.code zk252,.inLoop zk253,.inBlock 0,.code zk105]
noncomputable def zkh68 : List Nat := keys (zHh68 [] (fun _ => none))
noncomputable def zkx68 : List Nat := keys (zXh68 (fun _ => none))
noncomputable def zkf68 : List Nat := [58584,58959,64009,64840,68817,71271,80082,83461,86199,86474,86951,86991,87092,87160,87849,88069]
noncomputable def zkg68 : List Nat := [58584,58959,64009,64840,68817,71271,80082,83461,86199,86474,86951,86991,87092,87160,87849,88069]
noncomputable def zkd68 : List (Nat × Nat) := [(8, 0),(9, 0)]
theorem zlv68 : LevelsOk tab 88120 88119 5 5 zQs68 zHs68 zes68 zvs68 zes68.length 0 :=
 ⟨⟨⟨[0,2,5,7],zkh68,zkf68,88141,[],zkd68,fun _ _ _ => by kernel_rfl⟩,⟨⟨[1,3,4,7],zkh68,zkf68,88141,[],zkd68,fun _ _ _ => by kernel_rfl⟩,⟨⟨[4,5,7],zkh68,zkf68,88141,[],zkd68,fun _ _ _ => by kernel_rfl⟩,⟨⟨[0,1,3,4,5,7],zkh68,zkf68,88141,[],zkd68,fun _ _ _ => by kernel_rfl⟩,⟨⟨[1,2,6,7],zkh68,zkf68,88141,[],zkd68,fun _ _ _ => by kernel_rfl⟩,trivial⟩⟩⟩⟩⟩,
 ⟨⟨⟨[0,2,5,7],zkh68,zkf68,88161,[],zkd68,fun _ _ _ => by kernel_rfl⟩,⟨⟨[1,3,4,7],zkh68,zkf68,88161,[],zkd68,fun _ _ _ => by kernel_rfl⟩,⟨⟨[4,5,7],zkh68,zkf68,88161,[],zkd68,fun _ _ _ => by kernel_rfl⟩,⟨⟨[0,1,3,4,5,7],zkh68,zkf68,88161,[],zkd68,fun _ _ _ => by kernel_rfl⟩,⟨⟨[1,2,6,7],zkh68,zkf68,88161,[],zkd68,fun _ _ _ => by kernel_rfl⟩,trivial⟩⟩⟩⟩⟩,
 ⟨⟨⟨[0,2,5,7],zkh68,zkf68,88181,[],zkd68,fun _ _ _ => by kernel_rfl⟩,⟨⟨[1,3,4,7],zkh68,zkf68,88181,[],zkd68,fun _ _ _ => by kernel_rfl⟩,⟨⟨[4,5,7],zkh68,zkf68,88181,[],zkd68,fun _ _ _ => by kernel_rfl⟩,⟨⟨[0,1,3,4,5,7],zkh68,zkf68,88181,[],zkd68,fun _ _ _ => by kernel_rfl⟩,⟨⟨[1,2,6,7],zkh68,zkf68,88181,[],zkd68,fun _ _ _ => by kernel_rfl⟩,trivial⟩⟩⟩⟩⟩,
 ⟨⟨⟨[0,2,5,7],zkh68,zkf68,88201,[],zkd68,fun _ _ _ => by kernel_rfl⟩,⟨⟨[1,3,4,7],zkh68,zkf68,88201,[],zkd68,fun _ _ _ => by kernel_rfl⟩,⟨⟨[4,5,7],zkh68,zkf68,88201,[],zkd68,fun _ _ _ => by kernel_rfl⟩,⟨⟨[0,1,3,4,5,7],zkh68,zkf68,88201,[],zkd68,fun _ _ _ => by kernel_rfl⟩,⟨⟨[1,2,6,7],zkh68,zkf68,88201,[],zkd68,fun _ _ _ => by kernel_rfl⟩,trivial⟩⟩⟩⟩⟩,
 ⟨⟨⟨[0,2,5,7],zkh68,zkf68,88221,[],zkd68,fun _ _ _ => by kernel_rfl⟩,⟨⟨[1,3,4,7],zkh68,zkf68,88221,[],zkd68,fun _ _ _ => by kernel_rfl⟩,⟨⟨[4,5,7],zkh68,zkf68,88221,[],zkd68,fun _ _ _ => by kernel_rfl⟩,⟨⟨[0,1,3,4,5,7],zkh68,zkf68,88221,[],zkd68,fun _ _ _ => by kernel_rfl⟩,⟨⟨[1,2,6,7],zkh68,zkf68,88221,[],zkd68,fun _ _ _ => by kernel_rfl⟩,trivial⟩⟩⟩⟩⟩,
 trivial⟩⟩⟩⟩⟩
theorem zlz68 : zXs68 (endV zvs68 zsg68) = zs68 := by kernel_rfl
theorem zlp68 (f : FuncId) (v : Value) (k : Fin tab f v zs68) : Fin tab f v zs67 :=
  .loop (ops := opsOf (zk251)) (o := zop68) (rest := zre68) (k := zkk68) (it := .tmp 14) (r := 88120) (m := 88119) (since := 5) (L0 := 5) (cl := 5) (es := zes68) (vals := zvs68) (σ0 := zsg68) (Q := zQs68) (H := zHs68) (X := zXs68) (nsx := [1]) (keepx := zkx68) (fsx := zkg68) (nxx := 88221) (usx := []) (dsx := [])
    (by kernel_rfl) (fun _ _ _ => by kernel_rfl) (by kernel_rfl) (by kernel_rfl) (fun _ _ _ _ => by kernel_rfl) (fun _ _ _ _ => by kernel_rfl) (fun _ _ _ _ => by kernel_rfl) (fun _ _ _ _ => by kernel_rfl) (fun _ _ _ _ => by kernel_rfl) (by kernel_rfl) (by kernel_rfl) (by decide +kernel) zlv68 (fun _ _ _ => by kernel_rfl) (by rw [zlz68]; exact k)
theorem run16 (f : FuncId) (v : Value) (k : Fin tab f v zs68) : Fin tab f v zs64 := .run 14 _ _ _ ze65 (.run 14 _ _ _ ze66 (.runw [] _ _ _ [(88116, [(vs [70,82,69,69,67,79,85,78,84]),(vs [70,82,69,69]),(vs [82,69,84,73,82,69,68]),(vs [82,69,84,67,79,85,78,84]),(vs [83,69,69,78])])] [(8, 0),(9, 0)] ze67 (zlp68 f v (k))))
end Go.Proofs.YtnolnidldipfpaaGreatDoor.Sim
