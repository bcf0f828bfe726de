/- The run of the law, from state 92 to state 96. No condition. -/
import Derived.Test.YtnolnidldipfpaaGreatDoorLoSt1
import Derived.KernelRfl
set_option maxRecDepth 100000
namespace Go.Proofs.YtnolnidldipfpaaGreatDoor.Sim
open Go Go.RowKit
theorem ze93 : canS (keys zh93) (keys zg93) 95152 [(95147, [(vs [70,82,69,69,67,79,85,78,84]),(vs [70,82,69,69]),(vs [82,69,84,73,82,69,68]),(vs [82,69,84,67,79,85,78,84]),(vs [83,69,69,78])])] [(8, 0),(9, 0)] (aruns tab [] zs92) = zs93 := by kernel_rfl
noncomputable def zQh94 (S : List Nat) (L : Nat) (σ : Nat → Option Value) : LH := app [(95147,.mapU [(zw27,(σ 0)),(zw28,(σ 1)),(zw29,(σ 2)),(zw30,(σ 3)),(zw31,(σ 4))]),(95151,.miter (some 95150) 5 S L)] (rmv zh93 [95147,95151])
noncomputable def zQs94 (j : Nat) (S : List Nat) (L : Nat) (σ : Nat → Option Value) : ASt := ⟨(zF 308 49 [(sa 68813 0),(sa 83490 0),(si 1),(sa 95142 0),(sa 95143 0),(sa 95144 0),(so vp),(sa 95149 0),no,no,(sa 83490 0),(sa 95149 0),(so (.map (some 95150))),(so (.map (some 95150))),(sa 95151 0)] [] [iR zk251 0,.code zk252,.inLoop zk253,.inBlock 0,.code zk105]), zc93, ⟨tput (zQh94 S L σ), Nat.add 95152 (Nat.mul j 20), tput (zg93)⟩⟩
noncomputable def zHh94 (S : List Nat) (σ : Nat → Option Value) : LH := app [(95147,.mapU [(zw27,(σ 0)),(zw28,(σ 1)),(zw29,(σ 2)),(zw30,(σ 3)),(zw31,(σ 4))]),(95151,.miter (some 95150) 5 S 5)] (rmv zh93 [95147,95151])
noncomputable def zHs94 (j : Nat) (S : List Nat) (σ : Nat → Option Value) : ASt := ⟨(zF 308 49 [(sa 68813 0),(sa 83490 0),(si 1),(sa 95142 0),(sa 95143 0),(sa 95144 0),(so vp),(sa 95149 0),no,no,(sa 83490 0),(sa 95149 0),(so (.map (some 95150))),(so (.map (some 95150))),(sa 95151 0)] [] [.inLoop zk253,.inBlock 0,.code zk105]), zc93, ⟨tput (zHh94 S σ), Nat.add 95152 (Nat.mul j 20), tput (zg93)⟩⟩
noncomputable def zXh94 (σ : Nat → Option Value) : LH := app [(95147,.mapU [(zw27,(σ 0)),(zw28,(σ 1)),(zw29,(σ 2)),(zw30,(σ 3)),(zw31,(σ 4))])] (rmv zh93 [95147,95151])
noncomputable def zXs94 (σ : Nat → Option Value) : ASt := ⟨zf48, zc93, ⟨tput (zXh94 σ), 95252, tput (zg93)⟩⟩
noncomputable def zes94 : List MapEntry := [⟨zw27, zw6, 0⟩,⟨zw28, zw5, 1⟩,⟨zw29, zw7, 2⟩,⟨zw30, zw8, 3⟩,⟨zw31, zw9, 4⟩]
noncomputable def zvs94 : List Value := [(vi 1048920),(vi 1048912),(vi 1048928),(vi 1048984),(vi 1048992)]
noncomputable def zsg94 : Nat → Option Value := sg [no,no,no,no,no]
noncomputable def zop94 : Oper := opAt (zk251) 0
noncomputable def zre94 : List Oper := dropN (opsOf (zk251)).toList 1
noncomputable def zkk94 : List AItem := [.code zk252,.inLoop zk253,.inBlock 0,.code zk105]
noncomputable def zkh94 : List Nat := keys (zHh94 [] (fun _ => none))
noncomputable def zkx94 : List Nat := keys (zXh94 (fun _ => none))
noncomputable def zkf94 : List Nat := [58584,58959,64009,64840,68817,71271,80082,83461,86199,86474,86951,86991,87849]
noncomputable def zkg94 : List Nat := [58584,58959,64009,64840,68817,71271,80082,83461,86199,86474,86951,86991,87849]
noncomputable def zkd94 : List (Nat × Nat) := [(8, 0),(9, 0)]
theorem zlv94 : LevelsOk tab 95151 95150 5 5 zQs94 zHs94 zes94 zvs94 zes94.length 0 :=
 ⟨⟨⟨[0,2,5,7],zkh94,zkf94,95172,[],zkd94,fun _ _ _ => by kernel_rfl⟩,⟨⟨[1,3,4,7],zkh94,zkf94,95172,[],zkd94,fun _ _ _ => by kernel_rfl⟩,⟨⟨[4,5,7],zkh94,zkf94,95172,[],zkd94,fun _ _ _ => by kernel_rfl⟩,⟨⟨[0,1,3,4,5,7],zkh94,zkf94,95172,[],zkd94,fun _ _ _ => by kernel_rfl⟩,⟨⟨[1,2,6,7],zkh94,zkf94,95172,[],zkd94,fun _ _ _ => by kernel_rfl⟩,trivial⟩⟩⟩⟩⟩,
 ⟨⟨⟨[0,2,5,7],zkh94,zkf94,95192,[],zkd94,fun _ _ _ => by kernel_rfl⟩,⟨⟨[1,3,4,7],zkh94,zkf94,95192,[],zkd94,fun _ _ _ => by kernel_rfl⟩,⟨⟨[4,5,7],zkh94,zkf94,95192,[],zkd94,fun _ _ _ => by kernel_rfl⟩,⟨⟨[0,1,3,4,5,7],zkh94,zkf94,95192,[],zkd94,fun _ _ _ => by kernel_rfl⟩,⟨⟨[1,2,6,7],zkh94,zkf94,95192,[],zkd94,fun _ _ _ => by kernel_rfl⟩,trivial⟩⟩⟩⟩⟩,
 ⟨⟨⟨[0,2,5,7],zkh94,zkf94,95212,[],zkd94,fun _ _ _ => by kernel_rfl⟩,⟨⟨[1,3,4,7],zkh94,zkf94,95212,[],zkd94,fun _ _ _ => by kernel_rfl⟩,⟨⟨[4,5,7],zkh94,zkf94,95212,[],zkd94,fun _ _ _ => by kernel_rfl⟩,⟨⟨[0,1,3,4,5,7],zkh94,zkf94,95212,[],zkd94,fun _ _ _ => by kernel_rfl⟩,⟨⟨[1,2,6,7],zkh94,zkf94,95212,[],zkd94,fun _ _ _ => by kernel_rfl⟩,trivial⟩⟩⟩⟩⟩,
 ⟨⟨⟨[0,2,5,7],zkh94,zkf94,95232,[],zkd94,fun _ _ _ => by kernel_rfl⟩,⟨⟨[1,3,4,7],zkh94,zkf94,95232,[],zkd94,fun _ _ _ => by kernel_rfl⟩,⟨⟨[4,5,7],zkh94,zkf94,95232,[],zkd94,fun _ _ _ => by kernel_rfl⟩,⟨⟨[0,1,3,4,5,7],zkh94,zkf94,95232,[],zkd94,fun _ _ _ => by kernel_rfl⟩,⟨⟨[1,2,6,7],zkh94,zkf94,95232,[],zkd94,fun _ _ _ => by kernel_rfl⟩,trivial⟩⟩⟩⟩⟩,
 ⟨⟨⟨[0,2,5,7],zkh94,zkf94,95252,[],zkd94,fun _ _ _ => by kernel_rfl⟩,⟨⟨[1,3,4,7],zkh94,zkf94,95252,[],zkd94,fun _ _ _ => by kernel_rfl⟩,⟨⟨[4,5,7],zkh94,zkf94,95252,[],zkd94,fun _ _ _ => by kernel_rfl⟩,⟨⟨[0,1,3,4,5,7],zkh94,zkf94,95252,[],zkd94,fun _ _ _ => by kernel_rfl⟩,⟨⟨[1,2,6,7],zkh94,zkf94,95252,[],zkd94,fun _ _ _ => by kernel_rfl⟩,trivial⟩⟩⟩⟩⟩,
 trivial⟩⟩⟩⟩⟩
theorem zlz94 : zXs94 (endV zvs94 zsg94) = zs94 := by kernel_rfl
theorem zlp94 (f : FuncId) (v : Value) (k : Fin tab f v zs94) : Fin tab f v zs93 :=
  .loop (ops := opsOf (zk251)) (o := zop94) (rest := zre94) (k := zkk94) (it := .tmp 14) (r := 95151) (m := 95150) (since := 5) (L0 := 5) (cl := 5) (es := zes94) (vals := zvs94) (σ0 := zsg94) (Q := zQs94) (H := zHs94) (X := zXs94) (nsx := [1]) (keepx := zkx94) (fsx := zkg94) (nxx := 95252) (usx := []) (dsx := [])
    (by kernel_rfl) (fun _ _ _ => by kernel_rfl) (by kernel_rfl) (by kernel_rfl) (fun _ _ _ _ => by kernel_rfl) (fun _ _ _ _ => by kernel_rfl) (fun _ _ _ _ => by kernel_rfl) (fun _ _ _ _ => by kernel_rfl) (fun _ _ _ _ => by kernel_rfl) (by kernel_rfl) (by kernel_rfl) (by decide +kernel) zlv94 (fun _ _ _ => by kernel_rfl) (by rw [zlz94]; exact k)
theorem ze95 : gcS (keys zh95) (keys zg95) 95326 (arun tab 14 zs94) = zs95 := by kernel_rfl
theorem ze96 : canS (keys zh96) (keys zg96) 95326 [(95321, [(vs [70,82,69,69,67,79,85,78,84]),(vs [70,82,69,69]),(vs [82,69,84,73,82,69,68]),(vs [82,69,84,67,79,85,78,84]),(vs [83,69,69,78])])] [(8, 0),(9, 0)] (aruns tab [] zs95) = zs96 := by kernel_rfl
theorem run23 (f : FuncId) (v : Value) (k : Fin tab f v zs96) : Fin tab f v zs92 := .runw [] _ _ _ [(95147, [(vs [70,82,69,69,67,79,85,78,84]),(vs [70,82,69,69]),(vs [82,69,84,73,82,69,68]),(vs [82,69,84,67,79,85,78,84]),(vs [83,69,69,78])])] [(8, 0),(9, 0)] ze93 (zlp94 f v (.run 14 _ _ _ ze95 (.runw [] _ _ _ [(95321, [(vs [70,82,69,69,67,79,85,78,84]),(vs [70,82,69,69]),(vs [82,69,84,73,82,69,68]),(vs [82,69,84,67,79,85,78,84]),(vs [83,69,69,78])])] [(8, 0),(9, 0)] ze96 (k))))
end Go.Proofs.YtnolnidldipfpaaGreatDoor.Sim
