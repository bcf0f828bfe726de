/- The run of the law, from state 76 to state 80. No condition. -/
import Derived.Test.YtnolnidldipfpaaGreatDoorLoSt1
import Derived.KernelRfl
set_option maxRecDepth 100000
namespace Go.Proofs.YtnolnidldipfpaaGreatDoor.Sim
open Go Go.RowKit
theorem ze77 : gcS (keys zh77) (keys zg77) 90538 (arun tab 14 zs76) = zs77 := by kernel_rfl
theorem ze78 : canS (keys zh78) (keys zg78) 90538 [(90533, [(vs [70,82,69,69,67,79,85,78,84]),(vs [70,82,69,69]),(vs [82,69,84,73,82,69,68]),(vs [82,69,84,67,79,85,78,84]),(vs [83,69,69,78])])] [(8, 0),(9, 0)] (aruns tab [] zs77) = zs78 := by kernel_rfl
noncomputable def zQh79 (S : List Nat) (L : Nat) (σ : Nat → Option Value) : LH := app [(90533,.mapU [(zw27,(σ 0)),(zw28,(σ 1)),(zw29,(σ 2)),(zw30,(σ 3)),(zw31,(σ 4))]),(90537,.miter (some 90536) 5 S L)] (rmv zh78 [90533,90537])
noncomputable def zQs79 (j : Nat) (S : List Nat) (L : Nat) (σ : Nat → Option Value) : ASt := ⟨(zF 308 49 [(sa 68813 0),(sa 83490 0),(si 1),(sa 90528 0),(sa 90529 0),(sa 90530 0),(so vp),(sa 90535 0),no,no,(sa 83490 0),(sa 90535 0),(so (.map (some 90536))),(so (.map (some 90536))),(sa 90537 0)] [] [iR zk251 0,.code zk252,.inLoop zk253,.inBlock 0,.code zk105]), zc78, ⟨tput (zQh79 S L σ), Nat.add 90538 (Nat.mul j 20), tput (zg78)⟩⟩
noncomputable def zHh79 (S : List Nat) (σ : Nat → Option Value) : LH := app [(90533,.mapU [(zw27,(σ 0)),(zw28,(σ 1)),(zw29,(σ 2)),(zw30,(σ 3)),(zw31,(σ 4))]),(90537,.miter (some 90536) 5 S 5)] (rmv zh78 [90533,90537])
noncomputable def zHs79 (j : Nat) (S : List Nat) (σ : Nat → Option Value) : ASt := ⟨(zF 308 49 [(sa 68813 0),(sa 83490 0),(si 1),(sa 90528 0),(sa 90529 0),(sa 90530 0),(so vp),(sa 90535 0),no,no,(sa 83490 0),(sa 90535 0),(so (.map (some 90536))),(so (.map (some 90536))),(sa 90537 0)] [] [.inLoop zk253,.inBlock 0,.code zk105]), zc78, ⟨tput (zHh79 S σ), Nat.add 90538 (Nat.mul j 20), tput (zg78)⟩⟩
noncomputable def zXh79 (σ : Nat → Option Value) : LH := app [(90533,.mapU [(zw27,(σ 0)),(zw28,(σ 1)),(zw29,(σ 2)),(zw30,(σ 3)),(zw31,(σ 4))])] (rmv zh78 [90533,90537])
noncomputable def zXs79 (σ : Nat → Option Value) : ASt := ⟨zf42, zc78, ⟨tput (zXh79 σ), 90638, tput (zg78)⟩⟩
noncomputable def zes79 : List MapEntry := [⟨zw27, zw6, 0⟩,⟨zw28, zw5, 1⟩,⟨zw29, zw7, 2⟩,⟨zw30, zw8, 3⟩,⟨zw31, zw9, 4⟩]
noncomputable def zvs79 : List Value := [(vi 1048920),(vi 1048912),(vi 1048928),(vi 1048984),(vi 1048992)]
noncomputable def zsg79 : Nat → Option Value := sg [no,no,no,no,no]
noncomputable def zop79 : Oper := opAt (zk251) 0
noncomputable def zre79 : List Oper := dropN (opsOf (zk251)).toList 1
noncomputable def zkk79 : List AItem := [.code zk252,.inLoop zk253,.inBlock 0,.code zk105]
noncomputable def zkh79 : List Nat := keys (zHh79 [] (fun _ => none))
noncomputable def zkx79 : List Nat := keys (zXh79 (fun _ => none))
noncomputable def zkf79 : List Nat := [58584,58959,64009,64840,68817,71271,80082,83461,86199,86474,86951,86991,87092,87160,87849,89393,89564]
noncomputable def zkg79 : List Nat := [58584,58959,64009,64840,68817,71271,80082,83461,86199,86474,86951,86991,87092,87160,87849,89393,89564]
noncomputable def zkd79 : List (Nat × Nat) := [(8, 0),(9, 0)]
theorem zlv79 : LevelsOk tab 90537 90536 5 5 zQs79 zHs79 zes79 zvs79 zes79.length 0 :=
 ⟨⟨⟨[0,2,5,7],zkh79,zkf79,90558,[],zkd79,fun _ _ _ => by kernel_rfl⟩,⟨⟨[1,3,4,7],zkh79,zkf79,90558,[],zkd79,fun _ _ _ => by kernel_rfl⟩,⟨⟨[4,5,7],zkh79,zkf79,90558,[],zkd79,fun _ _ _ => by kernel_rfl⟩,⟨⟨[0,1,3,4,5,7],zkh79,zkf79,90558,[],zkd79,fun _ _ _ => by kernel_rfl⟩,⟨⟨[1,2,6,7],zkh79,zkf79,90558,[],zkd79,fun _ _ _ => by kernel_rfl⟩,trivial⟩⟩⟩⟩⟩,
 ⟨⟨⟨[0,2,5,7],zkh79,zkf79,90578,[],zkd79,fun _ _ _ => by kernel_rfl⟩,⟨⟨[1,3,4,7],zkh79,zkf79,90578,[],zkd79,fun _ _ _ => by kernel_rfl⟩,⟨⟨[4,5,7],zkh79,zkf79,90578,[],zkd79,fun _ _ _ => by kernel_rfl⟩,⟨⟨[0,1,3,4,5,7],zkh79,zkf79,90578,[],zkd79,fun _ _ _ => by kernel_rfl⟩,⟨⟨[1,2,6,7],zkh79,zkf79,90578,[],zkd79,fun _ _ _ => by kernel_rfl⟩,trivial⟩⟩⟩⟩⟩,
 ⟨⟨⟨[0,2,5,7],zkh79,zkf79,90598,[],zkd79,fun _ _ _ => by kernel_rfl⟩,⟨⟨[1,3,4,7],zkh79,zkf79,90598,[],zkd79,fun _ _ _ => by kernel_rfl⟩,⟨⟨[4,5,7],zkh79,zkf79,90598,[],zkd79,fun _ _ _ => by kernel_rfl⟩,⟨⟨[0,1,3,4,5,7],zkh79,zkf79,90598,[],zkd79,fun _ _ _ => by kernel_rfl⟩,⟨⟨[1,2,6,7],zkh79,zkf79,90598,[],zkd79,fun _ _ _ => by kernel_rfl⟩,trivial⟩⟩⟩⟩⟩,
 ⟨⟨⟨[0,2,5,7],zkh79,zkf79,90618,[],zkd79,fun _ _ _ => by kernel_rfl⟩,⟨⟨[1,3,4,7],zkh79,zkf79,90618,[],zkd79,fun _ _ _ => by kernel_rfl⟩,⟨⟨[4,5,7],zkh79,zkf79,90618,[],zkd79,fun _ _ _ => by kernel_rfl⟩,⟨⟨[0,1,3,4,5,7],zkh79,zkf79,90618,[],zkd79,fun _ _ _ => by kernel_rfl⟩,⟨⟨[1,2,6,7],zkh79,zkf79,90618,[],zkd79,fun _ _ _ => by kernel_rfl⟩,trivial⟩⟩⟩⟩⟩,
 ⟨⟨⟨[0,2,5,7],zkh79,zkf79,90638,[],zkd79,fun _ _ _ => by kernel_rfl⟩,⟨⟨[1,3,4,7],zkh79,zkf79,90638,[],zkd79,fun _ _ _ => by kernel_rfl⟩,⟨⟨[4,5,7],zkh79,zkf79,90638,[],zkd79,fun _ _ _ => by kernel_rfl⟩,⟨⟨[0,1,3,4,5,7],zkh79,zkf79,90638,[],zkd79,fun _ _ _ => by kernel_rfl⟩,⟨⟨[1,2,6,7],zkh79,zkf79,90638,[],zkd79,fun _ _ _ => by kernel_rfl⟩,trivial⟩⟩⟩⟩⟩,
 trivial⟩⟩⟩⟩⟩
theorem zlz79 : zXs79 (endV zvs79 zsg79) = zs79 := by kernel_rfl
theorem zlp79 (f : FuncId) (v : Value) (k : Fin tab f v zs79) : Fin tab f v zs78 :=
  .loop (ops := opsOf (zk251)) (o := zop79) (rest := zre79) (k := zkk79) (it := .tmp 14) (r := 90537) (m := 90536) (since := 5) (L0 := 5) (cl := 5) (es := zes79) (vals := zvs79) (σ0 := zsg79) (Q := zQs79) (H := zHs79) (X := zXs79) (nsx := [1]) (keepx := zkx79) (fsx := zkg79) (nxx := 90638) (usx := []) (dsx := [])
    (by kernel_rfl) (fun _ _ _ => by kernel_rfl) (by kernel_rfl) (by kernel_rfl) (fun _ _ _ _ => by kernel_rfl) (fun _ _ _ _ => by kernel_rfl) (fun _ _ _ _ => by kernel_rfl) (fun _ _ _ _ => by kernel_rfl) (fun _ _ _ _ => by kernel_rfl) (by kernel_rfl) (by kernel_rfl) (by decide +kernel) zlv79 (fun _ _ _ => by kernel_rfl) (by rw [zlz79]; exact k)
theorem ze80 : gcS (keys zh80) (keys zg80) 90799 (arun tab 14 zs79) = zs80 := by kernel_rfl
theorem run19 (f : FuncId) (v : Value) (k : Fin tab f v zs80) : Fin tab f v zs76 := .run 14 _ _ _ ze77 (.runw [] _ _ _ [(90533, [(vs [70,82,69,69,67,79,85,78,84]),(vs [70,82,69,69]),(vs [82,69,84,73,82,69,68]),(vs [82,69,84,67,79,85,78,84]),(vs [83,69,69,78])])] [(8, 0),(9, 0)] ze78 (zlp79 f v (.run 14 _ _ _ ze80 (k))))
end Go.Proofs.YtnolnidldipfpaaGreatDoor.Sim
