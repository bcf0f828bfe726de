/- The run of the law, from state 100 to state 104. No condition. -/
import Derived.Test.YtnolnidldipfpaaGreatDoorLoSt1
import Derived.KernelRfl
set_option maxRecDepth 100000
namespace Go.Proofs.YtnolnidldipfpaaGreatDoor.Sim
open Go Go.RowKit
theorem ze101 : gcS (keys zh101) (keys zg101) 95820 (arun tab 14 zs100) = zs101 := by kernel_rfl
theorem ze102 : canS (keys zh102) (keys zg102) 95820 [(95815, [(vs [70,82,69,69,67,79,85,78,84]),(vs [70,82,69,69]),(vs [82,69,84,73,82,69,68]),(vs [82,69,84,67,79,85,78,84]),(vs [83,69,69,78])])] [(8, 0),(9, 0)] (aruns tab [] zs101) = zs102 := by kernel_rfl
noncomputable def zQh103 (S : List Nat) (L : Nat) (σ : Nat → Option Value) : LH := app [(95815,.mapU [(zw27,(σ 0)),(zw28,(σ 1)),(zw29,(σ 2)),(zw30,(σ 3)),(zw31,(σ 4))]),(95819,.miter (some 95818) 5 S L)] (rmv zh102 [95815,95819])
noncomputable def zQs103 (j : Nat) (S : List Nat) (L : Nat) (σ : Nat → Option Value) : ASt := ⟨(zF 308 49 [(sa 68813 0),(sa 83490 0),(si 1),(sa 95810 0),(sa 95811 0),(sa 95812 0),(so vp),(sa 95817 0),no,no,(sa 83490 0),(sa 95817 0),(so (.map (some 95818))),(so (.map (some 95818))),(sa 95819 0)] [] [iR zk251 0,.code zk252,.inLoop zk253,.inBlock 0,.code zk105]), zc102, ⟨tput (zQh103 S L σ), Nat.add 95820 (Nat.mul j 20), tput (zg102)⟩⟩
noncomputable def zHh103 (S : List Nat) (σ : Nat → Option Value) : LH := app [(95815,.mapU [(zw27,(σ 0)),(zw28,(σ 1)),(zw29,(σ 2)),(zw30,(σ 3)),(zw31,(σ 4))]),(95819,.miter (some 95818) 5 S 5)] (rmv zh102 [95815,95819])
noncomputable def zHs103 (j : Nat) (S : List Nat) (σ : Nat → Option Value) : ASt := ⟨(zF 308 49 [(sa 68813 0),(sa 83490 0),(si 1),(sa 95810 0),(sa 95811 0),(sa 95812 0),(so vp),(sa 95817 0),no,no,(sa 83490 0),(sa 95817 0),(so (.map (some 95818))),(so (.map (some 95818))),(sa 95819 0)] [] [.inLoop zk253,.inBlock 0,.code zk105]), zc102, ⟨tput (zHh103 S σ), Nat.add 95820 (Nat.mul j 20), tput (zg102)⟩⟩
noncomputable def zXh103 (σ : Nat → Option Value) : LH := app [(95815,.mapU [(zw27,(σ 0)),(zw28,(σ 1)),(zw29,(σ 2)),(zw30,(σ 3)),(zw31,(σ 4))])] (rmv zh102 [95815,95819])
noncomputable def zXs103 (σ : Nat → Option Value) : ASt := ⟨zf54, zc102, ⟨tput (zXh103 σ), 95920, tput (zg102)⟩⟩
noncomputable def zes103 : List MapEntry := [⟨zw27, zw6, 0⟩,⟨zw28, zw5, 1⟩,⟨zw29, zw7, 2⟩,⟨zw30, zw8, 3⟩,⟨zw31, zw9, 4⟩]
noncomputable def zvs103 : List Value := [(vi 1048920),(vi 1048912),(vi 1048928),(vi 1048984),(vi 1048992)]
noncomputable def zsg103 : Nat → Option Value := sg [no,no,no,no,no]
noncomputable def zop103 : Oper := opAt (zk251) 0
noncomputable def zre103 : List Oper := dropN (opsOf (zk251)).toList 1
noncomputable def zkk103 : List AItem := [.code zk252,.inLoop zk253,.inBlock 0,.code zk105]
noncomputable def zkh103 : List Nat := keys (zHh103 [] (fun _ => none))
noncomputable def zkx103 : List Nat := keys (zXh103 (fun _ => none))
noncomputable def zkf103 : List Nat := [58584,58959,64009,64840,68817,71271,80082,83461,86199,86474,86951,86991,87849]
noncomputable def zkg103 : List Nat := [58584,58959,64009,64840,68817,71271,80082,83461,86199,86474,86951,86991,87849]
noncomputable def zkd103 : List (Nat × Nat) := [(8, 0),(9, 0)]
theorem zlv103 : LevelsOk tab 95819 95818 5 5 zQs103 zHs103 zes103 zvs103 zes103.length 0 :=
 ⟨⟨⟨[0,2,5,7],zkh103,zkf103,95840,[],zkd103,fun _ _ _ => by kernel_rfl⟩,⟨⟨[1,3,4,7],zkh103,zkf103,95840,[],zkd103,fun _ _ _ => by kernel_rfl⟩,⟨⟨[4,5,7],zkh103,zkf103,95840,[],zkd103,fun _ _ _ => by kernel_rfl⟩,⟨⟨[0,1,3,4,5,7],zkh103,zkf103,95840,[],zkd103,fun _ _ _ => by kernel_rfl⟩,⟨⟨[1,2,6,7],zkh103,zkf103,95840,[],zkd103,fun _ _ _ => by kernel_rfl⟩,trivial⟩⟩⟩⟩⟩,
 ⟨⟨⟨[0,2,5,7],zkh103,zkf103,95860,[],zkd103,fun _ _ _ => by kernel_rfl⟩,⟨⟨[1,3,4,7],zkh103,zkf103,95860,[],zkd103,fun _ _ _ => by kernel_rfl⟩,⟨⟨[4,5,7],zkh103,zkf103,95860,[],zkd103,fun _ _ _ => by kernel_rfl⟩,⟨⟨[0,1,3,4,5,7],zkh103,zkf103,95860,[],zkd103,fun _ _ _ => by kernel_rfl⟩,⟨⟨[1,2,6,7],zkh103,zkf103,95860,[],zkd103,fun _ _ _ => by kernel_rfl⟩,trivial⟩⟩⟩⟩⟩,
 ⟨⟨⟨[0,2,5,7],zkh103,zkf103,95880,[],zkd103,fun _ _ _ => by kernel_rfl⟩,⟨⟨[1,3,4,7],zkh103,zkf103,95880,[],zkd103,fun _ _ _ => by kernel_rfl⟩,⟨⟨[4,5,7],zkh103,zkf103,95880,[],zkd103,fun _ _ _ => by kernel_rfl⟩,⟨⟨[0,1,3,4,5,7],zkh103,zkf103,95880,[],zkd103,fun _ _ _ => by kernel_rfl⟩,⟨⟨[1,2,6,7],zkh103,zkf103,95880,[],zkd103,fun _ _ _ => by kernel_rfl⟩,trivial⟩⟩⟩⟩⟩,
 ⟨⟨⟨[0,2,5,7],zkh103,zkf103,95900,[],zkd103,fun _ _ _ => by kernel_rfl⟩,⟨⟨[1,3,4,7],zkh103,zkf103,95900,[],zkd103,fun _ _ _ => by kernel_rfl⟩,⟨⟨[4,5,7],zkh103,zkf103,95900,[],zkd103,fun _ _ _ => by kernel_rfl⟩,⟨⟨[0,1,3,4,5,7],zkh103,zkf103,95900,[],zkd103,fun _ _ _ => by kernel_rfl⟩,⟨⟨[1,2,6,7],zkh103,zkf103,95900,[],zkd103,fun _ _ _ => by kernel_rfl⟩,trivial⟩⟩⟩⟩⟩,
 ⟨⟨⟨[0,2,5,7],zkh103,zkf103,95920,[],zkd103,fun _ _ _ => by kernel_rfl⟩,⟨⟨[1,3,4,7],zkh103,zkf103,95920,[],zkd103,fun _ _ _ => by kernel_rfl⟩,⟨⟨[4,5,7],zkh103,zkf103,95920,[],zkd103,fun _ _ _ => by kernel_rfl⟩,⟨⟨[0,1,3,4,5,7],zkh103,zkf103,95920,[],zkd103,fun _ _ _ => by kernel_rfl⟩,⟨⟨[1,2,6,7],zkh103,zkf103,95920,[],zkd103,fun _ _ _ => by kernel_rfl⟩,trivial⟩⟩⟩⟩⟩,
 trivial⟩⟩⟩⟩⟩
theorem zlz103 : zXs103 (endV zvs103 zsg103) = zs103 := by kernel_rfl
theorem zlp103 (f : FuncId) (v : Value) (k : Fin tab f v zs103) : Fin tab f v zs102 :=
  .loop (ops := opsOf (zk251)) (o := zop103) (rest := zre103) (k := zkk103) (it := .tmp 14) (r := 95819) (m := 95818) (since := 5) (L0 := 5) (cl := 5) (es := zes103) (vals := zvs103) (σ0 := zsg103) (Q := zQs103) (H := zHs103) (X := zXs103) (nsx := [1]) (keepx := zkx103) (fsx := zkg103) (nxx := 95920) (usx := []) (dsx := [])
    (by kernel_rfl) (fun _ _ _ => by kernel_rfl) (by kernel_rfl) (by kernel_rfl) (fun _ _ _ _ => by kernel_rfl) (fun _ _ _ _ => by kernel_rfl) (fun _ _ _ _ => by kernel_rfl) (fun _ _ _ _ => by kernel_rfl) (fun _ _ _ _ => by kernel_rfl) (by kernel_rfl) (by kernel_rfl) (by decide +kernel) zlv103 (fun _ _ _ => by kernel_rfl) (by rw [zlz103]; exact k)
theorem ze104 : gcS (keys zh104) (keys zg104) 96439 (arun tab 14 zs103) = zs104 := by kernel_rfl
theorem run25 (f : FuncId) (v : Value) (k : Fin tab f v zs104) : Fin tab f v zs100 := .run 14 _ _ _ ze101 (.runw [] _ _ _ [(95815, [(vs [70,82,69,69,67,79,85,78,84]),(vs [70,82,69,69]),(vs [82,69,84,73,82,69,68]),(vs [82,69,84,67,79,85,78,84]),(vs [83,69,69,78])])] [(8, 0),(9, 0)] ze102 (zlp103 f v (.run 14 _ _ _ ze104 (k))))
end Go.Proofs.YtnolnidldipfpaaGreatDoor.Sim
