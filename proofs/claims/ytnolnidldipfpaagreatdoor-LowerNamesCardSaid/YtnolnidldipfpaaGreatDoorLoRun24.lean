/- The run of the law, from state 96 to state 100. No condition. -/
import Derived.Test.YtnolnidldipfpaaGreatDoorLoSt1
import Derived.KernelRfl
set_option maxRecDepth 100000
namespace Go.Proofs.YtnolnidldipfpaaGreatDoor.Sim
open Go Go.RowKit
noncomputable def zQh97 (S : List Nat) (L : Nat) (σ : Nat → Option Value) : LH := app [(95321,.mapU [(zw27,(σ 0)),(zw28,(σ 1)),(zw29,(σ 2)),(zw30,(σ 3)),(zw31,(σ 4))]),(95325,.miter (some 95324) 5 S L)] (rmv zh96 [95321,95325])
noncomputable def zQs97 (j : Nat) (S : List Nat) (L : Nat) (σ : Nat → Option Value) : ASt := ⟨(zF 308 49 [(sa 68813 0),(sa 83490 0),(si 1),(sa 95316 0),(sa 95317 0),(sa 95318 0),(so vp),(sa 95323 0),no,no,(sa 83490 0),(sa 95323 0),(so (.map (some 95324))),(so (.map (some 95324))),(sa 95325 0)] [] [iR zk251 0,.code zk252,.inLoop zk253,.inBlock 0,.code zk105]), zc96, ⟨tput (zQh97 S L σ), Nat.add 95326 (Nat.mul j 20), tput (zg96)⟩⟩
noncomputable def zHh97 (S : List Nat) (σ : Nat → Option Value) : LH := app [(95321,.mapU [(zw27,(σ 0)),(zw28,(σ 1)),(zw29,(σ 2)),(zw30,(σ 3)),(zw31,(σ 4))]),(95325,.miter (some 95324) 5 S 5)] (rmv zh96 [95321,95325])
noncomputable def zHs97 (j : Nat) (S : List Nat) (σ : Nat → Option Value) : ASt := ⟨(zF 308 49 [(sa 68813 0),(sa 83490 0),(si 1),(sa 95316 0),(sa 95317 0),(sa 95318 0),(so vp),(sa 95323 0),no,no,(sa 83490 0),(sa 95323 0),(so (.map (some 95324))),(so (.map (some 95324))),(sa 95325 0)] [] [.inLoop zk253,.inBlock 0,.code zk105]), zc96, ⟨tput (zHh97 S σ), Nat.add 95326 (Nat.mul j 20), tput (zg96)⟩⟩
noncomputable def zXh97 (σ : Nat → Option Value) : LH := app [(95321,.mapU [(zw27,(σ 0)),(zw28,(σ 1)),(zw29,(σ 2)),(zw30,(σ 3)),(zw31,(σ 4))])] (rmv zh96 [95321,95325])
noncomputable def zXs97 (σ : Nat → Option Value) : ASt := ⟨zf50, zc96, ⟨tput (zXh97 σ), 95426, tput (zg96)⟩⟩
noncomputable def zes97 : List MapEntry := [⟨zw27, zw6, 0⟩,⟨zw28, zw5, 1⟩,⟨zw29, zw7, 2⟩,⟨zw30, zw8, 3⟩,⟨zw31, zw9, 4⟩]
noncomputable def zvs97 : List Value := [(vi 1048920),(vi 1048912),(vi 1048928),(vi 1048984),(vi 1048992)]
noncomputable def zsg97 : Nat → Option Value := sg [no,no,no,no,no]
noncomputable def zop97 : Oper := opAt (zk251) 0
noncomputable def zre97 : List Oper := dropN (opsOf (zk251)).toList 1
noncomputable def zkk97 : List AItem := [.code zk252,.inLoop zk253,.inBlock 0,.code zk105]
noncomputable def zkh97 : List Nat := keys (zHh97 [] (fun _ => none))
noncomputable def zkx97 : List Nat := keys (zXh97 (fun _ => none))
noncomputable def zkf97 : List Nat := [58584,58959,64009,64840,68817,71271,80082,83461,86199,86474,86951,86991,87849]
noncomputable def zkg97 : List Nat := [58584,58959,64009,64840,68817,71271,80082,83461,86199,86474,86951,86991,87849]
noncomputable def zkd97 : List (Nat × Nat) := [(8, 0),(9, 0)]
theorem zlv97 : LevelsOk tab 95325 95324 5 5 zQs97 zHs97 zes97 zvs97 zes97.length 0 :=
 ⟨⟨⟨[0,2,5,7],zkh97,zkf97,95346,[],zkd97,fun _ _ _ => by kernel_rfl⟩,⟨⟨[1,3,4,7],zkh97,zkf97,95346,[],zkd97,fun _ _ _ => by kernel_rfl⟩,⟨⟨[4,5,7],zkh97,zkf97,95346,[],zkd97,fun _ _ _ => by kernel_rfl⟩,⟨⟨[0,1,3,4,5,7],zkh97,zkf97,95346,[],zkd97,fun _ _ _ => by kernel_rfl⟩,⟨⟨[1,2,6,7],zkh97,zkf97,95346,[],zkd97,fun _ _ _ => by kernel_rfl⟩,trivial⟩⟩⟩⟩⟩,
 ⟨⟨⟨[0,2,5,7],zkh97,zkf97,95366,[],zkd97,fun _ _ _ => by kernel_rfl⟩,⟨⟨[1,3,4,7],zkh97,zkf97,95366,[],zkd97,fun _ _ _ => by kernel_rfl⟩,⟨⟨[4,5,7],zkh97,zkf97,95366,[],zkd97,fun _ _ _ => by kernel_rfl⟩,⟨⟨[0,1,3,4,5,7],zkh97,zkf97,95366,[],zkd97,fun _ _ _ => by kernel_rfl⟩,⟨⟨[1,2,6,7],zkh97,zkf97,95366,[],zkd97,fun _ _ _ => by kernel_rfl⟩,trivial⟩⟩⟩⟩⟩,
 ⟨⟨⟨[0,2,5,7],zkh97,zkf97,95386,[],zkd97,fun _ _ _ => by kernel_rfl⟩,⟨⟨[1,3,4,7],zkh97,zkf97,95386,[],zkd97,fun _ _ _ => by kernel_rfl⟩,⟨⟨[4,5,7],zkh97,zkf97,95386,[],zkd97,fun _ _ _ => by kernel_rfl⟩,⟨⟨[0,1,3,4,5,7],zkh97,zkf97,95386,[],zkd97,fun _ _ _ => by kernel_rfl⟩,⟨⟨[1,2,6,7],zkh97,zkf97,95386,[],zkd97,fun _ _ _ => by kernel_rfl⟩,trivial⟩⟩⟩⟩⟩,
 ⟨⟨⟨[0,2,5,7],zkh97,zkf97,95406,[],zkd97,fun _ _ _ => by kernel_rfl⟩,⟨⟨[1,3,4,7],zkh97,zkf97,95406,[],zkd97,fun _ _ _ => by kernel_rfl⟩,⟨⟨[4,5,7],zkh97,zkf97,95406,[],zkd97,fun _ _ _ => by kernel_rfl⟩,⟨⟨[0,1,3,4,5,7],zkh97,zkf97,95406,[],zkd97,fun _ _ _ => by kernel_rfl⟩,⟨⟨[1,2,6,7],zkh97,zkf97,95406,[],zkd97,fun _ _ _ => by kernel_rfl⟩,trivial⟩⟩⟩⟩⟩,
 ⟨⟨⟨[0,2,5,7],zkh97,zkf97,95426,[],zkd97,fun _ _ _ => by kernel_rfl⟩,⟨⟨[1,3,4,7],zkh97,zkf97,95426,[],zkd97,fun _ _ _ => by kernel_rfl⟩,⟨⟨[4,5,7],zkh97,zkf97,95426,[],zkd97,fun _ _ _ => by kernel_rfl⟩,⟨⟨[0,1,3,4,5,7],zkh97,zkf97,95426,[],zkd97,fun _ _ _ => by kernel_rfl⟩,⟨⟨[1,2,6,7],zkh97,zkf97,95426,[],zkd97,fun _ _ _ => by kernel_rfl⟩,trivial⟩⟩⟩⟩⟩,
 trivial⟩⟩⟩⟩⟩
theorem zlz97 : zXs97 (endV zvs97 zsg97) = zs97 := by kernel_rfl
theorem zlp97 (f : FuncId) (v : Value) (k : Fin tab f v zs97) : Fin tab f v zs96 :=
  .loop (ops := opsOf (zk251)) (o := zop97) (rest := zre97) (k := zkk97) (it := .tmp 14) (r := 95325) (m := 95324) (since := 5) (L0 := 5) (cl := 5) (es := zes97) (vals := zvs97) (σ0 := zsg97) (Q := zQs97) (H := zHs97) (X := zXs97) (nsx := [1]) (keepx := zkx97) (fsx := zkg97) (nxx := 95426) (usx := []) (dsx := [])
    (by kernel_rfl) (fun _ _ _ => by kernel_rfl) (by kernel_rfl) (by kernel_rfl) (fun _ _ _ _ => by kernel_rfl) (fun _ _ _ _ => by kernel_rfl) (fun _ _ _ _ => by kernel_rfl) (fun _ _ _ _ => by kernel_rfl) (fun _ _ _ _ => by kernel_rfl) (by kernel_rfl) (by kernel_rfl) (by decide +kernel) zlv97 (fun _ _ _ => by kernel_rfl) (by rw [zlz97]; exact k)
theorem ze98 : gcS (keys zh98) (keys zg98) 95573 (arun tab 14 zs97) = zs98 := by kernel_rfl
theorem ze99 : canS (keys zh99) (keys zg99) 95573 [(95568, [(vs [70,82,69,69,67,79,85,78,84]),(vs [70,82,69,69]),(vs [82,69,84,73,82,69,68]),(vs [82,69,84,67,79,85,78,84]),(vs [83,69,69,78])])] [(8, 0),(9, 0)] (aruns tab [] zs98) = zs99 := by kernel_rfl
noncomputable def zQh100 (S : List Nat) (L : Nat) (σ : Nat → Option Value) : LH := app [(95568,.mapU [(zw27,(σ 0)),(zw28,(σ 1)),(zw29,(σ 2)),(zw30,(σ 3)),(zw31,(σ 4))]),(95572,.miter (some 95571) 5 S L)] (rmv zh99 [95568,95572])
noncomputable def zQs100 (j : Nat) (S : List Nat) (L : Nat) (σ : Nat → Option Value) : ASt := ⟨(zF 308 49 [(sa 68813 0),(sa 83490 0),(si 1),(sa 95563 0),(sa 95564 0),(sa 95565 0),(so vp),(sa 95570 0),no,no,(sa 83490 0),(sa 95570 0),(so (.map (some 95571))),(so (.map (some 95571))),(sa 95572 0)] [] [iR zk251 0,.code zk252,.inLoop zk253,.inBlock 0,.code zk105]), zc99, ⟨tput (zQh100 S L σ), Nat.add 95573 (Nat.mul j 20), tput (zg99)⟩⟩
noncomputable def zHh100 (S : List Nat) (σ : Nat → Option Value) : LH := app [(95568,.mapU [(zw27,(σ 0)),(zw28,(σ 1)),(zw29,(σ 2)),(zw30,(σ 3)),(zw31,(σ 4))]),(95572,.miter (some 95571) 5 S 5)] (rmv zh99 [95568,95572])
noncomputable def zHs100 (j : Nat) (S : List Nat) (σ : Nat → Option Value) : ASt := ⟨(zF 308 49 [(sa 68813 0),(sa 83490 0),(si 1),(sa 95563 0),(sa 95564 0),(sa 95565 0),(so vp),(sa 95570 0),no,no,(sa 83490 0),(sa 95570 0),(so (.map (some 95571))),(so (.map (some 95571))),(sa 95572 0)] [] [.inLoop zk253,.inBlock 0,.code zk105]), zc99, ⟨tput (zHh100 S σ), Nat.add 95573 (Nat.mul j 20), tput (zg99)⟩⟩
noncomputable def zXh100 (σ : Nat → Option Value) : LH := app [(95568,.mapU [(zw27,(σ 0)),(zw28,(σ 1)),(zw29,(σ 2)),(zw30,(σ 3)),(zw31,(σ 4))])] (rmv zh99 [95568,95572])
noncomputable def zXs100 (σ : Nat → Option Value) : ASt := ⟨zf52, zc99, ⟨tput (zXh100 σ), 95673, tput (zg99)⟩⟩
noncomputable def zes100 : List MapEntry := [⟨zw27, zw6, 0⟩,⟨zw28, zw5, 1⟩,⟨zw29, zw7, 2⟩,⟨zw30, zw8, 3⟩,⟨zw31, zw9, 4⟩]
noncomputable def zvs100 : List Value := [(vi 1048920),(vi 1048912),(vi 1048928),(vi 1048984),(vi 1048992)]
noncomputable def zsg100 : Nat → Option Value := sg [no,no,no,no,no]
noncomputable def zop100 : Oper := opAt (zk251) 0
noncomputable def zre100 : List Oper := dropN (opsOf (zk251)).toList 1
noncomputable def zkk100 : List AItem := [.code zk252,.inLoop zk253,.inBlock 0,.code zk105]
noncomputable def zkh100 : List Nat := keys (zHh100 [] (fun _ => none))
noncomputable def zkx100 : List Nat := keys (zXh100 (fun _ => none))
noncomputable def zkf100 : List Nat := [58584,58959,64009,64840,68817,71271,80082,83461,86199,86474,86951,86991,87849]
noncomputable def zkg100 : List Nat := [58584,58959,64009,64840,68817,71271,80082,83461,86199,86474,86951,86991,87849]
noncomputable def zkd100 : List (Nat × Nat) := [(8, 0),(9, 0)]
theorem zlv100 : LevelsOk tab 95572 95571 5 5 zQs100 zHs100 zes100 zvs100 zes100.length 0 :=
 ⟨⟨⟨[0,2,5,7],zkh100,zkf100,95593,[],zkd100,fun _ _ _ => by kernel_rfl⟩,⟨⟨[1,3,4,7],zkh100,zkf100,95593,[],zkd100,fun _ _ _ => by kernel_rfl⟩,⟨⟨[4,5,7],zkh100,zkf100,95593,[],zkd100,fun _ _ _ => by kernel_rfl⟩,⟨⟨[0,1,3,4,5,7],zkh100,zkf100,95593,[],zkd100,fun _ _ _ => by kernel_rfl⟩,⟨⟨[1,2,6,7],zkh100,zkf100,95593,[],zkd100,fun _ _ _ => by kernel_rfl⟩,trivial⟩⟩⟩⟩⟩,
 ⟨⟨⟨[0,2,5,7],zkh100,zkf100,95613,[],zkd100,fun _ _ _ => by kernel_rfl⟩,⟨⟨[1,3,4,7],zkh100,zkf100,95613,[],zkd100,fun _ _ _ => by kernel_rfl⟩,⟨⟨[4,5,7],zkh100,zkf100,95613,[],zkd100,fun _ _ _ => by kernel_rfl⟩,⟨⟨[0,1,3,4,5,7],zkh100,zkf100,95613,[],zkd100,fun _ _ _ => by kernel_rfl⟩,⟨⟨[1,2,6,7],zkh100,zkf100,95613,[],zkd100,fun _ _ _ => by kernel_rfl⟩,trivial⟩⟩⟩⟩⟩,
 ⟨⟨⟨[0,2,5,7],zkh100,zkf100,95633,[],zkd100,fun _ _ _ => by kernel_rfl⟩,⟨⟨[1,3,4,7],zkh100,zkf100,95633,[],zkd100,fun _ _ _ => by kernel_rfl⟩,⟨⟨[4,5,7],zkh100,zkf100,95633,[],zkd100,fun _ _ _ => by kernel_rfl⟩,⟨⟨[0,1,3,4,5,7],zkh100,zkf100,95633,[],zkd100,fun _ _ _ => by kernel_rfl⟩,⟨⟨[1,2,6,7],zkh100,zkf100,95633,[],zkd100,fun _ _ _ => by kernel_rfl⟩,trivial⟩⟩⟩⟩⟩,
 ⟨⟨⟨[0,2,5,7],zkh100,zkf100,95653,[],zkd100,fun _ _ _ => by kernel_rfl⟩,⟨⟨[1,3,4,7],zkh100,zkf100,95653,[],zkd100,fun _ _ _ => by kernel_rfl⟩,⟨⟨[4,5,7],zkh100,zkf100,95653,[],zkd100,fun _ _ _ => by kernel_rfl⟩,⟨⟨[0,1,3,4,5,7],zkh100,zkf100,95653,[],zkd100,fun _ _ _ => by kernel_rfl⟩,⟨⟨[1,2,6,7],zkh100,zkf100,95653,[],zkd100,fun _ _ _ => by kernel_rfl⟩,trivial⟩⟩⟩⟩⟩,
 ⟨⟨⟨[0,2,5,7],zkh100,zkf100,95673,[],zkd100,fun _ _ _ => by kernel_rfl⟩,⟨⟨[1,3,4,7],zkh100,zkf100,95673,[],zkd100,fun _ _ _ => by kernel_rfl⟩,⟨⟨[4,5,7],zkh100,zkf100,95673,[],zkd100,fun _ _ _ => by kernel_rfl⟩,⟨⟨[0,1,3,4,5,7],zkh100,zkf100,95673,[],zkd100,fun _ _ _ => by kernel_rfl⟩,⟨⟨[1,2,6,7],zkh100,zkf100,95673,[],zkd100,fun _ _ _ => by kernel_rfl⟩,trivial⟩⟩⟩⟩⟩,
 trivial⟩⟩⟩⟩⟩
theorem zlz100 : zXs100 (endV zvs100 zsg100) = zs100 := by kernel_rfl
theorem zlp100 (f : FuncId) (v : Value) (k : Fin tab f v zs100) : Fin tab f v zs99 :=
  .loop (ops := opsOf (zk251)) (o := zop100) (rest := zre100) (k := zkk100) (it := .tmp 14) (r := 95572) (m := 95571) (since := 5) (L0 := 5) (cl := 5) (es := zes100) (vals := zvs100) (σ0 := zsg100) (Q := zQs100) (H := zHs100) (X := zXs100) (nsx := [1]) (keepx := zkx100) (fsx := zkg100) (nxx := 95673) (usx := []) (dsx := [])
    (by kernel_rfl) (fun _ _ _ => by kernel_rfl) (by kernel_rfl) (by kernel_rfl) (fun _ _ _ _ => by kernel_rfl) (fun _ _ _ _ => by kernel_rfl) (fun _ _ _ _ => by kernel_rfl) (fun _ _ _ _ => by kernel_rfl) (fun _ _ _ _ => by kernel_rfl) (by kernel_rfl) (by kernel_rfl) (by decide +kernel) zlv100 (fun _ _ _ => by kernel_rfl) (by rw [zlz100]; exact k)
theorem run24 (f : FuncId) (v : Value) (k : Fin tab f v zs100) : Fin tab f v zs96 := zlp97 f v (.run 14 _ _ _ ze98 (.runw [] _ _ _ [(95568, [(vs [70,82,69,69,67,79,85,78,84]),(vs [70,82,69,69]),(vs [82,69,84,73,82,69,68]),(vs [82,69,84,67,79,85,78,84]),(vs [83,69,69,78])])] [(8, 0),(9, 0)] ze99 (zlp100 f v (k))))
end Go.Proofs.YtnolnidldipfpaaGreatDoor.Sim
