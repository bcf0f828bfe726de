/- The run of the law, from state 68 to state 72. No condition. -/
import Derived.Test.YtnolnidldipfpaaGreatDoorLoSt1
import Derived.KernelRfl
set_option maxRecDepth 100000
namespace Go.Proofs.YtnolnidldipfpaaGreatDoor.Sim
open Go Go.RowKit
theorem ze69 : gcS (keys zh69) (keys zg69) 88726 (arun tab 14 zs68) = zs69 := by kernel_rfl
theorem ze70 : canS (keys zh70) (keys zg70) 88726 [(88721, [(vs [70,82,69,69,67,79,85,78,84]),(vs [70,82,69,69]),(vs [82,69,84,73,82,69,68]),(vs [82,69,84,67,79,85,78,84]),(vs [83,69,69,78])])] [(8, 0),(9, 0)] (aruns tab [] zs69) = zs70 := by kernel_rfl
noncomputable def zQh71 (S : List Nat) (L : Nat) (σ : Nat → Option Value) : LH := app [(88721,.mapU [(zw27,(σ 0)),(zw28,(σ 1)),(zw29,(σ 2)),(zw30,(σ 3)),(zw31,(σ 4))]),(88725,.miter (some 88724) 5 S L)] (rmv zh70 [88721,88725])
noncomputable def zQs71 (j : Nat) (S : List Nat) (L : Nat) (σ : Nat → Option Value) : ASt := ⟨(zF 308 49 [(sa 68813 0),(sa 83490 0),(si 1),(sa 88716 0),(sa 88717 0),(sa 88718 0),(so vp),(sa 88723 0),no,no,(sa 83490 0),(sa 88723 0),(so (.map (some 88724))),(so (.map (some 88724))),(sa 88725 0)] [] [iR zk251 0,.code zk252,.inLoop zk253,.inBlock 0,.code zk105]), zc70, ⟨tput (zQh71 S L σ), Nat.add 88726 (Nat.mul j 20), tput (zg70)⟩⟩
noncomputable def zHh71 (S : List Nat) (σ : Nat → Option Value) : LH := app [(88721,.mapU [(zw27,(σ 0)),(zw28,(σ 1)),(zw29,(σ 2)),(zw30,(σ 3)),(zw31,(σ 4))]),(88725,.miter (some 88724) 5 S 5)] (rmv zh70 [88721,88725])
noncomputable def zHs71 (j : Nat) (S : List Nat) (σ : Nat → Option Value) : ASt := ⟨(zF 308 49 [(sa 68813 0),(sa 83490 0),(si 1),(sa 88716 0),(sa 88717 0),(sa 88718 0),(so vp),(sa 88723 0),no,no,(sa 83490 0),(sa 88723 0),(so (.map (some 88724))),(so (.map (some 88724))),(sa 88725 0)] [] [.inLoop zk253,.inBlock 0,.code zk105]), zc70, ⟨tput (zHh71 S σ), Nat.add 88726 (Nat.mul j 20), tput (zg70)⟩⟩
noncomputable def zXh71 (σ : Nat → Option Value) : LH := app [(88721,.mapU [(zw27,(σ 0)),(zw28,(σ 1)),(zw29,(σ 2)),(zw30,(σ 3)),(zw31,(σ 4))])] (rmv zh70 [88721,88725])
noncomputable def zXs71 (σ : Nat → Option Value) : ASt := ⟨zf38, zc70, ⟨tput (zXh71 σ), 88826, tput (zg70)⟩⟩
noncomputable def zes71 : List MapEntry := [⟨zw27, zw6, 0⟩,⟨zw28, zw5, 1⟩,⟨zw29, zw7, 2⟩,⟨zw30, zw8, 3⟩,⟨zw31, zw9, 4⟩]
noncomputable def zvs71 : List Value := [(vi 1048920),(vi 1048912),(vi 1048928),(vi 1048984),(vi 1048992)]
noncomputable def zsg71 : Nat → Option Value := sg [no,no,no,no,no]
noncomputable def zop71 : Oper := opAt (zk251) 0
noncomputable def zre71 : List Oper := dropN (opsOf (zk251)).toList 1
noncomputable def zkk71 : List AItem := [.code zk252,.inLoop zk253,.inBlock 0,.code zk105]
noncomputable def zkh71 : List Nat := keys (zHh71 [] (fun _ => none))
noncomputable def zkx71 : List Nat := keys (zXh71 (fun _ => none))
noncomputable def zkf71 : List Nat := [58584,58959,64009,64840,68817,71271,80082,83461,86199,86474,86951,86991,87092,87160,87849,88674]
noncomputable def zkg71 : List Nat := [58584,58959,64009,64840,68817,71271,80082,83461,86199,86474,86951,86991,87092,87160,87849,88674]
noncomputable def zkd71 : List (Nat × Nat) := [(8, 0),(9, 0)]
theorem zlv71 : LevelsOk tab 88725 88724 5 5 zQs71 zHs71 zes71 zvs71 zes71.length 0 :=
 ⟨⟨⟨[0,2,5,7],zkh71,zkf71,88746,[],zkd71,fun _ _ _ => by kernel_rfl⟩,⟨⟨[1,3,4,7],zkh71,zkf71,88746,[],zkd71,fun _ _ _ => by kernel_rfl⟩,⟨⟨[4,5,7],zkh71,zkf71,88746,[],zkd71,fun _ _ _ => by kernel_rfl⟩,⟨⟨[0,1,3,4,5,7],zkh71,zkf71,88746,[],zkd71,fun _ _ _ => by kernel_rfl⟩,⟨⟨[1,2,6,7],zkh71,zkf71,88746,[],zkd71,fun _ _ _ => by kernel_rfl⟩,trivial⟩⟩⟩⟩⟩,
 ⟨⟨⟨[0,2,5,7],zkh71,zkf71,88766,[],zkd71,fun _ _ _ => by kernel_rfl⟩,⟨⟨[1,3,4,7],zkh71,zkf71,88766,[],zkd71,fun _ _ _ => by kernel_rfl⟩,⟨⟨[4,5,7],zkh71,zkf71,88766,[],zkd71,fun _ _ _ => by kernel_rfl⟩,⟨⟨[0,1,3,4,5,7],zkh71,zkf71,88766,[],zkd71,fun _ _ _ => by kernel_rfl⟩,⟨⟨[1,2,6,7],zkh71,zkf71,88766,[],zkd71,fun _ _ _ => by kernel_rfl⟩,trivial⟩⟩⟩⟩⟩,
 ⟨⟨⟨[0,2,5,7],zkh71,zkf71,88786,[],zkd71,fun _ _ _ => by kernel_rfl⟩,⟨⟨[1,3,4,7],zkh71,zkf71,88786,[],zkd71,fun _ _ _ => by kernel_rfl⟩,⟨⟨[4,5,7],zkh71,zkf71,88786,[],zkd71,fun _ _ _ => by kernel_rfl⟩,⟨⟨[0,1,3,4,5,7],zkh71,zkf71,88786,[],zkd71,fun _ _ _ => by kernel_rfl⟩,⟨⟨[1,2,6,7],zkh71,zkf71,88786,[],zkd71,fun _ _ _ => by kernel_rfl⟩,trivial⟩⟩⟩⟩⟩,
 ⟨⟨⟨[0,2,5,7],zkh71,zkf71,88806,[],zkd71,fun _ _ _ => by kernel_rfl⟩,⟨⟨[1,3,4,7],zkh71,zkf71,88806,[],zkd71,fun _ _ _ => by kernel_rfl⟩,⟨⟨[4,5,7],zkh71,zkf71,88806,[],zkd71,fun _ _ _ => by kernel_rfl⟩,⟨⟨[0,1,3,4,5,7],zkh71,zkf71,88806,[],zkd71,fun _ _ _ => by kernel_rfl⟩,⟨⟨[1,2,6,7],zkh71,zkf71,88806,[],zkd71,fun _ _ _ => by kernel_rfl⟩,trivial⟩⟩⟩⟩⟩,
 ⟨⟨⟨[0,2,5,7],zkh71,zkf71,88826,[],zkd71,fun _ _ _ => by kernel_rfl⟩,⟨⟨[1,3,4,7],zkh71,zkf71,88826,[],zkd71,fun _ _ _ => by kernel_rfl⟩,⟨⟨[4,5,7],zkh71,zkf71,88826,[],zkd71,fun _ _ _ => by kernel_rfl⟩,⟨⟨[0,1,3,4,5,7],zkh71,zkf71,88826,[],zkd71,fun _ _ _ => by kernel_rfl⟩,⟨⟨[1,2,6,7],zkh71,zkf71,88826,[],zkd71,fun _ _ _ => by kernel_rfl⟩,trivial⟩⟩⟩⟩⟩,
 trivial⟩⟩⟩⟩⟩
theorem zlz71 : zXs71 (endV zvs71 zsg71) = zs71 := by kernel_rfl
theorem zlp71 (f : FuncId) (v : Value) (k : Fin tab f v zs71) : Fin tab f v zs70 :=
  .loop (ops := opsOf (zk251)) (o := zop71) (rest := zre71) (k := zkk71) (it := .tmp 14) (r := 88725) (m := 88724) (since := 5) (L0 := 5) (cl := 5) (es := zes71) (vals := zvs71) (σ0 := zsg71) (Q := zQs71) (H := zHs71) (X := zXs71) (nsx := [1]) (keepx := zkx71) (fsx := zkg71) (nxx := 88826) (usx := []) (dsx := [])
    (by kernel_rfl) (fun _ _ _ => by kernel_rfl) (by kernel_rfl) (by kernel_rfl) (fun _ _ _ _ => by kernel_rfl) (fun _ _ _ _ => by kernel_rfl) (fun _ _ _ _ => by kernel_rfl) (fun _ _ _ _ => by kernel_rfl) (fun _ _ _ _ => by kernel_rfl) (by kernel_rfl) (by kernel_rfl) (by decide +kernel) zlv71 (fun _ _ _ => by kernel_rfl) (by rw [zlz71]; exact k)
theorem ze72 : gcS (keys zh72) (keys zg72) 89431 (arun tab 14 zs71) = zs72 := by kernel_rfl
theorem run17 (f : FuncId) (v : Value) (k : Fin tab f v zs72) : Fin tab f v zs68 := .run 14 _ _ _ ze69 (.runw [] _ _ _ [(88721, [(vs [70,82,69,69,67,79,85,78,84]),(vs [70,82,69,69]),(vs [82,69,84,73,82,69,68]),(vs [82,69,84,67,79,85,78,84]),(vs [83,69,69,78])])] [(8, 0),(9, 0)] ze70 (zlp71 f v (.run 14 _ _ _ ze72 (k))))
end Go.Proofs.YtnolnidldipfpaaGreatDoor.Sim
