/- The run of the law, from state 88 to state 92. No condition. -/
import Derived.Test.YtnolnidldipfpaaGreatDoorLoSt1
import Derived.KernelRfl
set_option maxRecDepth 100000
namespace Go.Proofs.YtnolnidldipfpaaGreatDoor.Sim
open Go Go.RowKit
theorem ze89 : gcS (keys zh89) (keys zg89) 94666 (arun tab 14 zs88) = zs89 := by kernel_rfl
theorem ze90 : canS (keys zh90) (keys zg90) 94666 [(94661, [(vs [70,82,69,69,67,79,85,78,84]),(vs [70,82,69,69]),(vs [82,69,84,73,82,69,68]),(vs [82,69,84,67,79,85,78,84]),(vs [83,69,69,78])])] [(8, 0),(9, 0)] (aruns tab [] zs89) = zs90 := by kernel_rfl
noncomputable def zQh91 (S : List Nat) (L : Nat) (σ : Nat → Option Value) : LH := app [(94661,.mapU [(zw27,(σ 0)),(zw28,(σ 1)),(zw29,(σ 2)),(zw30,(σ 3)),(zw31,(σ 4))]),(94665,.miter (some 94664) 5 S L)] (rmv zh90 [94661,94665])
noncomputable def zQs91 (j : Nat) (S : List Nat) (L : Nat) (σ : Nat → Option Value) : ASt := ⟨(zF 308 49 [(sa 68813 0),(sa 83490 0),(si 1),(sa 94656 0),(sa 94657 0),(sa 94658 0),(so vp),(sa 94663 0),no,no,(sa 83490 0),(sa 94663 0),(so (.map (some 94664))),(so (.map (some 94664))),(sa 94665 0)] [] [iR zk251 0,.code zk252,.inLoop zk253,.inBlock 0,.code zk105]), zc90, ⟨tput (zQh91 S L σ), Nat.add 94666 (Nat.mul j 20), tput (zg90)⟩⟩
noncomputable def zHh91 (S : List Nat) (σ : Nat → Option Value) : LH := app [(94661,.mapU [(zw27,(σ 0)),(zw28,(σ 1)),(zw29,(σ 2)),(zw30,(σ 3)),(zw31,(σ 4))]),(94665,.miter (some 94664) 5 S 5)] (rmv zh90 [94661,94665])
noncomputable def zHs91 (j : Nat) (S : List Nat) (σ : Nat → Option Value) : ASt := ⟨(zF 308 49 [(sa 68813 0),(sa 83490 0),(si 1),(sa 94656 0),(sa 94657 0),(sa 94658 0),(so vp),(sa 94663 0),no,no,(sa 83490 0),(sa 94663 0),(so (.map (some 94664))),(so (.map (some 94664))),(sa 94665 0)] [] [.inLoop zk253,.inBlock 0,.code zk105]), zc90, ⟨tput (zHh91 S σ), Nat.add 94666 (Nat.mul j 20), tput (zg90)⟩⟩
noncomputable def zXh91 (σ : Nat → Option Value) : LH := app [(94661,.mapU [(zw27,(σ 0)),(zw28,(σ 1)),(zw29,(σ 2)),(zw30,(σ 3)),(zw31,(σ 4))])] (rmv zh90 [94661,94665])
noncomputable def zXs91 (σ : Nat → Option Value) : ASt := ⟨zf46, zc90, ⟨tput (zXh91 σ), 94766, tput (zg90)⟩⟩
noncomputable def zes91 : List MapEntry := [⟨zw27, zw6, 0⟩,⟨zw28, zw5, 1⟩,⟨zw29, zw7, 2⟩,⟨zw30, zw8, 3⟩,⟨zw31, zw9, 4⟩]
noncomputable def zvs91 : List Value := [(vi 1048920),(vi 1048912),(vi 1048928),(vi 1048984),(vi 1048992)]
noncomputable def zsg91 : Nat → Option Value := sg [no,no,no,no,no]
noncomputable def zop91 : Oper := opAt (zk251) 0
noncomputable def zre91 : List Oper := dropN (opsOf (zk251)).toList 1
noncomputable def zkk91 : List AItem := [.code zk252,.inLoop zk253,.inBlock 0,.code zk105]
noncomputable def zkh91 : List Nat := keys (zHh91 [] (fun _ => none))
noncomputable def zkx91 : List Nat := keys (zXh91 (fun _ => none))
noncomputable def zkf91 : List Nat := [58584,58959,64009,64840,68817,71271,80082,83461,86199,86474,86951,86991,87092,87160,87849,94614]
noncomputable def zkg91 : List Nat := [58584,58959,64009,64840,68817,71271,80082,83461,86199,86474,86951,86991,87092,87160,87849,94614]
noncomputable def zkd91 : List (Nat × Nat) := [(8, 0),(9, 0)]
theorem zlv91 : LevelsOk tab 94665 94664 5 5 zQs91 zHs91 zes91 zvs91 zes91.length 0 :=
 ⟨⟨⟨[0,2,5,7],zkh91,zkf91,94686,[],zkd91,fun _ _ _ => by kernel_rfl⟩,⟨⟨[1,3,4,7],zkh91,zkf91,94686,[],zkd91,fun _ _ _ => by kernel_rfl⟩,⟨⟨[4,5,7],zkh91,zkf91,94686,[],zkd91,fun _ _ _ => by kernel_rfl⟩,⟨⟨[0,1,3,4,5,7],zkh91,zkf91,94686,[],zkd91,fun _ _ _ => by kernel_rfl⟩,⟨⟨[1,2,6,7],zkh91,zkf91,94686,[],zkd91,fun _ _ _ => by kernel_rfl⟩,trivial⟩⟩⟩⟩⟩,
 ⟨⟨⟨[0,2,5,7],zkh91,zkf91,94706,[],zkd91,fun _ _ _ => by kernel_rfl⟩,⟨⟨[1,3,4,7],zkh91,zkf91,94706,[],zkd91,fun _ _ _ => by kernel_rfl⟩,⟨⟨[4,5,7],zkh91,zkf91,94706,[],zkd91,fun _ _ _ => by kernel_rfl⟩,⟨⟨[0,1,3,4,5,7],zkh91,zkf91,94706,[],zkd91,fun _ _ _ => by kernel_rfl⟩,⟨⟨[1,2,6,7],zkh91,zkf91,94706,[],zkd91,fun _ _ _ => by kernel_rfl⟩,trivial⟩⟩⟩⟩⟩,
 ⟨⟨⟨[0,2,5,7],zkh91,zkf91,94726,[],zkd91,fun _ _ _ => by kernel_rfl⟩,⟨⟨[1,3,4,7],zkh91,zkf91,94726,[],zkd91,fun _ _ _ => by kernel_rfl⟩,⟨⟨[4,5,7],zkh91,zkf91,94726,[],zkd91,fun _ _ _ => by kernel_rfl⟩,⟨⟨[0,1,3,4,5,7],zkh91,zkf91,94726,[],zkd91,fun _ _ _ => by kernel_rfl⟩,⟨⟨[1,2,6,7],zkh91,zkf91,94726,[],zkd91,fun _ _ _ => by kernel_rfl⟩,trivial⟩⟩⟩⟩⟩,
 ⟨⟨⟨[0,2,5,7],zkh91,zkf91,94746,[],zkd91,fun _ _ _ => by kernel_rfl⟩,⟨⟨[1,3,4,7],zkh91,zkf91,94746,[],zkd91,fun _ _ _ => by kernel_rfl⟩,⟨⟨[4,5,7],zkh91,zkf91,94746,[],zkd91,fun _ _ _ => by kernel_rfl⟩,⟨⟨[0,1,3,4,5,7],zkh91,zkf91,94746,[],zkd91,fun _ _ _ => by kernel_rfl⟩,⟨⟨[1,2,6,7],zkh91,zkf91,94746,[],zkd91,fun _ _ _ => by kernel_rfl⟩,trivial⟩⟩⟩⟩⟩,
 ⟨⟨⟨[0,2,5,7],zkh91,zkf91,94766,[],zkd91,fun _ _ _ => by kernel_rfl⟩,⟨⟨[1,3,4,7],zkh91,zkf91,94766,[],zkd91,fun _ _ _ => by kernel_rfl⟩,⟨⟨[4,5,7],zkh91,zkf91,94766,[],zkd91,fun _ _ _ => by kernel_rfl⟩,⟨⟨[0,1,3,4,5,7],zkh91,zkf91,94766,[],zkd91,fun _ _ _ => by kernel_rfl⟩,⟨⟨[1,2,6,7],zkh91,zkf91,94766,[],zkd91,fun _ _ _ => by kernel_rfl⟩,trivial⟩⟩⟩⟩⟩,
 trivial⟩⟩⟩⟩⟩
theorem zlz91 : zXs91 (endV zvs91 zsg91) = zs91 := by kernel_rfl
theorem zlp91 (f : FuncId) (v : Value) (k : Fin tab f v zs91) : Fin tab f v zs90 :=
  .loop (ops := opsOf (zk251)) (o := zop91) (rest := zre91) (k := zkk91) (it := .tmp 14) (r := 94665) (m := 94664) (since := 5) (L0 := 5) (cl := 5) (es := zes91) (vals := zvs91) (σ0 := zsg91) (Q := zQs91) (H := zHs91) (X := zXs91) (nsx := [1]) (keepx := zkx91) (fsx := zkg91) (nxx := 94766) (usx := []) (dsx := [])
    (by kernel_rfl) (fun _ _ _ => by kernel_rfl) (by kernel_rfl) (by kernel_rfl) (fun _ _ _ _ => by kernel_rfl) (fun _ _ _ _ => by kernel_rfl) (fun _ _ _ _ => by kernel_rfl) (fun _ _ _ _ => by kernel_rfl) (fun _ _ _ _ => by kernel_rfl) (by kernel_rfl) (by kernel_rfl) (by decide +kernel) zlv91 (fun _ _ _ => by kernel_rfl) (by rw [zlz91]; exact k)
theorem ze92 : gcS (keys zh92) (keys zg92) 95152 (arun tab 14 zs91) = zs92 := by kernel_rfl
theorem run22 (f : FuncId) (v : Value) (k : Fin tab f v zs92) : Fin tab f v zs88 := .run 14 _ _ _ ze89 (.runw [] _ _ _ [(94661, [(vs [70,82,69,69,67,79,85,78,84]),(vs [70,82,69,69]),(vs [82,69,84,73,82,69,68]),(vs [82,69,84,67,79,85,78,84]),(vs [83,69,69,78])])] [(8, 0),(9, 0)] ze90 (zlp91 f v (.run 14 _ _ _ ze92 (k))))
end Go.Proofs.YtnolnidldipfpaaGreatDoor.Sim
