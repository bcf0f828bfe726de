/- The run of the law, from state 84 to state 88. No condition. -/
import Derived.Test.YtnolnidldipfpaaGreatDoorLoSt1
import Derived.KernelRfl
set_option maxRecDepth 100000
namespace Go.Proofs.YtnolnidldipfpaaGreatDoor.Sim
open Go Go.RowKit
theorem ze85 : gcS (keys zh85) (keys zg85) 93297 (arun tab 14 zs84) = zs85 := by kernel_rfl
theorem ze86 : canS (keys zh86) (keys zg86) 93297 [(93292, [(vs [70,82,69,69,67,79,85,78,84]),(vs [70,82,69,69]),(vs [82,69,84,73,82,69,68]),(vs [82,69,84,67,79,85,78,84]),(vs [83,69,69,78])])] [(8, 0),(9, 0)] (aruns tab [] zs85) = zs86 := by kernel_rfl
noncomputable def zQh87 (S : List Nat) (L : Nat) (σ : Nat → Option Value) : LH := app [(93292,.mapU [(zw27,(σ 0)),(zw28,(σ 1)),(zw29,(σ 2)),(zw30,(σ 3)),(zw31,(σ 4))]),(93296,.miter (some 93295) 5 S L)] (rmv zh86 [93292,93296])
noncomputable def zQs87 (j : Nat) (S : List Nat) (L : Nat) (σ : Nat → Option Value) : ASt := ⟨(zF 308 49 [(sa 68813 0),(sa 83490 0),(si 1),(sa 93287 0),(sa 93288 0),(sa 93289 0),(so vp),(sa 93294 0),no,no,(sa 83490 0),(sa 93294 0),(so (.map (some 93295))),(so (.map (some 93295))),(sa 93296 0)] [] [iR zk251 0,.code zk252,.inLoop zk253,.inBlock 0,.code zk105]), zc86, ⟨tput (zQh87 S L σ), Nat.add 93297 (Nat.mul j 20), tput (zg86)⟩⟩
noncomputable def zHh87 (S : List Nat) (σ : Nat → Option Value) : LH := app [(93292,.mapU [(zw27,(σ 0)),(zw28,(σ 1)),(zw29,(σ 2)),(zw30,(σ 3)),(zw31,(σ 4))]),(93296,.miter (some 93295) 5 S 5)] (rmv zh86 [93292,93296])
noncomputable def zHs87 (j : Nat) (S : List Nat) (σ : Nat → Option Value) : ASt := ⟨(zF 308 49 [(sa 68813 0),(sa 83490 0),(si 1),(sa 93287 0),(sa 93288 0),(sa 93289 0),(so vp),(sa 93294 0),no,no,(sa 83490 0),(sa 93294 0),(so (.map (some 93295))),(so (.map (some 93295))),(sa 93296 0)] [] [.inLoop zk253,.inBlock 0,.code zk105]), zc86, ⟨tput (zHh87 S σ), Nat.add 93297 (Nat.mul j 20), tput (zg86)⟩⟩
noncomputable def zXh87 (σ : Nat → Option Value) : LH := app [(93292,.mapU [(zw27,(σ 0)),(zw28,(σ 1)),(zw29,(σ 2)),(zw30,(σ 3)),(zw31,(σ 4))])] (rmv zh86 [93292,93296])
noncomputable def zXs87 (σ : Nat → Option Value) : ASt := ⟨zf44, zc86, ⟨tput (zXh87 σ), 93397, tput (zg86)⟩⟩
noncomputable def zes87 : List MapEntry := [⟨zw27, zw6, 0⟩,⟨zw28, zw5, 1⟩,⟨zw29, zw7, 2⟩,⟨zw30, zw8, 3⟩,⟨zw31, zw9, 4⟩]
noncomputable def zvs87 : List Value := [(vi 1048920),(vi 1048912),(vi 1048928),(vi 1048984),(vi 1048992)]
noncomputable def zsg87 : Nat → Option Value := sg [no,no,no,no,no]
noncomputable def zop87 : Oper := opAt (zk251) 0
noncomputable def zre87 : List Oper := dropN (opsOf (zk251)).toList 1
noncomputable def zkk87 : List AItem := [.code zk252,.inLoop zk253,.inBlock 0,.code zk105]
noncomputable def zkh87 : List Nat := keys (zHh87 [] (fun _ => none))
noncomputable def zkx87 : List Nat := keys (zXh87 (fun _ => none))
noncomputable def zkf87 : List Nat := [58584,58959,64009,64840,68817,71271,80082,83461,86199,86474,86951,86991,87092,87160,87849,89393,89564,90671,93268]
noncomputable def zkg87 : List Nat := [58584,58959,64009,64840,68817,71271,80082,83461,86199,86474,86951,86991,87092,87160,87849,89393,89564,90671,93268]
noncomputable def zkd87 : List (Nat × Nat) := [(8, 0),(9, 0)]
theorem zlv87 : LevelsOk tab 93296 93295 5 5 zQs87 zHs87 zes87 zvs87 zes87.length 0 :=
 ⟨⟨⟨[0,2,5,7],zkh87,zkf87,93317,[],zkd87,fun _ _ _ => by kernel_rfl⟩,⟨⟨[1,3,4,7],zkh87,zkf87,93317,[],zkd87,fun _ _ _ => by kernel_rfl⟩,⟨⟨[4,5,7],zkh87,zkf87,93317,[],zkd87,fun _ _ _ => by kernel_rfl⟩,⟨⟨[0,1,3,4,5,7],zkh87,zkf87,93317,[],zkd87,fun _ _ _ => by kernel_rfl⟩,⟨⟨[1,2,6,7],zkh87,zkf87,93317,[],zkd87,fun _ _ _ => by kernel_rfl⟩,trivial⟩⟩⟩⟩⟩,
 ⟨⟨⟨[0,2,5,7],zkh87,zkf87,93337,[],zkd87,fun _ _ _ => by kernel_rfl⟩,⟨⟨[1,3,4,7],zkh87,zkf87,93337,[],zkd87,fun _ _ _ => by kernel_rfl⟩,⟨⟨[4,5,7],zkh87,zkf87,93337,[],zkd87,fun _ _ _ => by kernel_rfl⟩,⟨⟨[0,1,3,4,5,7],zkh87,zkf87,93337,[],zkd87,fun _ _ _ => by kernel_rfl⟩,⟨⟨[1,2,6,7],zkh87,zkf87,93337,[],zkd87,fun _ _ _ => by kernel_rfl⟩,trivial⟩⟩⟩⟩⟩,
 ⟨⟨⟨[0,2,5,7],zkh87,zkf87,93357,[],zkd87,fun _ _ _ => by kernel_rfl⟩,⟨⟨[1,3,4,7],zkh87,zkf87,93357,[],zkd87,fun _ _ _ => by kernel_rfl⟩,⟨⟨[4,5,7],zkh87,zkf87,93357,[],zkd87,fun _ _ _ => by kernel_rfl⟩,⟨⟨[0,1,3,4,5,7],zkh87,zkf87,93357,[],zkd87,fun _ _ _ => by kernel_rfl⟩,⟨⟨[1,2,6,7],zkh87,zkf87,93357,[],zkd87,fun _ _ _ => by kernel_rfl⟩,trivial⟩⟩⟩⟩⟩,
 ⟨⟨⟨[0,2,5,7],zkh87,zkf87,93377,[],zkd87,fun _ _ _ => by kernel_rfl⟩,⟨⟨[1,3,4,7],zkh87,zkf87,93377,[],zkd87,fun _ _ _ => by kernel_rfl⟩,⟨⟨[4,5,7],zkh87,zkf87,93377,[],zkd87,fun _ _ _ => by kernel_rfl⟩,⟨⟨[0,1,3,4,5,7],zkh87,zkf87,93377,[],zkd87,fun _ _ _ => by kernel_rfl⟩,⟨⟨[1,2,6,7],zkh87,zkf87,93377,[],zkd87,fun _ _ _ => by kernel_rfl⟩,trivial⟩⟩⟩⟩⟩,
 ⟨⟨⟨[0,2,5,7],zkh87,zkf87,93397,[],zkd87,fun _ _ _ => by kernel_rfl⟩,⟨⟨[1,3,4,7],zkh87,zkf87,93397,[],zkd87,fun _ _ _ => by kernel_rfl⟩,⟨⟨[4,5,7],zkh87,zkf87,93397,[],zkd87,fun _ _ _ => by kernel_rfl⟩,⟨⟨[0,1,3,4,5,7],zkh87,zkf87,93397,[],zkd87,fun _ _ _ => by kernel_rfl⟩,⟨⟨[1,2,6,7],zkh87,zkf87,93397,[],zkd87,fun _ _ _ => by kernel_rfl⟩,trivial⟩⟩⟩⟩⟩,
 trivial⟩⟩⟩⟩⟩
theorem zlz87 : zXs87 (endV zvs87 zsg87) = zs87 := by kernel_rfl
theorem zlp87 (f : FuncId) (v : Value) (k : Fin tab f v zs87) : Fin tab f v zs86 :=
  .loop (ops := opsOf (zk251)) (o := zop87) (rest := zre87) (k := zkk87) (it := .tmp 14) (r := 93296) (m := 93295) (since := 5) (L0 := 5) (cl := 5) (es := zes87) (vals := zvs87) (σ0 := zsg87) (Q := zQs87) (H := zHs87) (X := zXs87) (nsx := [1]) (keepx := zkx87) (fsx := zkg87) (nxx := 93397) (usx := []) (dsx := [])
    (by kernel_rfl) (fun _ _ _ => by kernel_rfl) (by kernel_rfl) (by kernel_rfl) (fun _ _ _ _ => by kernel_rfl) (fun _ _ _ _ => by kernel_rfl) (fun _ _ _ _ => by kernel_rfl) (fun _ _ _ _ => by kernel_rfl) (fun _ _ _ _ => by kernel_rfl) (by kernel_rfl) (by kernel_rfl) (by decide +kernel) zlv87 (fun _ _ _ => by kernel_rfl) (by rw [zlz87]; exact k)
theorem ze88 : gcS (keys zh88) (keys zg88) 93557 (arun tab 14 zs87) = zs88 := by kernel_rfl
theorem run21 (f : FuncId) (v : Value) (k : Fin tab f v zs88) : Fin tab f v zs84 := .run 14 _ _ _ ze85 (.runw [] _ _ _ [(93292, [(vs [70,82,69,69,67,79,85,78,84]),(vs [70,82,69,69]),(vs [82,69,84,73,82,69,68]),(vs [82,69,84,67,79,85,78,84]),(vs [83,69,69,78])])] [(8, 0),(9, 0)] ze86 (zlp87 f v (.run 14 _ _ _ ze88 (k))))
end Go.Proofs.YtnolnidldipfpaaGreatDoor.Sim
