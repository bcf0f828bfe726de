/- The run of the law, from state 20 to state 24. No condition. -/
import Derived.Test.YtnolnidldipfpaaGreatDoorLoSt1
import Derived.KernelRfl
set_option maxRecDepth 100000
namespace Go.Proofs.YtnolnidldipfpaaGreatDoor.Sim
open Go Go.RowKit
theorem ze21 : canS (keys zh21) (keys zg21) 15526 [(15521, [(vs [70,82,69,69,67,79,85,78,84]),(vs [70,82,69,69]),(vs [82,69,84,73,82,69,68]),(vs [82,69,84,67,79,85,78,84]),(vs [83,69,69,78])])] [(8, 0),(9, 0)] (aruns tab [] zs20) = zs21 := by kernel_rfl
noncomputable def zQh22 (S : List Nat) (L : Nat) (σ : Nat → Option Value) : LH := app [(15521,.mapU [(zw27,(σ 0)),(zw28,(σ 1)),(zw29,(σ 2)),(zw30,(σ 3)),(zw31,(σ 4))]),(15525,.miter (some 15524) 5 S L)] (rmv zh21 [15521,15525])
noncomputable def zQs22 (j : Nat) (S : List Nat) (L : Nat) (σ : Nat → Option Value) : ASt := ⟨(zF 308 49 [(sa 9443 0),(sa 10239 0),(si 0),(sa 15516 0),(sa 15517 0),(sa 15518 0),(so vp),(sa 15523 0),no,no,(sa 10239 0),(sa 15523 0),(so (.map (some 15524))),(so (.map (some 15524))),(sa 15525 0)] [] [iR zk251 0,.code zk252,.inLoop zk253,.inBlock 0,.code zk105]), zc21, ⟨tput (zQh22 S L σ), Nat.add 15526 (Nat.mul j 14), tput (zg21)⟩⟩
noncomputable def zHh22 (S : List Nat) (σ : Nat → Option Value) : LH := app [(15521,.mapU [(zw27,(σ 0)),(zw28,(σ 1)),(zw29,(σ 2)),(zw30,(σ 3)),(zw31,(σ 4))]),(15525,.miter (some 15524) 5 S 5)] (rmv zh21 [15521,15525])
noncomputable def zHs22 (j : Nat) (S : List Nat) (σ : Nat → Option Value) : ASt := ⟨(zF 308 49 [(sa 9443 0),(sa 10239 0),(si 0),(sa 15516 0),(sa 15517 0),(sa 15518 0),(so vp),(sa 15523 0),no,no,(sa 10239 0),(sa 15523 0),(so (.map (some 15524))),(so (.map (some 15524))),(sa 15525 0)] [] [.inLoop zk253,.inBlock 0,.code zk105]), zc21, ⟨tput (zHh22 S σ), Nat.add 15526 (Nat.mul j 14), tput (zg21)⟩⟩
noncomputable def zXh22 (σ : Nat → Option Value) : LH := app [(15521,.mapU [(zw27,(σ 0)),(zw28,(σ 1)),(zw29,(σ 2)),(zw30,(σ 3)),(zw31,(σ 4))])] (rmv zh21 [15521,15525])
noncomputable def zXs22 (σ : Nat → Option Value) : ASt := ⟨zf15, zc21, ⟨tput (zXh22 σ), 15596, tput (zg21)⟩⟩
noncomputable def zes22 : List MapEntry := [⟨zw27, zw6, 0⟩,⟨zw28, zw5, 1⟩,⟨zw29, zw7, 2⟩,⟨zw30, zw8, 3⟩,⟨zw31, zw9, 4⟩]
noncomputable def zvs22 : List Value := [(vi 1048744),(vi 1048728),(vi 1048752),(vi 1048784),(vi 1048792)]
noncomputable def zsg22 : Nat → Option Value := sg [no,no,no,no,no]
noncomputable def zop22 : Oper := opAt (zk251) 0
noncomputable def zre22 : List Oper := dropN (opsOf (zk251)).toList 1
noncomputable def zkk22 : List AItem := [.code zk252,.inLoop zk253,.inBlock 0,.code zk105]
noncomputable def zkh22 : List Nat := keys (zHh22 [] (fun _ => none))
noncomputable def zkx22 : List Nat := keys (zXh22 (fun _ => none))
noncomputable def zkf22 : List Nat := [5017,5940,8676,9447,10176,10873,11173,11846,11886,12269,12691,12900,15497]
noncomputable def zkg22 : List Nat := [5017,5940,8676,9447,10176,10873,11173,11846,11886,12269,12691,12900,15497]
noncomputable def zkd22 : List (Nat × Nat) := [(8, 0),(9, 0)]
theorem zlv22 : LevelsOk tab 15525 15524 5 5 zQs22 zHs22 zes22 zvs22 zes22.length 0 :=
 ⟨⟨⟨[0,1,5,6],zkh22,zkf22,15540,[],zkd22,fun _ _ _ => by kernel_rfl⟩,⟨⟨[3,4,6],zkh22,zkf22,15540,[],zkd22,fun _ _ _ => by kernel_rfl⟩,⟨⟨[1,2,3,5,6],zkh22,zkf22,15540,[],zkd22,fun _ _ _ => by kernel_rfl⟩,⟨⟨[0,3,4,5,6],zkh22,zkf22,15540,[],zkd22,fun _ _ _ => by kernel_rfl⟩,⟨⟨[2,7],zkh22,zkf22,15540,[],zkd22,fun _ _ _ => by kernel_rfl⟩,trivial⟩⟩⟩⟩⟩,
 ⟨⟨⟨[0,1,5,6],zkh22,zkf22,15554,[],zkd22,fun _ _ _ => by kernel_rfl⟩,⟨⟨[3,4,6],zkh22,zkf22,15554,[],zkd22,fun _ _ _ => by kernel_rfl⟩,⟨⟨[1,2,3,5,6],zkh22,zkf22,15554,[],zkd22,fun _ _ _ => by kernel_rfl⟩,⟨⟨[0,3,4,5,6],zkh22,zkf22,15554,[],zkd22,fun _ _ _ => by kernel_rfl⟩,⟨⟨[2,7],zkh22,zkf22,15554,[],zkd22,fun _ _ _ => by kernel_rfl⟩,trivial⟩⟩⟩⟩⟩,
 ⟨⟨⟨[0,1,5,6],zkh22,zkf22,15568,[],zkd22,fun _ _ _ => by kernel_rfl⟩,⟨⟨[3,4,6],zkh22,zkf22,15568,[],zkd22,fun _ _ _ => by kernel_rfl⟩,⟨⟨[1,2,3,5,6],zkh22,zkf22,15568,[],zkd22,fun _ _ _ => by kernel_rfl⟩,⟨⟨[0,3,4,5,6],zkh22,zkf22,15568,[],zkd22,fun _ _ _ => by kernel_rfl⟩,⟨⟨[2,7],zkh22,zkf22,15568,[],zkd22,fun _ _ _ => by kernel_rfl⟩,trivial⟩⟩⟩⟩⟩,
 ⟨⟨⟨[0,1,5,6],zkh22,zkf22,15582,[],zkd22,fun _ _ _ => by kernel_rfl⟩,⟨⟨[3,4,6],zkh22,zkf22,15582,[],zkd22,fun _ _ _ => by kernel_rfl⟩,⟨⟨[1,2,3,5,6],zkh22,zkf22,15582,[],zkd22,fun _ _ _ => by kernel_rfl⟩,⟨⟨[0,3,4,5,6],zkh22,zkf22,15582,[],zkd22,fun _ _ _ => by kernel_rfl⟩,⟨⟨[2,7],zkh22,zkf22,15582,[],zkd22,fun _ _ _ => by kernel_rfl⟩,trivial⟩⟩⟩⟩⟩,
 ⟨⟨⟨[0,1,5,6],zkh22,zkf22,15596,[],zkd22,fun _ _ _ => by kernel_rfl⟩,⟨⟨[3,4,6],zkh22,zkf22,15596,[],zkd22,fun _ _ _ => by kernel_rfl⟩,⟨⟨[1,2,3,5,6],zkh22,zkf22,15596,[],zkd22,fun _ _ _ => by kernel_rfl⟩,⟨⟨[0,3,4,5,6],zkh22,zkf22,15596,[],zkd22,fun _ _ _ => by kernel_rfl⟩,⟨⟨[2,7],zkh22,zkf22,15596,[],zkd22,fun _ _ _ => by kernel_rfl⟩,trivial⟩⟩⟩⟩⟩,
 trivial⟩⟩⟩⟩⟩
theorem zlz22 : zXs22 (endV zvs22 zsg22) = zs22 := by kernel_rfl
theorem zlp22 (f : FuncId) (v : Value) (k : Fin tab f v zs22) : Fin tab f v zs21 :=
  .loop (ops := opsOf (zk251)) (o := zop22) (rest := zre22) (k := zkk22) (it := .tmp 14) (r := 15525) (m := 15524) (since := 5) (L0 := 5) (cl := 5) (es := zes22) (vals := zvs22) (σ0 := zsg22) (Q := zQs22) (H := zHs22) (X := zXs22) (nsx := [1]) (keepx := zkx22) (fsx := zkg22) (nxx := 15596) (usx := []) (dsx := [])
    (by kernel_rfl) (fun _ _ _ => by kernel_rfl) (by kernel_rfl) (by kernel_rfl) (fun _ _ _ _ => by kernel_rfl) (fun _ _ _ _ => by kernel_rfl) (fun _ _ _ _ => by kernel_rfl) (fun _ _ _ _ => by kernel_rfl) (fun _ _ _ _ => by kernel_rfl) (by kernel_rfl) (by kernel_rfl) (by decide +kernel) zlv22 (fun _ _ _ => by kernel_rfl) (by rw [zlz22]; exact k)
theorem ze23 : gcS (keys zh23) (keys zg23) 15756 (arun tab 14 zs22) = zs23 := by kernel_rfl
theorem ze24 : gcS (keys zh24) (keys zg24) 17578 (arun tab 14 zs23) = zs24 := by kernel_rfl
theorem run5 (f : FuncId) (v : Value) (k : Fin tab f v zs24) : Fin tab f v zs20 := .runw [] _ _ _ [(15521, [(vs [70,82,69,69,67,79,85,78,84]),(vs [70,82,69,69]),(vs [82,69,84,73,82,69,68]),(vs [82,69,84,67,79,85,78,84]),(vs [83,69,69,78])])] [(8, 0),(9, 0)] ze21 (zlp22 f v (.run 14 _ _ _ ze23 (.run 14 _ _ _ ze24 (k))))
end Go.Proofs.YtnolnidldipfpaaGreatDoor.Sim
