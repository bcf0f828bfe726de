/- The run of the law, from state 8 to state 12. No condition. -/
import Derived.Test.YtnolnidldipfpaaGreatDoorLoSt1
import Derived.KernelRfl
set_option maxRecDepth 100000
namespace Go.Proofs.YtnolnidldipfpaaGreatDoor.Sim
open Go Go.RowKit
noncomputable def zQh9 (S : List Nat) (L : Nat) (σ : Nat → Option Value) : LH := app [(12161,.mapU [(zw27,(σ 0)),(zw28,(σ 1)),(zw29,(σ 2)),(zw30,(σ 3)),(zw31,(σ 4))]),(12165,.miter (some 12164) 5 S L)] (rmv zh8 [12161,12165])
noncomputable def zQs9 (j : Nat) (S : List Nat) (L : Nat) (σ : Nat → Option Value) : ASt := ⟨(zF 308 49 [(sa 9443 0),(sa 10239 0),(si 0),(sa 12156 0),(sa 12157 0),(sa 12158 0),(so vp),(sa 12163 0),no,no,(sa 10239 0),(sa 12163 0),(so (.map (some 12164))),(so (.map (some 12164))),(sa 12165 0)] [] [iR zk251 0,.code zk252,.inLoop zk253,.inBlock 0,.code zk105]), zc8, ⟨tput (zQh9 S L σ), Nat.add 12166 (Nat.mul j 14), tput (zg8)⟩⟩
noncomputable def zHh9 (S : List Nat) (σ : Nat → Option Value) : LH := app [(12161,.mapU [(zw27,(σ 0)),(zw28,(σ 1)),(zw29,(σ 2)),(zw30,(σ 3)),(zw31,(σ 4))]),(12165,.miter (some 12164) 5 S 5)] (rmv zh8 [12161,12165])
noncomputable def zHs9 (j : Nat) (S : List Nat) (σ : Nat → Option Value) : ASt := ⟨(zF 308 49 [(sa 9443 0),(sa 10239 0),(si 0),(sa 12156 0),(sa 12157 0),(sa 12158 0),(so vp),(sa 12163 0),no,no,(sa 10239 0),(sa 12163 0),(so (.map (some 12164))),(so (.map (some 12164))),(sa 12165 0)] [] [.inLoop zk253,.inBlock 0,.code zk105]), zc8, ⟨tput (zHh9 S σ), Nat.add 12166 (Nat.mul j 14), tput (zg8)⟩⟩
noncomputable def zXh9 (σ : Nat → Option Value) : LH := app [(12161,.mapU [(zw27,(σ 0)),(zw28,(σ 1)),(zw29,(σ 2)),(zw30,(σ 3)),(zw31,(σ 4))])] (rmv zh8 [12161,12165])
noncomputable def zXs9 (σ : Nat → Option Value) : ASt := ⟨zf9, zc8, ⟨tput (zXh9 σ), 12236, tput (zg8)⟩⟩
noncomputable def zes9 : List MapEntry := [⟨zw27, zw6, 0⟩,⟨zw28, zw5, 1⟩,⟨zw29, zw7, 2⟩,⟨zw30, zw8, 3⟩,⟨zw31, zw9, 4⟩]
noncomputable def zvs9 : List Value := [(vi 1048744),(vi 1048728),(vi 1048752),(vi 1048784),(vi 1048792)]
noncomputable def zsg9 : Nat → Option Value := sg [no,no,no,no,no]
noncomputable def zop9 : Oper := opAt (zk251) 0
noncomputable def zre9 : List Oper := dropN (opsOf (zk251)).toList 1
noncomputable def zkk9 : List AItem := [.code zk252,.inLoop zk253,.inBlock 0,.code zk105]
noncomputable def zkh9 : List Nat := keys (zHh9 [] (fun _ => none))
noncomputable def zkx9 : List Nat := keys (zXh9 (fun _ => none))
noncomputable def zkf9 : List Nat := [5017,5940,8676,9447,10176,10873,11173,11846,11886]
noncomputable def zkg9 : List Nat := [5017,5940,8676,9447,10176,10873,11173,11846,11886]
noncomputable def zkd9 : List (Nat × Nat) := [(8, 0),(9, 0)]
theorem zlv9 : LevelsOk tab 12165 12164 5 5 zQs9 zHs9 zes9 zvs9 zes9.length 0 :=
 ⟨⟨⟨[0,1,5,6],zkh9,zkf9,12180,[],zkd9,fun _ _ _ => by kernel_rfl⟩,⟨⟨[3,4,6],zkh9,zkf9,12180,[],zkd9,fun _ _ _ => by kernel_rfl⟩,⟨⟨[1,2,3,5,6],zkh9,zkf9,12180,[],zkd9,fun _ _ _ => by kernel_rfl⟩,⟨⟨[0,3,4,5,6],zkh9,zkf9,12180,[],zkd9,fun _ _ _ => by kernel_rfl⟩,⟨⟨[2,7],zkh9,zkf9,12180,[],zkd9,fun _ _ _ => by kernel_rfl⟩,trivial⟩⟩⟩⟩⟩,
 ⟨⟨⟨[0,1,5,6],zkh9,zkf9,12194,[],zkd9,fun _ _ _ => by kernel_rfl⟩,⟨⟨[3,4,6],zkh9,zkf9,12194,[],zkd9,fun _ _ _ => by kernel_rfl⟩,⟨⟨[1,2,3,5,6],zkh9,zkf9,12194,[],zkd9,fun _ _ _ => by kernel_rfl⟩,⟨⟨[0,3,4,5,6],zkh9,zkf9,12194,[],zkd9,fun _ _ _ => by kernel_rfl⟩,⟨⟨[2,7],zkh9,zkf9,12194,[],zkd9,fun _ _ _ => by kernel_rfl⟩,trivial⟩⟩⟩⟩⟩,
 ⟨⟨⟨[0,1,5,6],zkh9,zkf9,12208,[],zkd9,fun _ _ _ => by kernel_rfl⟩,⟨⟨[3,4,6],zkh9,zkf9,12208,[],zkd9,fun _ _ _ => by kernel_rfl⟩,⟨⟨[1,2,3,5,6],zkh9,zkf9,12208,[],zkd9,fun _ _ _ => by kernel_rfl⟩,⟨⟨[0,3,4,5,6],zkh9,zkf9,12208,[],zkd9,fun _ _ _ => by kernel_rfl⟩,⟨⟨[2,7],zkh9,zkf9,12208,[],zkd9,fun _ _ _ => by kernel_rfl⟩,trivial⟩⟩⟩⟩⟩,
 ⟨⟨⟨[0,1,5,6],zkh9,zkf9,12222,[],zkd9,fun _ _ _ => by kernel_rfl⟩,⟨⟨[3,4,6],zkh9,zkf9,12222,[],zkd9,fun _ _ _ => by kernel_rfl⟩,⟨⟨[1,2,3,5,6],zkh9,zkf9,12222,[],zkd9,fun _ _ _ => by kernel_rfl⟩,⟨⟨[0,3,4,5,6],zkh9,zkf9,12222,[],zkd9,fun _ _ _ => by kernel_rfl⟩,⟨⟨[2,7],zkh9,zkf9,12222,[],zkd9,fun _ _ _ => by kernel_rfl⟩,trivial⟩⟩⟩⟩⟩,
 ⟨⟨⟨[0,1,5,6],zkh9,zkf9,12236,[],zkd9,fun _ _ _ => by kernel_rfl⟩,⟨⟨[3,4,6],zkh9,zkf9,12236,[],zkd9,fun _ _ _ => by kernel_rfl⟩,⟨⟨[1,2,3,5,6],zkh9,zkf9,12236,[],zkd9,fun _ _ _ => by kernel_rfl⟩,⟨⟨[0,3,4,5,6],zkh9,zkf9,12236,[],zkd9,fun _ _ _ => by kernel_rfl⟩,⟨⟨[2,7],zkh9,zkf9,12236,[],zkd9,fun _ _ _ => by kernel_rfl⟩,trivial⟩⟩⟩⟩⟩,
 trivial⟩⟩⟩⟩⟩
theorem zlz9 : zXs9 (endV zvs9 zsg9) = zs9 := by kernel_rfl
theorem zlp9 (f : FuncId) (v : Value) (k : Fin tab f v zs9) : Fin tab f v zs8 :=
  .loop (ops := opsOf (zk251)) (o := zop9) (rest := zre9) (k := zkk9) (it := .tmp 14) (r := 12165) (m := 12164) (since := 5) (L0 := 5) (cl := 5) (es := zes9) (vals := zvs9) (σ0 := zsg9) (Q := zQs9) (H := zHs9) (X := zXs9) (nsx := [1]) (keepx := zkx9) (fsx := zkg9) (nxx := 12236) (usx := []) (dsx := [])
    (by kernel_rfl) (fun _ _ _ => by kernel_rfl) (by kernel_rfl) (by kernel_rfl) (fun _ _ _ _ => by kernel_rfl) (fun _ _ _ _ => by kernel_rfl) (fun _ _ _ _ => by kernel_rfl) (fun _ _ _ _ => by kernel_rfl) (fun _ _ _ _ => by kernel_rfl) (by kernel_rfl) (by kernel_rfl) (by decide +kernel) zlv9 (fun _ _ _ => by kernel_rfl) (by rw [zlz9]; exact k)
theorem ze10 : gcS (keys zh10) (keys zg10) 12402 (arun tab 14 zs9) = zs10 := by kernel_rfl
theorem ze11 : gcS (keys zh11) (keys zg11) 12564 (arun tab 14 zs10) = zs11 := by kernel_rfl
theorem ze12 : gcS (keys zh12) (keys zg12) 12797 (arun tab 14 zs11) = zs12 := by kernel_rfl
theorem run2 (f : FuncId) (v : Value) (k : Fin tab f v zs12) : Fin tab f v zs8 := zlp9 f v (.run 14 _ _ _ ze10 (.run 14 _ _ _ ze11 (.run 14 _ _ _ ze12 (k))))
end Go.Proofs.YtnolnidldipfpaaGreatDoor.Sim
