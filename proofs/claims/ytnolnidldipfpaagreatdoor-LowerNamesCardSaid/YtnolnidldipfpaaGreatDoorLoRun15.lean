/- The run of the law, from state 60 to state 64. No condition. -/
import Derived.Test.YtnolnidldipfpaaGreatDoorLoSt1
import Derived.KernelRfl
set_option maxRecDepth 100000
namespace Go.Proofs.YtnolnidldipfpaaGreatDoor.Sim
open Go Go.RowKit
noncomputable def zQh61 (S : List Nat) (L : Nat) (σ : Nat → Option Value) : LH := app [(87134,.mapU [((vs [120]),(so (vi 2))),((vs [112]),(σ 0)),((vs [99]),(σ 1)),((vs [109]),(σ 2)),((vs [102]),(σ 3))]),(87140,.miter (some 87139) 4 S L)] (rmv zh60 [87134,87140])
noncomputable def zQs61 (_j : Nat) (S : List Nat) (L : Nat) (σ : Nat → Option Value) : ASt := ⟨(zF 273 58 [(sa 86958 0),(si 2),no,no,(sa 87109 0),(sa 87131 0),(sa 87138 0),no,no,(sa 86958 0),(sa 86958 0),(sa 86958 5),(sa 86964 0),(si 6),(sa 86958 0),(sa 86958 0),(sa 86958 5),(sa 86964 0),(si 7),(sa 86958 0),(sa 86958 0),(sa 86958 5),(sa 86964 0),(si 8),(sa 86958 0),(sa 86958 0),(sa 86958 5),(sa 86964 0),(si 9),(so zw281),(sa 86958 0),(sa 87138 0),(sa 87138 0),(si 2),(so (vq [])),(so (.map (some 87139))),(sa 87131 0),(si 6),(sa 87131 1),(si 7),(sa 87131 2),(si 8),(sa 87131 3),(si 9),(so (.map (some 87139))),(sa 87140 0)] [] [iR zk257 0,.code zk258,.inLoop zk259,.inBlock 0,.code zk219]), zc60, ⟨tput (zQh61 S L σ), 87141, tput (zg60)⟩⟩
noncomputable def zHh61 (S : List Nat) (σ : Nat → Option Value) : LH := app [(87134,.mapU [((vs [120]),(so (vi 2))),((vs [112]),(σ 0)),((vs [99]),(σ 1)),((vs [109]),(σ 2)),((vs [102]),(σ 3))]),(87140,.miter (some 87139) 4 S 4)] (rmv zh60 [87134,87140])
noncomputable def zHs61 (_j : Nat) (S : List Nat) (σ : Nat → Option Value) : ASt := ⟨(zF 273 58 [(sa 86958 0),(si 2),no,no,(sa 87109 0),(sa 87131 0),(sa 87138 0),no,no,(sa 86958 0),(sa 86958 0),(sa 86958 5),(sa 86964 0),(si 6),(sa 86958 0),(sa 86958 0),(sa 86958 5),(sa 86964 0),(si 7),(sa 86958 0),(sa 86958 0),(sa 86958 5),(sa 86964 0),(si 8),(sa 86958 0),(sa 86958 0),(sa 86958 5),(sa 86964 0),(si 9),(so zw281),(sa 86958 0),(sa 87138 0),(sa 87138 0),(si 2),(so (vq [])),(so (.map (some 87139))),(sa 87131 0),(si 6),(sa 87131 1),(si 7),(sa 87131 2),(si 8),(sa 87131 3),(si 9),(so (.map (some 87139))),(sa 87140 0)] [] [.inLoop zk259,.inBlock 0,.code zk219]), zc60, ⟨tput (zHh61 S σ), 87141, tput (zg60)⟩⟩
noncomputable def zXh61 (σ : Nat → Option Value) : LH := app [(87134,.mapU [((vs [120]),(so (vi 2))),((vs [112]),(σ 0)),((vs [99]),(σ 1)),((vs [109]),(σ 2)),((vs [102]),(σ 3))])] (rmv zh60 [87134,87140])
noncomputable def zXs61 (σ : Nat → Option Value) : ASt := ⟨zf34, zc60, ⟨tput (zXh61 σ), 87141, tput (zg60)⟩⟩
noncomputable def zes61 : List MapEntry := [⟨(vs [112]), (vi 6), 0⟩,⟨(vs [99]), (vi 7), 1⟩,⟨(vs [109]), (vi 8), 2⟩,⟨(vs [102]), (vi 9), 3⟩]
noncomputable def zvs61 : List Value := [(vi 6),(vi 7),(vi 8),(vi 9)]
noncomputable def zsg61 : Nat → Option Value := sg [no,no,no,no]
noncomputable def zop61 : Oper := opAt (zk257) 0
noncomputable def zre61 : List Oper := dropN (opsOf (zk257)).toList 1
noncomputable def zkk61 : List AItem := [.code zk258,.inLoop zk259,.inBlock 0,.code zk219]
noncomputable def zkh61 : List Nat := keys (zHh61 [] (fun _ => none))
noncomputable def zkx61 : List Nat := keys (zXh61 (fun _ => none))
noncomputable def zkf61 : List Nat := [58584,58959,64009,64840,68817,71271,80082,83461,86199,86474,86951,86991,87092]
noncomputable def zkg61 : List Nat := [58584,58959,64009,64840,68817,71271,80082,83461,86199,86474,86951,86991,87092]
noncomputable def zkd61 : List (Nat × Nat) := [(7, 0),(8, 0)]
theorem zlv61 : LevelsOk tab 87140 87139 4 4 zQs61 zHs61 zes61 zvs61 zes61.length 0 :=
 by
 refine .all ?_ _ _
 exact fun _ => ⟨⟨[0,3],zkh61,zkf61,87141,[],zkd61,fun _ _ _ => by kernel_rfl⟩,⟨⟨[0,3],zkh61,zkf61,87141,[],zkd61,fun _ _ _ => by kernel_rfl⟩,⟨⟨[0,3],zkh61,zkf61,87141,[],zkd61,fun _ _ _ => by kernel_rfl⟩,⟨⟨[0,3],zkh61,zkf61,87141,[],zkd61,fun _ _ _ => by kernel_rfl⟩,trivial⟩⟩⟩⟩
theorem zlz61 : zXs61 (endV zvs61 zsg61) = zs61 := by kernel_rfl
theorem zlp61 (f : FuncId) (v : Value) (k : Fin tab f v zs61) : Fin tab f v zs60 :=
  .loop (ops := opsOf (zk257)) (o := zop61) (rest := zre61) (k := zkk61) (it := .tmp 45) (r := 87140) (m := 87139) (since := 4) (L0 := 4) (cl := 4) (es := zes61) (vals := zvs61) (σ0 := zsg61) (Q := zQs61) (H := zHs61) (X := zXs61) (nsx := [1]) (keepx := zkx61) (fsx := zkg61) (nxx := 87141) (usx := []) (dsx := [])
    (by kernel_rfl) (fun _ _ _ => by kernel_rfl) (by kernel_rfl) (by kernel_rfl) (fun _ _ _ _ => by kernel_rfl) (fun _ _ _ _ => by kernel_rfl) (fun _ _ _ _ => by kernel_rfl) (fun _ _ _ _ => by kernel_rfl) (fun _ _ _ _ => by kernel_rfl) (by kernel_rfl) (by kernel_rfl) (by decide +kernel) zlv61 (fun _ _ _ => by kernel_rfl) (by rw [zlz61]; exact k)
theorem ze62 : gcS (keys zh62) (keys zg62) 87299 (arun tab 14 zs61) = zs62 := by kernel_rfl
theorem ze63 : gcS (keys zh63) (keys zg63) 87461 (arun tab 14 zs62) = zs63 := by kernel_rfl
theorem ze64 : gcS (keys zh64) (keys zg64) 87629 (arun tab 14 zs63) = zs64 := by kernel_rfl
theorem run15 (f : FuncId) (v : Value) (k : Fin tab f v zs64) : Fin tab f v zs60 := zlp61 f v (.run 14 _ _ _ ze62 (.run 14 _ _ _ ze63 (.run 14 _ _ _ ze64 (k))))
end Go.Proofs.YtnolnidldipfpaaGreatDoor.Sim
