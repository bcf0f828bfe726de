/- The run of the law, from state to state. No condition. -/
import Derived.Test.YtckflfichfnclaaGreatDoorLkSt0
import Derived.Test.YtckflfichfnclaaGreatDoorLkMd
import Derived.KernelRfl
set_option maxRecDepth 100000
namespace Go.Proofs.YtckflfichfnclaaGreatDoor.Sim
open Go Go.RowKit
noncomputable section
theorem ze22 : gcS (Xb zh22) (Xb zg22) 392187 (Xc tab [2,3,5,9,10,11] zs21) = zs22 := by kernel_rfl
theorem ze23 : Xq (Xb zh23) (Xb zg23) 398005 [] zd23 (Xc tab [0,4,7,13] zs22) = zs23 := by kernel_rfl
theorem ze24 : gcS (Xb zh24) (Xb zg24) 398193 (Xc tab [0,2,3,4,5,7,8,9,10,11,13] zs23) = zs24 := by kernel_rfl
theorem ze25 : gcS (Xb zh25) (Xb zg25) 398317 (Xc tab [2,3,5,6,7,8,9,10,11,13] zs24) = zs25 := by kernel_rfl
theorem ze26 : gcS (Xb zh26) (Xb zg26) 398576 (Xc tab [3,4,13] zs25) = zs26 := by kernel_rfl
theorem ze27 : Xq (Xb zh27) (Xb zg27) 398576 [(398569, [(vs [112]),(vs [99]),(vs [109]),(vs [102])])] [(7, 0),(8, 0)] (Xc tab [] zs26) = zs27 := by kernel_rfl
def zQh28 (S : List Nat) (L : Nat) (σ : Nat → Option Value) : LH := mrg [(398569,.mapU [((vs [120]),(so (vi 287))),((vs [112]),(σ 0)),((vs [99]),(σ 1)),((vs [109]),(σ 2)),((vs [102]),(σ 3))]),(398575,.miter (some 398574) 4 S L)] zh27
def zQs28 (_j : Nat) (S : List Nat) (L : Nat) (σ : Nat → Option Value) : ASt := ⟨(zF 77 58 [(sa 398056 0),(si 287),no,no,(sa 398544 0),(sa 398566 0),(sa 398573 0),no,no,(sa 398056 0),(sa 398056 0),(sa 398056 5),(sa 398062 0),(si 292),(sa 398056 0),(sa 398056 0),(sa 398056 5),(sa 398062 0),(si 293),(sa 398056 0),(sa 398056 0),(sa 398056 5),(sa 398062 0),(si 294),(sa 398056 0),(sa 398056 0),(sa 398056 5),(sa 398062 0),(si 295),(so zw262),(sa 398056 0),(sa 398573 0),(sa 398573 0),(si 287),(so (vq [])),(so (.map (some 398574))),(sa 398566 0),(si 292),(sa 398566 1),(si 293),(sa 398566 2),(si 294),(sa 398566 3),(si 295),(so (.map (some 398574))),(sa 398575 0)] [] [iR Y1 0,.code zk103,.inLoop zk104,.inBlock 0,.code zk79]), zc27, ⟨Xa (zQh28 S L σ), 398576, Xa (mrg [(356817,[356853]),(357164,[357196]),(357228,[398493]),(357817,[398503]),(398089,[398400])] (Xe (zQh28 S L σ)))⟩⟩
def zHh28 (S : List Nat) (σ : Nat → Option Value) : LH := mrg [(398569,.mapU [((vs [120]),(so (vi 287))),((vs [112]),(σ 0)),((vs [99]),(σ 1)),((vs [109]),(σ 2)),((vs [102]),(σ 3))]),(398575,.miter (some 398574) 4 S 4)] zh27
def zHs28 (_j : Nat) (S : List Nat) (σ : Nat → Option Value) : ASt := ⟨(zF 77 58 [(sa 398056 0),(si 287),no,no,(sa 398544 0),(sa 398566 0),(sa 398573 0),no,no,(sa 398056 0),(sa 398056 0),(sa 398056 5),(sa 398062 0),(si 292),(sa 398056 0),(sa 398056 0),(sa 398056 5),(sa 398062 0),(si 293),(sa 398056 0),(sa 398056 0),(sa 398056 5),(sa 398062 0),(si 294),(sa 398056 0),(sa 398056 0),(sa 398056 5),(sa 398062 0),(si 295),(so zw262),(sa 398056 0),(sa 398573 0),(sa 398573 0),(si 287),(so (vq [])),(so (.map (some 398574))),(sa 398566 0),(si 292),(sa 398566 1),(si 293),(sa 398566 2),(si 294),(sa 398566 3),(si 295),(so (.map (some 398574))),(sa 398575 0)] [] [.inLoop zk104,.inBlock 0,.code zk79]), zc27, ⟨Xa (zHh28 S σ), 398576, Xa (mrg [(356817,[356853]),(357164,[357196]),(357228,[398493]),(357817,[398503]),(398089,[398400])] (Xe (zHh28 S σ)))⟩⟩
def zXh28 (σ : Nat → Option Value) : LH := mrg [(398569,.mapU [((vs [120]),(so (vi 287))),((vs [112]),(σ 0)),((vs [99]),(σ 1)),((vs [109]),(σ 2)),((vs [102]),(σ 3))])] (rmq zh27 [398575])
def zXs28 (σ : Nat → Option Value) : ASt := ⟨zf17, zc27, ⟨Xa (zXh28 σ), 398576, Xa (mrg [(356817,[356853]),(357164,[357196]),(357228,[398493]),(357817,[398503]),(398089,[398400])] (Xe (zXh28 σ)))⟩⟩
def zes28 : List MapEntry := [⟨(vs [112]), (vi 292), 0⟩,⟨(vs [99]), (vi 293), 1⟩,⟨(vs [109]), (vi 294), 2⟩,⟨(vs [102]), (vi 295), 3⟩]
def zvs28 : List Value := [(vi 292),(vi 293),(vi 294),(vi 295)]
def zsg28 : Nat → Option Value := sg [no,no,no,no]
def zop28 : Oper := opAt (Y1) 0
def zre28 : List Oper := Xf (YF (Y1)).toList 1
def zkk28 : List Xt := [.code zk103,.inLoop zk104,.inBlock 0,.code zk79]
def zkh28 : List Nat := Xb (zHh28 [] (fun _ => none))
def zkx28 : List Nat := Xb (zXh28 (fun _ => none))
def zkf28 : List Nat := [356763,356817,357164,357228,357817,398049,398089,398527]
def zkg28 : List Nat := [356763,356817,357164,357228,357817,398049,398089,398527]
def zkd28 : List (Nat × Nat) := [(7, 0),(8, 0)]
theorem zso28 {k : Nat} {e : MapEntry} {l : List MapEntry} {v : Value} {vs : List Value} (j : Nat) (ns : List Nat) (h : ∀ S L σ, Xq zkh28 zkf28 398576 [] zkd28 (Xc tab ns (stepN (zQs28 j S L σ) 398575 398574 4 S 4 (some e))) = zHs28 (j + 1) (e.born :: S) (upd σ k (some v))) (q : Xl tab 398575 398574 4 4 (zQs28 j) (zHs28 (j + 1)) (k + 1) l vs) : Xl tab 398575 398574 4 4 (zQs28 j) (zHs28 (j + 1)) k (e :: l) (v :: vs) := st1 ns h q
theorem zlw28_0 (j : Nat) : Xl tab 398575 398574 4 4 (zQs28 j) (zHs28 (j + 1)) 0 (Xf zes28 0) (Xf zvs28 0) :=
 zso28 j [0,3] (fun _ _ _ => by kernel_rfl) (zso28 j [0,3] (fun _ _ _ => by kernel_rfl) (zso28 j [0,3] (fun _ _ _ => by kernel_rfl) (zso28 j [0,3] (fun _ _ _ => by kernel_rfl) trivial)))
theorem zlv28 : X3 tab 398575 398574 4 4 zQs28 zHs28 zes28 zvs28 zes28.length 0 :=
 .all (fun j => zlw28_0 j) _ _
theorem zlz28 : zXs28 (endV zvs28 zsg28) = zs28 := by kernel_rfl
theorem zlp28 {K : ASt → Prop} (C : Clo tab K) (k : K zs28) : K zs27 :=
  C.loop (ops := YF (Y1)) (o := zop28) (rest := zre28) (k := zkk28) (it := .tmp 45) (r := 398575) (m := 398574) (since := 4) (L0 := 4) (cl := 4) (es := zes28) (vals := zvs28) (σ0 := zsg28) (Q := zQs28) (H := zHs28) (X := zXs28) (nsx := [1]) (keepx := zkx28) (fsx := zkg28) (nxx := 398576) (usx := []) (dsx := [])
    (by kernel_rfl) (fun _ _ _ => by kernel_rfl) (by kernel_rfl) (by kernel_rfl) (fun _ _ _ _ => by kernel_rfl) (fun _ _ _ _ => by kernel_rfl) (fun _ _ _ _ => by kernel_rfl) (fun _ _ _ _ => by kernel_rfl) (fun _ _ _ _ => by kernel_rfl) (by kernel_rfl) (by kernel_rfl) (by decide +kernel) (zlv28) (fun _ _ _ => by kernel_rfl) (by rw [zlz28]; exact k)
end
end Go.Proofs.YtckflfichfnclaaGreatDoor.Sim
