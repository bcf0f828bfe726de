/- The run of the law, from state to state. No condition. -/
import Derived.Test.YtckflfichfnclaaGreatDoorLkSt0
import Derived.Test.YtckflfichfnclaaGreatDoorLkMd
import Derived.Test.YtckflfichfnclaaGreatDoorLkRy
import Derived.Test.YtckflfichfnclaaGreatDoorLkRz
import Derived.KernelRfl
set_option maxRecDepth 100000
namespace Go.Proofs.YtckflfichfnclaaGreatDoor.Sim
open Go Go.RowKit
noncomputable section
theorem ze29 : gcS (Xb zh29) (Xb zg29) 402952 (Xc tab [0,1,2,6,9,12] zs28) = zs29 := by kernel_rfl
theorem ze30 : gcS (Xb zh30) (Xb zg30) 407547 (Xc tab [3,4,8,10,11,12] zs29) = zs30 := by kernel_rfl
theorem ze32 : Xq (Xb zh32) (Xb zg32) 413023 [(413016, [(vs [112]),(vs [99]),(vs [109]),(vs [102])])] [(7, 0),(8, 0)] (Xc tab [] zs31) = zs32 := by kernel_rfl
def zQh33 (S : List Nat) (L : Nat) (σ : Nat → Option Value) : LH := mrg [(413016,.mapU [((vs [120]),(so (vi 393))),((vs [112]),(σ 0)),((vs [99]),(σ 1)),((vs [109]),(σ 2)),((vs [102]),(σ 3))]),(413022,.miter (some 413021) 4 S L)] zh32
def zQs33 (_j : Nat) (S : List Nat) (L : Nat) (σ : Nat → Option Value) : ASt := ⟨(zF 77 58 [(sa 412837 0),(si 393),no,no,(sa 412991 0),(sa 413013 0),(sa 413020 0),no,no,(sa 412837 0),(sa 412837 0),(sa 412837 5),(sa 412843 0),(si 396),(sa 412837 0),(sa 412837 0),(sa 412837 5),(sa 412843 0),(si 397),(sa 412837 0),(sa 412837 0),(sa 412837 5),(sa 412843 0),(si 398),(sa 412837 0),(sa 412837 0),(sa 412837 5),(sa 412843 0),(si 399),(so zw278),(sa 412837 0),(sa 413020 0),(sa 413020 0),(si 393),(so (vq [])),(so (.map (some 413021))),(sa 413013 0),(si 396),(sa 413013 1),(si 397),(sa 413013 2),(si 398),(sa 413013 3),(si 399),(so (.map (some 413021))),(sa 413022 0)] [] [iR Y1 0,.code zk103,.inLoop zk104,.inBlock 0,.code zk79]), zc32, ⟨Xa (zQh33 S L σ), 413023, Xa (mrg [(356817,[356853]),(357164,[357196]),(357228,[412962]),(357817,[410603]),(412870,[412930])] (Xe (zQh33 S L σ)))⟩⟩
def zHh33 (S : List Nat) (σ : Nat → Option Value) : LH := mrg [(413016,.mapU [((vs [120]),(so (vi 393))),((vs [112]),(σ 0)),((vs [99]),(σ 1)),((vs [109]),(σ 2)),((vs [102]),(σ 3))]),(413022,.miter (some 413021) 4 S 4)] zh32
def zHs33 (_j : Nat) (S : List Nat) (σ : Nat → Option Value) : ASt := ⟨(zF 77 58 [(sa 412837 0),(si 393),no,no,(sa 412991 0),(sa 413013 0),(sa 413020 0),no,no,(sa 412837 0),(sa 412837 0),(sa 412837 5),(sa 412843 0),(si 396),(sa 412837 0),(sa 412837 0),(sa 412837 5),(sa 412843 0),(si 397),(sa 412837 0),(sa 412837 0),(sa 412837 5),(sa 412843 0),(si 398),(sa 412837 0),(sa 412837 0),(sa 412837 5),(sa 412843 0),(si 399),(so zw278),(sa 412837 0),(sa 413020 0),(sa 413020 0),(si 393),(so (vq [])),(so (.map (some 413021))),(sa 413013 0),(si 396),(sa 413013 1),(si 397),(sa 413013 2),(si 398),(sa 413013 3),(si 399),(so (.map (some 413021))),(sa 413022 0)] [] [.inLoop zk104,.inBlock 0,.code zk79]), zc32, ⟨Xa (zHh33 S σ), 413023, Xa (mrg [(356817,[356853]),(357164,[357196]),(357228,[412962]),(357817,[410603]),(412870,[412930])] (Xe (zHh33 S σ)))⟩⟩
def zXh33 (σ : Nat → Option Value) : LH := mrg [(413016,.mapU [((vs [120]),(so (vi 393))),((vs [112]),(σ 0)),((vs [99]),(σ 1)),((vs [109]),(σ 2)),((vs [102]),(σ 3))])] (rmq zh32 [413022])
def zXs33 (σ : Nat → Option Value) : ASt := ⟨zf20, zc32, ⟨Xa (zXh33 σ), 413023, Xa (mrg [(356817,[356853]),(357164,[357196]),(357228,[412962]),(357817,[410603]),(412870,[412930])] (Xe (zXh33 σ)))⟩⟩
def zes33 : List MapEntry := [⟨(vs [112]), (vi 396), 0⟩,⟨(vs [99]), (vi 397), 1⟩,⟨(vs [109]), (vi 398), 2⟩,⟨(vs [102]), (vi 399), 3⟩]
def zvs33 : List Value := [(vi 396),(vi 397),(vi 398),(vi 399)]
def zsg33 : Nat → Option Value := sg [no,no,no,no]
def zop33 : Oper := opAt (Y1) 0
def zre33 : List Oper := Xf (YF (Y1)).toList 1
def zkk33 : List Xt := [.code zk103,.inLoop zk104,.inBlock 0,.code zk79]
def zkh33 : List Nat := Xb (zHh33 [] (fun _ => none))
def zkx33 : List Nat := Xb (zXh33 (fun _ => none))
def zkf33 : List Nat := [356763,356817,357164,357228,357817,412830,412870,412974]
def zkg33 : List Nat := [356763,356817,357164,357228,357817,412830,412870,412974]
def zkd33 : List (Nat × Nat) := [(7, 0),(8, 0)]
theorem zso33 {k : Nat} {e : MapEntry} {l : List MapEntry} {v : Value} {vs : List Value} (j : Nat) (ns : List Nat) (h : ∀ S L σ, Xq zkh33 zkf33 413023 [] zkd33 (Xc tab ns (stepN (zQs33 j S L σ) 413022 413021 4 S 4 (some e))) = zHs33 (j + 1) (e.born :: S) (upd σ k (some v))) (q : Xl tab 413022 413021 4 4 (zQs33 j) (zHs33 (j + 1)) (k + 1) l vs) : Xl tab 413022 413021 4 4 (zQs33 j) (zHs33 (j + 1)) k (e :: l) (v :: vs) := st1 ns h q
theorem zlw33_0 (j : Nat) : Xl tab 413022 413021 4 4 (zQs33 j) (zHs33 (j + 1)) 0 (Xf zes33 0) (Xf zvs33 0) :=
 zso33 j [0,3] (fun _ _ _ => by kernel_rfl) (zso33 j [0,3] (fun _ _ _ => by kernel_rfl) (zso33 j [0,3] (fun _ _ _ => by kernel_rfl) (zso33 j [0,3] (fun _ _ _ => by kernel_rfl) trivial)))
theorem zlv33 : X3 tab 413022 413021 4 4 zQs33 zHs33 zes33 zvs33 zes33.length 0 :=
 .all (fun j => zlw33_0 j) _ _
theorem zlz33 : zXs33 (endV zvs33 zsg33) = zs33 := by kernel_rfl
theorem zlp33 {K : ASt → Prop} (C : Clo tab K) (k : K zs33) : K zs32 :=
  C.loop (ops := YF (Y1)) (o := zop33) (rest := zre33) (k := zkk33) (it := .tmp 45) (r := 413022) (m := 413021) (since := 4) (L0 := 4) (cl := 4) (es := zes33) (vals := zvs33) (σ0 := zsg33) (Q := zQs33) (H := zHs33) (X := zXs33) (nsx := [1]) (keepx := zkx33) (fsx := zkg33) (nxx := 413023) (usx := []) (dsx := [])
    (by kernel_rfl) (fun _ _ _ => by kernel_rfl) (by kernel_rfl) (by kernel_rfl) (fun _ _ _ _ => by kernel_rfl) (fun _ _ _ _ => by kernel_rfl) (fun _ _ _ _ => by kernel_rfl) (fun _ _ _ _ => by kernel_rfl) (fun _ _ _ _ => by kernel_rfl) (by kernel_rfl) (by kernel_rfl) (by decide +kernel) (zlv33) (fun _ _ _ => by kernel_rfl) (by rw [zlz33]; exact k)
theorem ze36 : Xq (Xb zh36) (Xb zg36) 421840 [] [(5, 0),(6, 0),(7, 0)] (Xc tab [] zs35) = zs36 := by kernel_rfl
end
end Go.Proofs.YtckflfichfnclaaGreatDoor.Sim
