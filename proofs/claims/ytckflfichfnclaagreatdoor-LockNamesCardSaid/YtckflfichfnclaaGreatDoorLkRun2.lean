/- The run of the law, from state to state. No condition. -/
import Derived.Test.YtckflfichfnclaaGreatDoorLkSt0
import Derived.Test.YtckflfichfnclaaGreatDoorLkMd
import Derived.KernelRfl
set_option maxRecDepth 100000
namespace Go.Proofs.YtckflfichfnclaaGreatDoor.Sim
open Go Go.RowKit
noncomputable section
def zQh13 (S : List Nat) (L : Nat) (σ : Nat → Option Value) : LH := mrg [(357883,.mapU [((vs [120]),(so (vi 1))),((vs [112]),(σ 0)),((vs [99]),(σ 1)),((vs [109]),(σ 2)),((vs [102]),(σ 3))]),(357889,.miter (some 357888) 4 S L)] zh12
def zQs13 (_j : Nat) (S : List Nat) (L : Nat) (σ : Nat → Option Value) : ASt := ⟨(zF 77 58 [(sa 357333 0),(si 1),no,no,(sa 357858 0),(sa 357880 0),(sa 357887 0),no,no,(sa 357333 0),(sa 357333 0),(sa 357333 5),(sa 357339 0),(si 5),(sa 357333 0),(sa 357333 0),(sa 357333 5),(sa 357339 0),(si 6),(sa 357333 0),(sa 357333 0),(sa 357333 5),(sa 357339 0),(si 7),(sa 357333 0),(sa 357333 0),(sa 357333 5),(sa 357339 0),(si 8),(so zw208),(sa 357333 0),(sa 357887 0),(sa 357887 0),(si 1),(so (vq [])),(so (.map (some 357888))),(sa 357880 0),(si 5),(sa 357880 1),(si 6),(sa 357880 2),(si 7),(sa 357880 3),(si 8),(so (.map (some 357888))),(sa 357889 0)] [] [iR Y1 0,.code zk103,.inLoop zk104,.inBlock 0,.code zk79]), zc12, ⟨Xa (zQh13 S L σ), 357890, Xa (mrg [(356817,[356853]),(357164,[357196]),(357228,[357807]),(357366,[357744])] (Xe (zQh13 S L σ)))⟩⟩
def zHh13 (S : List Nat) (σ : Nat → Option Value) : LH := mrg [(357883,.mapU [((vs [120]),(so (vi 1))),((vs [112]),(σ 0)),((vs [99]),(σ 1)),((vs [109]),(σ 2)),((vs [102]),(σ 3))]),(357889,.miter (some 357888) 4 S 4)] zh12
def zHs13 (_j : Nat) (S : List Nat) (σ : Nat → Option Value) : ASt := ⟨(zF 77 58 [(sa 357333 0),(si 1),no,no,(sa 357858 0),(sa 357880 0),(sa 357887 0),no,no,(sa 357333 0),(sa 357333 0),(sa 357333 5),(sa 357339 0),(si 5),(sa 357333 0),(sa 357333 0),(sa 357333 5),(sa 357339 0),(si 6),(sa 357333 0),(sa 357333 0),(sa 357333 5),(sa 357339 0),(si 7),(sa 357333 0),(sa 357333 0),(sa 357333 5),(sa 357339 0),(si 8),(so zw208),(sa 357333 0),(sa 357887 0),(sa 357887 0),(si 1),(so (vq [])),(so (.map (some 357888))),(sa 357880 0),(si 5),(sa 357880 1),(si 6),(sa 357880 2),(si 7),(sa 357880 3),(si 8),(so (.map (some 357888))),(sa 357889 0)] [] [.inLoop zk104,.inBlock 0,.code zk79]), zc12, ⟨Xa (zHh13 S σ), 357890, Xa (mrg [(356817,[356853]),(357164,[357196]),(357228,[357807]),(357366,[357744])] (Xe (zHh13 S σ)))⟩⟩
def zXh13 (σ : Nat → Option Value) : LH := mrg [(357883,.mapU [((vs [120]),(so (vi 1))),((vs [112]),(σ 0)),((vs [99]),(σ 1)),((vs [109]),(σ 2)),((vs [102]),(σ 3))])] (rmq zh12 [357889])
def zXs13 (σ : Nat → Option Value) : ASt := ⟨zf11, zc12, ⟨Xa (zXh13 σ), 357890, Xa (mrg [(356817,[356853]),(357164,[357196]),(357228,[357807]),(357366,[357744])] (Xe (zXh13 σ)))⟩⟩
def zes13 : List MapEntry := [⟨(vs [112]), (vi 5), 0⟩,⟨(vs [99]), (vi 6), 1⟩,⟨(vs [109]), (vi 7), 2⟩,⟨(vs [102]), (vi 8), 3⟩]
def zvs13 : List Value := [(vi 5),(vi 6),(vi 7),(vi 8)]
def zsg13 : Nat → Option Value := sg [no,no,no,no]
def zop13 : Oper := opAt (Y1) 0
def zre13 : List Oper := Xf (YF (Y1)).toList 1
def zkk13 : List Xt := [.code zk103,.inLoop zk104,.inBlock 0,.code zk79]
def zkh13 : List Nat := Xb (zHh13 [] (fun _ => none))
def zkx13 : List Nat := Xb (zXh13 (fun _ => none))
def zkf13 : List Nat := [356763,356817,357164,357228,357326,357366,357817,357841]
def zkg13 : List Nat := [356763,356817,357164,357228,357326,357366,357817,357841]
def zkd13 : List (Nat × Nat) := [(7, 0),(8, 0)]
theorem zso13 {k : Nat} {e : MapEntry} {l : List MapEntry} {v : Value} {vs : List Value} (j : Nat) (ns : List Nat) (h : ∀ S L σ, Xq zkh13 zkf13 357890 [] zkd13 (Xc tab ns (stepN (zQs13 j S L σ) 357889 357888 4 S 4 (some e))) = zHs13 (j + 1) (e.born :: S) (upd σ k (some v))) (q : Xl tab 357889 357888 4 4 (zQs13 j) (zHs13 (j + 1)) (k + 1) l vs) : Xl tab 357889 357888 4 4 (zQs13 j) (zHs13 (j + 1)) k (e :: l) (v :: vs) := st1 ns h q
theorem zlw13_0 (j : Nat) : Xl tab 357889 357888 4 4 (zQs13 j) (zHs13 (j + 1)) 0 (Xf zes13 0) (Xf zvs13 0) :=
 zso13 j [0,3] (fun _ _ _ => by kernel_rfl) (zso13 j [0,3] (fun _ _ _ => by kernel_rfl) (zso13 j [0,3] (fun _ _ _ => by kernel_rfl) (zso13 j [0,3] (fun _ _ _ => by kernel_rfl) trivial)))
theorem zlv13 : X3 tab 357889 357888 4 4 zQs13 zHs13 zes13 zvs13 zes13.length 0 :=
 .all (fun j => zlw13_0 j) _ _
theorem zlz13 : zXs13 (endV zvs13 zsg13) = zs13 := by kernel_rfl
theorem zlp13 {K : ASt → Prop} (C : Clo tab K) (k : K zs13) : K zs12 :=
  C.loop (ops := YF (Y1)) (o := zop13) (rest := zre13) (k := zkk13) (it := .tmp 45) (r := 357889) (m := 357888) (since := 4) (L0 := 4) (cl := 4) (es := zes13) (vals := zvs13) (σ0 := zsg13) (Q := zQs13) (H := zHs13) (X := zXs13) (nsx := [1]) (keepx := zkx13) (fsx := zkg13) (nxx := 357890) (usx := []) (dsx := [])
    (by kernel_rfl) (fun _ _ _ => by kernel_rfl) (by kernel_rfl) (by kernel_rfl) (fun _ _ _ _ => by kernel_rfl) (fun _ _ _ _ => by kernel_rfl) (fun _ _ _ _ => by kernel_rfl) (fun _ _ _ _ => by kernel_rfl) (fun _ _ _ _ => by kernel_rfl) (by kernel_rfl) (by kernel_rfl) (by decide +kernel) (zlv13) (fun _ _ _ => by kernel_rfl) (by rw [zlz13]; exact k)
theorem ze14 : gcS (Xb zh14) (Xb zg14) 366839 (Xc tab [0,1,2,3,5,12,13] zs13) = zs14 := by kernel_rfl
theorem ze15 : gcS (Xb zh15) (Xb zg15) 373713 (Xc tab [2,6,8,9,13] zs14) = zs15 := by kernel_rfl
theorem ze16 : Xq (Xb zh16) (Xb zg16) 373713 [(373706, [(vs [112]),(vs [99]),(vs [109]),(vs [102])])] [(7, 0),(8, 0)] (Xc tab [] zs15) = zs16 := by kernel_rfl
def zQh17 (S : List Nat) (L : Nat) (σ : Nat → Option Value) : LH := mrg [(373706,.mapU [((vs [120]),(so (vi 113))),((vs [112]),(σ 0)),((vs [99]),(σ 1)),((vs [109]),(σ 2)),((vs [102]),(σ 3))]),(373712,.miter (some 373711) 4 S L)] zh16
def zQs17 (_j : Nat) (S : List Nat) (L : Nat) (σ : Nat → Option Value) : ASt := ⟨(zF 77 58 [(sa 373156 0),(si 113),no,no,(sa 373681 0),(sa 373703 0),(sa 373710 0),no,no,(sa 373156 0),(sa 373156 0),(sa 373156 5),(sa 373162 0),(si 117),(sa 373156 0),(sa 373156 0),(sa 373156 5),(sa 373162 0),(si 118),(sa 373156 0),(sa 373156 0),(sa 373156 5),(sa 373162 0),(si 119),(sa 373156 0),(sa 373156 0),(sa 373156 5),(sa 373162 0),(si 120),(so zw220),(sa 373156 0),(sa 373710 0),(sa 373710 0),(si 113),(so (vq [])),(so (.map (some 373711))),(sa 373703 0),(si 117),(sa 373703 1),(si 118),(sa 373703 2),(si 119),(sa 373703 3),(si 120),(so (.map (some 373711))),(sa 373712 0)] [] [iR Y1 0,.code zk103,.inLoop zk104,.inBlock 0,.code zk79]), zc16, ⟨Xa (zQh17 S L σ), 373713, Xa (mrg [(356817,[356853]),(357164,[357196]),(357228,[373630]),(357817,[373640]),(373189,[373567])] (Xe (zQh17 S L σ)))⟩⟩
def zHh17 (S : List Nat) (σ : Nat → Option Value) : LH := mrg [(373706,.mapU [((vs [120]),(so (vi 113))),((vs [112]),(σ 0)),((vs [99]),(σ 1)),((vs [109]),(σ 2)),((vs [102]),(σ 3))]),(373712,.miter (some 373711) 4 S 4)] zh16
def zHs17 (_j : Nat) (S : List Nat) (σ : Nat → Option Value) : ASt := ⟨(zF 77 58 [(sa 373156 0),(si 113),no,no,(sa 373681 0),(sa 373703 0),(sa 373710 0),no,no,(sa 373156 0),(sa 373156 0),(sa 373156 5),(sa 373162 0),(si 117),(sa 373156 0),(sa 373156 0),(sa 373156 5),(sa 373162 0),(si 118),(sa 373156 0),(sa 373156 0),(sa 373156 5),(sa 373162 0),(si 119),(sa 373156 0),(sa 373156 0),(sa 373156 5),(sa 373162 0),(si 120),(so zw220),(sa 373156 0),(sa 373710 0),(sa 373710 0),(si 113),(so (vq [])),(so (.map (some 373711))),(sa 373703 0),(si 117),(sa 373703 1),(si 118),(sa 373703 2),(si 119),(sa 373703 3),(si 120),(so (.map (some 373711))),(sa 373712 0)] [] [.inLoop zk104,.inBlock 0,.code zk79]), zc16, ⟨Xa (zHh17 S σ), 373713, Xa (mrg [(356817,[356853]),(357164,[357196]),(357228,[373630]),(357817,[373640]),(373189,[373567])] (Xe (zHh17 S σ)))⟩⟩
def zXh17 (σ : Nat → Option Value) : LH := mrg [(373706,.mapU [((vs [120]),(so (vi 113))),((vs [112]),(σ 0)),((vs [99]),(σ 1)),((vs [109]),(σ 2)),((vs [102]),(σ 3))])] (rmq zh16 [373712])
def zXs17 (σ : Nat → Option Value) : ASt := ⟨zf13, zc16, ⟨Xa (zXh17 σ), 373713, Xa (mrg [(356817,[356853]),(357164,[357196]),(357228,[373630]),(357817,[373640]),(373189,[373567])] (Xe (zXh17 σ)))⟩⟩
def zes17 : List MapEntry := [⟨(vs [112]), (vi 117), 0⟩,⟨(vs [99]), (vi 118), 1⟩,⟨(vs [109]), (vi 119), 2⟩,⟨(vs [102]), (vi 120), 3⟩]
def zvs17 : List Value := [(vi 117),(vi 118),(vi 119),(vi 120)]
def zsg17 : Nat → Option Value := sg [no,no,no,no]
def zop17 : Oper := opAt (Y1) 0
def zre17 : List Oper := Xf (YF (Y1)).toList 1
def zkk17 : List Xt := [.code zk103,.inLoop zk104,.inBlock 0,.code zk79]
def zkh17 : List Nat := Xb (zHh17 [] (fun _ => none))
def zkx17 : List Nat := Xb (zXh17 (fun _ => none))
def zkf17 : List Nat := [356763,356817,357164,357228,357817,373149,373189,373664]
def zkg17 : List Nat := [356763,356817,357164,357228,357817,373149,373189,373664]
def zkd17 : List (Nat × Nat) := [(7, 0),(8, 0)]
theorem zso17 {k : Nat} {e : MapEntry} {l : List MapEntry} {v : Value} {vs : List Value} (j : Nat) (ns : List Nat) (h : ∀ S L σ, Xq zkh17 zkf17 373713 [] zkd17 (Xc tab ns (stepN (zQs17 j S L σ) 373712 373711 4 S 4 (some e))) = zHs17 (j + 1) (e.born :: S) (upd σ k (some v))) (q : Xl tab 373712 373711 4 4 (zQs17 j) (zHs17 (j + 1)) (k + 1) l vs) : Xl tab 373712 373711 4 4 (zQs17 j) (zHs17 (j + 1)) k (e :: l) (v :: vs) := st1 ns h q
theorem zlw17_0 (j : Nat) : Xl tab 373712 373711 4 4 (zQs17 j) (zHs17 (j + 1)) 0 (Xf zes17 0) (Xf zvs17 0) :=
 zso17 j [0,3] (fun _ _ _ => by kernel_rfl) (zso17 j [0,3] (fun _ _ _ => by kernel_rfl) (zso17 j [0,3] (fun _ _ _ => by kernel_rfl) (zso17 j [0,3] (fun _ _ _ => by kernel_rfl) trivial)))
theorem zlv17 : X3 tab 373712 373711 4 4 zQs17 zHs17 zes17 zvs17 zes17.length 0 :=
 .all (fun j => zlw17_0 j) _ _
theorem zlz17 : zXs17 (endV zvs17 zsg17) = zs17 := by kernel_rfl
theorem zlp17 {K : ASt → Prop} (C : Clo tab K) (k : K zs17) : K zs16 :=
  C.loop (ops := YF (Y1)) (o := zop17) (rest := zre17) (k := zkk17) (it := .tmp 45) (r := 373712) (m := 373711) (since := 4) (L0 := 4) (cl := 4) (es := zes17) (vals := zvs17) (σ0 := zsg17) (Q := zQs17) (H := zHs17) (X := zXs17) (nsx := [1]) (keepx := zkx17) (fsx := zkg17) (nxx := 373713) (usx := []) (dsx := [])
    (by kernel_rfl) (fun _ _ _ => by kernel_rfl) (by kernel_rfl) (by kernel_rfl) (fun _ _ _ _ => by kernel_rfl) (fun _ _ _ _ => by kernel_rfl) (fun _ _ _ _ => by kernel_rfl) (fun _ _ _ _ => by kernel_rfl) (fun _ _ _ _ => by kernel_rfl) (by kernel_rfl) (by kernel_rfl) (by decide +kernel) (zlv17) (fun _ _ _ => by kernel_rfl) (by rw [zlz17]; exact k)
theorem ze18 : gcS (Xb zh18) (Xb zg18) 382662 (Xc tab [0,1,2,3,5,12,13] zs17) = zs18 := by kernel_rfl
theorem ze19 : gcS (Xb zh19) (Xb zg19) 389165 (Xc tab [2,6,7,9,13] zs18) = zs19 := by kernel_rfl
theorem ze20 : Xq (Xb zh20) (Xb zg20) 389165 [(389158, [(vs [112]),(vs [99]),(vs [109]),(vs [102])])] [(7, 0),(8, 0)] (Xc tab [] zs19) = zs20 := by kernel_rfl
def zQh21 (S : List Nat) (L : Nat) (σ : Nat → Option Value) : LH := mrg [(389158,.mapU [((vs [120]),(so (vi 225))),((vs [112]),(σ 0)),((vs [99]),(σ 1)),((vs [109]),(σ 2)),((vs [102]),(σ 3))]),(389164,.miter (some 389163) 4 S L)] zh20
def zQs21 (_j : Nat) (S : List Nat) (L : Nat) (σ : Nat → Option Value) : ASt := ⟨(zF 77 58 [(sa 388979 0),(si 225),no,no,(sa 389133 0),(sa 389155 0),(sa 389162 0),no,no,(sa 388979 0),(sa 388979 0),(sa 388979 5),(sa 388985 0),(si 228),(sa 388979 0),(sa 388979 0),(sa 388979 5),(sa 388985 0),(si 229),(sa 388979 0),(sa 388979 0),(sa 388979 5),(sa 388985 0),(si 230),(sa 388979 0),(sa 388979 0),(sa 388979 5),(sa 388985 0),(si 231),(so zw231),(sa 388979 0),(sa 389162 0),(sa 389162 0),(si 225),(so (vq [])),(so (.map (some 389163))),(sa 389155 0),(si 228),(sa 389155 1),(si 229),(sa 389155 2),(si 230),(sa 389155 3),(si 231),(so (.map (some 389163))),(sa 389164 0)] [] [iR Y1 0,.code zk103,.inLoop zk104,.inBlock 0,.code zk79]), zc20, ⟨Xa (zQh21 S L σ), 389165, Xa (mrg [(356817,[356853]),(357164,[357196]),(357228,[389104]),(357817,[387240]),(389012,[389072])] (Xe (zQh21 S L σ)))⟩⟩
def zHh21 (S : List Nat) (σ : Nat → Option Value) : LH := mrg [(389158,.mapU [((vs [120]),(so (vi 225))),((vs [112]),(σ 0)),((vs [99]),(σ 1)),((vs [109]),(σ 2)),((vs [102]),(σ 3))]),(389164,.miter (some 389163) 4 S 4)] zh20
def zHs21 (_j : Nat) (S : List Nat) (σ : Nat → Option Value) : ASt := ⟨(zF 77 58 [(sa 388979 0),(si 225),no,no,(sa 389133 0),(sa 389155 0),(sa 389162 0),no,no,(sa 388979 0),(sa 388979 0),(sa 388979 5),(sa 388985 0),(si 228),(sa 388979 0),(sa 388979 0),(sa 388979 5),(sa 388985 0),(si 229),(sa 388979 0),(sa 388979 0),(sa 388979 5),(sa 388985 0),(si 230),(sa 388979 0),(sa 388979 0),(sa 388979 5),(sa 388985 0),(si 231),(so zw231),(sa 388979 0),(sa 389162 0),(sa 389162 0),(si 225),(so (vq [])),(so (.map (some 389163))),(sa 389155 0),(si 228),(sa 389155 1),(si 229),(sa 389155 2),(si 230),(sa 389155 3),(si 231),(so (.map (some 389163))),(sa 389164 0)] [] [.inLoop zk104,.inBlock 0,.code zk79]), zc20, ⟨Xa (zHh21 S σ), 389165, Xa (mrg [(356817,[356853]),(357164,[357196]),(357228,[389104]),(357817,[387240]),(389012,[389072])] (Xe (zHh21 S σ)))⟩⟩
def zXh21 (σ : Nat → Option Value) : LH := mrg [(389158,.mapU [((vs [120]),(so (vi 225))),((vs [112]),(σ 0)),((vs [99]),(σ 1)),((vs [109]),(σ 2)),((vs [102]),(σ 3))])] (rmq zh20 [389164])
def zXs21 (σ : Nat → Option Value) : ASt := ⟨zf15, zc20, ⟨Xa (zXh21 σ), 389165, Xa (mrg [(356817,[356853]),(357164,[357196]),(357228,[389104]),(357817,[387240]),(389012,[389072])] (Xe (zXh21 σ)))⟩⟩
def zes21 : List MapEntry := [⟨(vs [112]), (vi 228), 0⟩,⟨(vs [99]), (vi 229), 1⟩,⟨(vs [109]), (vi 230), 2⟩,⟨(vs [102]), (vi 231), 3⟩]
def zvs21 : List Value := [(vi 228),(vi 229),(vi 230),(vi 231)]
def zsg21 : Nat → Option Value := sg [no,no,no,no]
def zop21 : Oper := opAt (Y1) 0
def zre21 : List Oper := Xf (YF (Y1)).toList 1
def zkk21 : List Xt := [.code zk103,.inLoop zk104,.inBlock 0,.code zk79]
def zkh21 : List Nat := Xb (zHh21 [] (fun _ => none))
def zkx21 : List Nat := Xb (zXh21 (fun _ => none))
def zkf21 : List Nat := [356763,356817,357164,357228,357817,388972,389012,389116]
def zkg21 : List Nat := [356763,356817,357164,357228,357817,388972,389012,389116]
def zkd21 : List (Nat × Nat) := [(7, 0),(8, 0)]
theorem zso21 {k : Nat} {e : MapEntry} {l : List MapEntry} {v : Value} {vs : List Value} (j : Nat) (ns : List Nat) (h : ∀ S L σ, Xq zkh21 zkf21 389165 [] zkd21 (Xc tab ns (stepN (zQs21 j S L σ) 389164 389163 4 S 4 (some e))) = zHs21 (j + 1) (e.born :: S) (upd σ k (some v))) (q : Xl tab 389164 389163 4 4 (zQs21 j) (zHs21 (j + 1)) (k + 1) l vs) : Xl tab 389164 389163 4 4 (zQs21 j) (zHs21 (j + 1)) k (e :: l) (v :: vs) := st1 ns h q
theorem zlw21_0 (j : Nat) : Xl tab 389164 389163 4 4 (zQs21 j) (zHs21 (j + 1)) 0 (Xf zes21 0) (Xf zvs21 0) :=
 zso21 j [0,3] (fun _ _ _ => by kernel_rfl) (zso21 j [0,3] (fun _ _ _ => by kernel_rfl) (zso21 j [0,3] (fun _ _ _ => by kernel_rfl) (zso21 j [0,3] (fun _ _ _ => by kernel_rfl) trivial)))
theorem zlv21 : X3 tab 389164 389163 4 4 zQs21 zHs21 zes21 zvs21 zes21.length 0 :=
 .all (fun j => zlw21_0 j) _ _
theorem zlz21 : zXs21 (endV zvs21 zsg21) = zs21 := by kernel_rfl
theorem zlp21 {K : ASt → Prop} (C : Clo tab K) (k : K zs21) : K zs20 :=
  C.loop (ops := YF (Y1)) (o := zop21) (rest := zre21) (k := zkk21) (it := .tmp 45) (r := 389164) (m := 389163) (since := 4) (L0 := 4) (cl := 4) (es := zes21) (vals := zvs21) (σ0 := zsg21) (Q := zQs21) (H := zHs21) (X := zXs21) (nsx := [1]) (keepx := zkx21) (fsx := zkg21) (nxx := 389165) (usx := []) (dsx := [])
    (by kernel_rfl) (fun _ _ _ => by kernel_rfl) (by kernel_rfl) (by kernel_rfl) (fun _ _ _ _ => by kernel_rfl) (fun _ _ _ _ => by kernel_rfl) (fun _ _ _ _ => by kernel_rfl) (fun _ _ _ _ => by kernel_rfl) (fun _ _ _ _ => by kernel_rfl) (by kernel_rfl) (by kernel_rfl) (by decide +kernel) (zlv21) (fun _ _ _ => by kernel_rfl) (by rw [zlz21]; exact k)
end
end Go.Proofs.YtckflfichfnclaaGreatDoor.Sim
