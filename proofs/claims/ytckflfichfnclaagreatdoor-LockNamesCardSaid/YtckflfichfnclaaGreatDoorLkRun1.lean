/- The run of the law, from state to state. No condition. -/
import Derived.Test.YtckflfichfnclaaGreatDoorLkSt0
import Derived.Test.YtckflfichfnclaaGreatDoorLkMd
import Derived.Test.YtckflfichfnclaaGreatDoorLkRx
import Derived.KernelRfl
set_option maxRecDepth 100000
namespace Go.Proofs.YtckflfichfnclaaGreatDoor.Sim
open Go Go.RowKit
noncomputable section
theorem ze5 : gcS (Xb zh5) (Xb zg5) 36363 (Xc tab [2,4,6,8,9,10,11,12] zs4) = zs5 := by kernel_rfl
theorem ze6 : Xq (Xb zh6) (Xb zg6) 36363 [] [(5, 0),(6, 0),(7, 0)] (Xc tab [] zs5) = zs6 := by kernel_rfl
def zsy7_2 (σ : Nat → Option Value) : Xg := og (pch zl0 [(70,(gd (σ 0))),(8,(gd (σ 1))),(71,(gd (σ 2))),(62,(gd (σ 3))),(62,(gd (σ 4))),(44,(gd (σ 5))),(35,(gd (σ 6))),(44,(gd (σ 7))),(26,(gd (σ 8))),(134,(gd (σ 9))),(53,(gd (σ 10))),(116,(gd (σ 11))),(53,(gd (σ 12))),(89,(gd (σ 13))),(8,(gd (σ 14))),(71,(gd (σ 15))),(62,(gd (σ 16))),(62,(gd (σ 17))),(44,(gd (σ 18))),(35,(gd (σ 19))),(44,(gd (σ 20))),(26,(gd (σ 21))),(134,(gd (σ 22))),(53,(gd (σ 23))),(116,(gd (σ 24))),(53,(gd (σ 25))),(107,(gd (σ 26))),(44,(gd (σ 27))),(26,(gd (σ 28))),(206,(gd (σ 29))),(8,(gd (σ 30))),(71,(gd (σ 31))),(62,(gd (σ 32))),(62,(gd (σ 33))),(44,(gd (σ 34))),(35,(gd (σ 35))),(44,(gd (σ 36))),(26,(gd (σ 37))),(134,(gd (σ 38))),(44,(gd (σ 39))),(161,(gd (σ 40))),(44,(gd (σ 41))),(26,(gd (σ 42))),(206,(gd (σ 43))),(8,(gd (σ 44))),(71,(gd (σ 45))),(62,(gd (σ 46))),(62,(gd (σ 47))),(44,(gd (σ 48))),(35,(gd (σ 49))),(44,(gd (σ 50))),(26,(gd (σ 51))),(134,(gd (σ 52))),(44,(gd (σ 53))),(161,(gd (σ 54))),(44,(gd (σ 55))),(26,(gd (σ 56))),(206,(gd (σ 57))),(8,(gd (σ 58))),(71,(gd (σ 59))),(62,(gd (σ 60))),(62,(gd (σ 61))),(44,(gd (σ 62))),(35,(gd (σ 63))),(44,(gd (σ 64))),(26,(gd (σ 65))),(134,(gd (σ 66))),(44,(gd (σ 67)))]) 9 36361 0 159
def zQh7 (S : List Nat) (L : Nat) (σ : Nat → Option Value) : LH := mrg [(36361,zsy7_2 σ),(36362,.miter (some 479) 68 S L)] zh6
def zQs7 (_j : Nat) (S : List Nat) (L : Nat) (σ : Nat → Option Value) : ASt := ⟨(zF 82 73 (app [(sa 480 0),no,(sa 36347 0),(si 0),(sa 36358 0)] (app (to [0,0,0,0]) [(sa 480 0),st,sf,no,(sa 480 0),(sa 480 0),(sa 480 0),(si 270),(sa 480 0),(sa 480 0),(sa 480 2),(sm 36346 509),(sm 36361 509),(so zw194),(sa 480 0),(sa 480 0),(sa 480 3),(so (.map (some 479))),(sa 36362 0)])) [] [iR zk99 0,.code zk100,.inLoop zk101,.inBlock 0,.code zk70]), zc6, ⟨Xa (zQh7 S L σ), 36363, Xa (mrg [(83,[119]),(430,[462]),(494,[36346]),(1442,[35391])] (Xe (zQh7 S L σ)))⟩⟩
def zHh7 (S : List Nat) (σ : Nat → Option Value) : LH := mrg [(36361,zsy7_2 σ),(36362,.miter (some 479) 68 S 68)] zh6
def zHs7 (_j : Nat) (S : List Nat) (σ : Nat → Option Value) : ASt := ⟨(zF 82 73 (app [(sa 480 0),no,(sa 36347 0),(si 0),(sa 36358 0)] (app (to [0,0,0,0]) [(sa 480 0),st,sf,no,(sa 480 0),(sa 480 0),(sa 480 0),(si 270),(sa 480 0),(sa 480 0),(sa 480 2),(sm 36346 509),(sm 36361 509),(so zw194),(sa 480 0),(sa 480 0),(sa 480 3),(so (.map (some 479))),(sa 36362 0)])) [] [.inLoop zk101,.inBlock 0,.code zk70]), zc6, ⟨Xa (zHh7 S σ), 36363, Xa (mrg [(83,[119]),(430,[462]),(494,[36346]),(1442,[35391])] (Xe (zHh7 S σ)))⟩⟩
def zXh7 (σ : Nat → Option Value) : LH := mrg [(36361,zsy7_2 σ)] (rmq zh6 [36362])
def zXs7 (σ : Nat → Option Value) : ASt := ⟨zf9, zc6, ⟨Xa (zXh7 σ), 36363, Xa (mrg [(83,[119]),(430,[462]),(494,[36346]),(1442,[35391])] (Xe (zXh7 σ)))⟩⟩
def zes7 : List MapEntry := (mei 0 [(7,0),(8,1),(16,3),(23,2),(30,5),(35,7),(39,8),(44,9),(47,6),(62,4),(68,10),(81,11),(87,12),(97,13),(98,14),(106,16),(113,15),(120,18),(125,20),(129,21),(134,22),(137,19),(152,17),(158,23),(171,24),(177,25),(189,27),(194,26),(197,26),(220,28),(221,29),(229,31),(236,30),(243,33),(248,35),(252,36),(257,37),(260,34),(275,32),(280,38),(298,40),(303,39),(306,39),(329,41),(330,42),(338,44),(345,43),(352,46),(357,48),(361,49),(366,50),(369,47),(384,45),(389,51),(407,53),(412,52),(415,52),(438,54),(439,55),(447,57),(454,56),(461,59),(466,61),(470,62),(475,63),(478,60),(493,58),(498,64)])
def zvs7 : List Value := [(vi 9),(vi 67),(vi 24),(vi 15),(vi 63),(vi 48),(vi 45),(vi 60),(vi 34),(vi 29),(vi 79),(vi 89),(vi 84),(vi 99),(vi 157),(vi 114),(vi 105),(vi 153),(vi 138),(vi 135),(vi 150),(vi 124),(vi 119),(vi 169),(vi 179),(vi 174),(vi 281),(vi 188),(vi 188),(vi 222),(vi 279),(vi 237),(vi 228),(vi 276),(vi 261),(vi 258),(vi 273),(vi 247),(vi 242),(vi 288),(vi 390),(vi 297),(vi 297),(vi 331),(vi 388),(vi 346),(vi 337),(vi 385),(vi 370),(vi 367),(vi 382),(vi 356),(vi 351),(vi 397),(vi 499),(vi 406),(vi 406),(vi 440),(vi 497),(vi 455),(vi 446),(vi 494),(vi 479),(vi 476),(vi 491),(vi 465),(vi 460),(vi 506)]
def zsg7 : Nat → Option Value := sg [(si 0),(si 0),(si 0),(si 0),(si 0),(si 0),(si 0),(si 0),(si 0),(si 0),(si 0),(si 0),(si 0),(si 0),(si 0),(si 0),(si 0),(si 0),(si 0),(si 0),(si 0),(si 0),(si 0),(si 0),(si 0),(si 0),(si 0),(si 0),(si 0),(si 0),(si 0),(si 0),(si 0),(si 0),(si 0),(si 0),(si 0),(si 0),(si 0),(si 0),(si 0),(si 0),(si 0),(si 0),(si 0),(si 0),(si 0),(si 0),(si 0),(si 0),(si 0),(si 0),(si 0),(si 0),(si 0),(si 0),(si 0),(si 0),(si 0),(si 0),(si 0),(si 0),(si 0),(si 0),(si 0),(si 0),(si 0),(si 0)]
def zop7 : Oper := opAt (zk99) 0
def zre7 : List Oper := Xf (YF (zk99)).toList 1
def zkk7 : List Xt := [.code zk100,.inLoop zk101,.inBlock 0,.code zk70]
def zkh7 : List Nat := Xb (zHh7 [] (fun _ => none))
def zkx7 : List Nat := Xb (zXh7 (fun _ => none))
def zkf7 : List Nat := [29,83,430,494,1442,36361]
def zkg7 : List Nat := [29,83,430,494,1442,36361]
def zkd7 : List (Nat × Nat) := [(5, 0),(6, 0),(7, 0)]
theorem XK {k : Nat} {e : MapEntry} {l : List MapEntry} {v : Value} {vs : List Value} (j : Nat) (ns : List Nat) (h : ∀ S L σ, Xq zkh7 zkf7 36363 [] zkd7 (Xc tab ns (stepN (zQs7 j S L σ) 36362 479 68 S 68 (some e))) = zHs7 (j + 1) (e.born :: S) (upd σ k (some v))) (q : Xl tab 36362 479 68 68 (zQs7 j) (zHs7 (j + 1)) (k + 1) l vs) : Xl tab 36362 479 68 68 (zQs7 j) (zHs7 (j + 1)) k (e :: l) (v :: vs) := st1 ns h q
theorem zlw7_66 (j : Nat) : Xl tab 36362 479 68 68 (zQs7 j) (zHs7 (j + 1)) 66 (Xf zes7 66) (Xf zvs7 66) :=
 XK j [3] (fun _ _ _ => by kernel_rfl) (XK j [3] (fun _ _ _ => by kernel_rfl) trivial)
theorem zlw7_60 (j : Nat) : Xl tab 36362 479 68 68 (zQs7 j) (zHs7 (j + 1)) 60 (Xf zes7 60) (Xf zvs7 60) :=
 XK j [3] (fun _ _ _ => by kernel_rfl) (XK j [3] (fun _ _ _ => by kernel_rfl) (XK j [3] (fun _ _ _ => by kernel_rfl) (XK j [3] (fun _ _ _ => by kernel_rfl) (XK j [3] (fun _ _ _ => by kernel_rfl) (XK j [3] (fun _ _ _ => by kernel_rfl) ((zlw7_66 j)))))))
theorem zlw7_54 (j : Nat) : Xl tab 36362 479 68 68 (zQs7 j) (zHs7 (j + 1)) 54 (Xf zes7 54) (Xf zvs7 54) :=
 XK j [3] (fun _ _ _ => by kernel_rfl) (XK j [3] (fun _ _ _ => by kernel_rfl) (XK j [3] (fun _ _ _ => by kernel_rfl) (XK j [3] (fun _ _ _ => by kernel_rfl) (XK j [3] (fun _ _ _ => by kernel_rfl) (XK j [3] (fun _ _ _ => by kernel_rfl) ((zlw7_60 j)))))))
theorem zlw7_48 (j : Nat) : Xl tab 36362 479 68 68 (zQs7 j) (zHs7 (j + 1)) 48 (Xf zes7 48) (Xf zvs7 48) :=
 XK j [3] (fun _ _ _ => by kernel_rfl) (XK j [3] (fun _ _ _ => by kernel_rfl) (XK j [3] (fun _ _ _ => by kernel_rfl) (XK j [3] (fun _ _ _ => by kernel_rfl) (XK j [3] (fun _ _ _ => by kernel_rfl) (XK j [3] (fun _ _ _ => by kernel_rfl) ((zlw7_54 j)))))))
theorem zlw7_42 (j : Nat) : Xl tab 36362 479 68 68 (zQs7 j) (zHs7 (j + 1)) 42 (Xf zes7 42) (Xf zvs7 42) :=
 XK j [3] (fun _ _ _ => by kernel_rfl) (XK j [3] (fun _ _ _ => by kernel_rfl) (XK j [3] (fun _ _ _ => by kernel_rfl) (XK j [3] (fun _ _ _ => by kernel_rfl) (XK j [3] (fun _ _ _ => by kernel_rfl) (XK j [3] (fun _ _ _ => by kernel_rfl) ((zlw7_48 j)))))))
theorem zlw7_36 (j : Nat) : Xl tab 36362 479 68 68 (zQs7 j) (zHs7 (j + 1)) 36 (Xf zes7 36) (Xf zvs7 36) :=
 XK j [3] (fun _ _ _ => by kernel_rfl) (XK j [3] (fun _ _ _ => by kernel_rfl) (XK j [3] (fun _ _ _ => by kernel_rfl) (XK j [3] (fun _ _ _ => by kernel_rfl) (XK j [3] (fun _ _ _ => by kernel_rfl) (XK j [3] (fun _ _ _ => by kernel_rfl) ((zlw7_42 j)))))))
theorem zlw7_30 (j : Nat) : Xl tab 36362 479 68 68 (zQs7 j) (zHs7 (j + 1)) 30 (Xf zes7 30) (Xf zvs7 30) :=
 XK j [3] (fun _ _ _ => by kernel_rfl) (XK j [3] (fun _ _ _ => by kernel_rfl) (XK j [3] (fun _ _ _ => by kernel_rfl) (XK j [3] (fun _ _ _ => by kernel_rfl) (XK j [3] (fun _ _ _ => by kernel_rfl) (XK j [3] (fun _ _ _ => by kernel_rfl) ((zlw7_36 j)))))))
theorem zlw7_24 (j : Nat) : Xl tab 36362 479 68 68 (zQs7 j) (zHs7 (j + 1)) 24 (Xf zes7 24) (Xf zvs7 24) :=
 XK j [3] (fun _ _ _ => by kernel_rfl) (XK j [3] (fun _ _ _ => by kernel_rfl) (XK j [3] (fun _ _ _ => by kernel_rfl) (XK j [3] (fun _ _ _ => by kernel_rfl) (XK j [3] (fun _ _ _ => by kernel_rfl) (XK j [3] (fun _ _ _ => by kernel_rfl) ((zlw7_30 j)))))))
theorem zlw7_18 (j : Nat) : Xl tab 36362 479 68 68 (zQs7 j) (zHs7 (j + 1)) 18 (Xf zes7 18) (Xf zvs7 18) :=
 XK j [3] (fun _ _ _ => by kernel_rfl) (XK j [3] (fun _ _ _ => by kernel_rfl) (XK j [3] (fun _ _ _ => by kernel_rfl) (XK j [3] (fun _ _ _ => by kernel_rfl) (XK j [3] (fun _ _ _ => by kernel_rfl) (XK j [3] (fun _ _ _ => by kernel_rfl) ((zlw7_24 j)))))))
theorem zlw7_12 (j : Nat) : Xl tab 36362 479 68 68 (zQs7 j) (zHs7 (j + 1)) 12 (Xf zes7 12) (Xf zvs7 12) :=
 XK j [3] (fun _ _ _ => by kernel_rfl) (XK j [3] (fun _ _ _ => by kernel_rfl) (XK j [3] (fun _ _ _ => by kernel_rfl) (XK j [3] (fun _ _ _ => by kernel_rfl) (XK j [3] (fun _ _ _ => by kernel_rfl) (XK j [3] (fun _ _ _ => by kernel_rfl) ((zlw7_18 j)))))))
theorem zlw7_6 (j : Nat) : Xl tab 36362 479 68 68 (zQs7 j) (zHs7 (j + 1)) 6 (Xf zes7 6) (Xf zvs7 6) :=
 XK j [3] (fun _ _ _ => by kernel_rfl) (XK j [3] (fun _ _ _ => by kernel_rfl) (XK j [3] (fun _ _ _ => by kernel_rfl) (XK j [3] (fun _ _ _ => by kernel_rfl) (XK j [3] (fun _ _ _ => by kernel_rfl) (XK j [3] (fun _ _ _ => by kernel_rfl) ((zlw7_12 j)))))))
theorem zlw7_0 (j : Nat) : Xl tab 36362 479 68 68 (zQs7 j) (zHs7 (j + 1)) 0 (Xf zes7 0) (Xf zvs7 0) :=
 XK j [3] (fun _ _ _ => by kernel_rfl) (XK j [3] (fun _ _ _ => by kernel_rfl) (XK j [3] (fun _ _ _ => by kernel_rfl) (XK j [3] (fun _ _ _ => by kernel_rfl) (XK j [3] (fun _ _ _ => by kernel_rfl) (XK j [3] (fun _ _ _ => by kernel_rfl) ((zlw7_6 j)))))))
theorem zlv7 : X3 tab 36362 479 68 68 zQs7 zHs7 zes7 zvs7 zes7.length 0 :=
 .all (fun j => zlw7_0 j) _ _
theorem zlz7 : zXs7 (endV zvs7 zsg7) = zs7 := by kernel_rfl
theorem zlp7 {K : ASt → Prop} (C : Clo tab K) (k : K zs7) : K zs6 :=
  C.loop (ops := YF (zk99)) (o := zop7) (rest := zre7) (k := zkk7) (it := .tmp 27) (r := 36362) (m := 479) (since := 68) (L0 := 68) (cl := 68) (es := zes7) (vals := zvs7) (σ0 := zsg7) (Q := zQs7) (H := zHs7) (X := zXs7) (nsx := [1]) (keepx := zkx7) (fsx := zkg7) (nxx := 36363) (usx := []) (dsx := [])
    (by kernel_rfl) (fun _ _ _ => by kernel_rfl) (by kernel_rfl) (by kernel_rfl) (fun _ _ _ _ => by kernel_rfl) (fun _ _ _ _ => by kernel_rfl) (fun _ _ _ _ => by kernel_rfl) (fun _ _ _ _ => by kernel_rfl) (fun _ _ _ _ => by kernel_rfl) (by kernel_rfl) (by kernel_rfl) (by decide +kernel) (zlv7) (fun _ _ _ => by kernel_rfl) (by rw [zlz7]; exact k)
theorem ze8 : gcS (Xb zh8) (Xb zg8) 338417 (Xc tab [0,2,5,6,12] zs7) = zs8 := by kernel_rfl
theorem ze9 : Xq (Xb zh9) (Xb zg9) 346413 [] zd24 (Xc tab [2,4,5,7,8,9,13] zs8) = zs9 := by kernel_rfl
theorem ze11 : gcS (Xb zh11) (Xb zg11) 357890 (Xc tab [1,3,4,5,6,7,8,9,12] zs10) = zs11 := by kernel_rfl
theorem ze12 : Xq (Xb zh12) (Xb zg12) 357890 [(357883, [(vs [112]),(vs [99]),(vs [109]),(vs [102])])] [(7, 0),(8, 0)] (Xc tab [] zs11) = zs12 := by kernel_rfl
end
end Go.Proofs.YtckflfichfnclaaGreatDoor.Sim
