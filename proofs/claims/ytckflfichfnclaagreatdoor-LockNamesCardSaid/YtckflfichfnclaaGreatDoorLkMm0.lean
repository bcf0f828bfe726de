/- Calls that are run once, by the kernel. No condition. -/
import Derived.Test.YtckflfichfnclaaGreatDoorLkMs0
import Derived.KernelRfl
set_option maxRecDepth 100000
namespace Go.Proofs.YtckflfichfnclaaGreatDoor.Sim
open Go Go.RowKit
noncomputable section
theorem me4 : ∀ ν, YR (Xi.aT ν) 25 mm4 [.tmp 6,.tmp 7] [1,2,6] [] [] = some (25,mm4.nt,mm4.res,mm4.A1) := fun _ => by kernel_rfl
theorem y6e1 : ∀ ν, gcS (Xb y6h1) (Xb y6g1) 200 (Xc (Xi.aT ν) [1,2,3,5,6,7,8,12,13] y6s0) = y6s1 := fun _ => by kernel_rfl
theorem y6z : ∀ ν, mEnd [.tmp 4] (gcS [89,97,109,117,129,137,149,157,170,178,190,198,211,212,222,235,243,256,264,276,284,296,304,317,319] [98] mm6.n1 (Xc (Xi.aT ν) [0,1,3,6,12,13] y6s1)) = some (118,mm6.nt,mm6.res,mm6.A1) := fun _ => by kernel_rfl
theorem y7e1 : ∀ ν, gcS (Xb y7h1) (Xb y7g1) 83 (Xc (Xi.aT ν) [3] y7s0) = y7s1 := fun _ => by kernel_rfl
theorem y7e2 : ∀ ν, Xq (Xb y7h2) (Xb y7g2) 83 [(78, [(vs [70,82,69,69,67,79,85,78,84]),(vs [70,82,69,69]),(vs [82,69,84,73,82,69,68]),(vs [82,69,84,67,79,85,78,84]),(vs [83,69,69,78])])] [(8, 0),(9, 0)] (Xc (Xi.aT ν) [] y7s1) = y7s2 := fun _ => by kernel_rfl
def y7Qh3 (S : List Nat) (L : Nat) (σ : Nat → Option Value) : LH := mrg [(78,.mapU [(zw16,(σ 0)),(zw17,(σ 1)),(zw18,(σ 2)),(zw19,(σ 3)),(zw20,(σ 4))]),(82,.miter (some 81) 5 S L)] y7h2
def y7Qs3 (j : Nat) (S : List Nat) (L : Nat) (σ : Nat → Option Value) : ASt := ⟨zf27, [], ⟨Xa (y7Qh3 S L σ), Nat.add 83 (Nat.mul j 14), Xa ([])⟩⟩
def y7Hh3 (S : List Nat) (σ : Nat → Option Value) : LH := mrg [(78,.mapU [(zw16,(σ 0)),(zw17,(σ 1)),(zw18,(σ 2)),(zw19,(σ 3)),(zw20,(σ 4))]),(82,.miter (some 81) 5 S 5)] y7h2
def y7Hs3 (j : Nat) (S : List Nat) (σ : Nat → Option Value) : ASt := ⟨zf28, [], ⟨Xa (y7Hh3 S σ), Nat.add 83 (Nat.mul j 14), Xa ([])⟩⟩
def y7Xh3 (σ : Nat → Option Value) : LH := mrg [(78,.mapU [(zw16,(σ 0)),(zw17,(σ 1)),(zw18,(σ 2)),(zw19,(σ 3)),(zw20,(σ 4))])] (rmq y7h2 [82])
def y7Xs3 (σ : Nat → Option Value) : ASt := ⟨zf3, [], ⟨Xa (y7Xh3 σ), 153, Xa ([])⟩⟩
def y7es3 : List MapEntry := [⟨zw16, zw12, 0⟩,⟨zw17, zw11, 1⟩,⟨zw18, zw13, 2⟩,⟨zw19, zw14, 3⟩,⟨zw20, zw15, 4⟩]
def y7vs3 : List Value := [(vi 1048824),(vi 1048792),(vi 1048832),(vi 1048864),(vi 1048872)]
def y7sg3 : Nat → Option Value := sg [no,no,no,no,no]
def y7op3 : Oper := opAt (zk11) 0
def y7re3 : List Oper := Xf (YF (zk11)).toList 1
def y7kk3 : List Xt := [.code zk12,.inLoop zk13,.inBlock 0,.code zk10]
def YA : List Nat := Xb (y7Hh3 [] (fun _ => none))
def y7kx3 : List Nat := Xb (y7Xh3 (fun _ => none))
def YB : List Nat := []
def y7kg3 : List Nat := []
def YC : List (Nat × Nat) := [(8, 0),(9, 0)]
theorem y7lv3 (ν : Mu) : X3 (Xi.aT ν) 82 81 5 5 y7Qs3 y7Hs3 y7es3 y7vs3 y7es3.length 0 :=
 ⟨⟨⟨[0,1,5,6],YA,YB,97,[],YC,fun _ _ _ => by kernel_rfl⟩,⟨⟨[3,4,6],YA,YB,97,[],YC,fun _ _ _ => by kernel_rfl⟩,⟨⟨[1,2,3,5,6],YA,YB,97,[],YC,fun _ _ _ => by kernel_rfl⟩,⟨⟨[0,3,4,5,6],YA,YB,97,[],YC,fun _ _ _ => by kernel_rfl⟩,⟨⟨[2,7],YA,YB,97,[],YC,fun _ _ _ => by kernel_rfl⟩,trivial⟩⟩⟩⟩⟩,
 ⟨⟨⟨[0,1,5,6],YA,YB,111,[],YC,fun _ _ _ => by kernel_rfl⟩,⟨⟨[3,4,6],YA,YB,111,[],YC,fun _ _ _ => by kernel_rfl⟩,⟨⟨[1,2,3,5,6],YA,YB,111,[],YC,fun _ _ _ => by kernel_rfl⟩,⟨⟨[0,3,4,5,6],YA,YB,111,[],YC,fun _ _ _ => by kernel_rfl⟩,⟨⟨[2,7],YA,YB,111,[],YC,fun _ _ _ => by kernel_rfl⟩,trivial⟩⟩⟩⟩⟩,
 ⟨⟨⟨[0,1,5,6],YA,YB,125,[],YC,fun _ _ _ => by kernel_rfl⟩,⟨⟨[3,4,6],YA,YB,125,[],YC,fun _ _ _ => by kernel_rfl⟩,⟨⟨[1,2,3,5,6],YA,YB,125,[],YC,fun _ _ _ => by kernel_rfl⟩,⟨⟨[0,3,4,5,6],YA,YB,125,[],YC,fun _ _ _ => by kernel_rfl⟩,⟨⟨[2,7],YA,YB,125,[],YC,fun _ _ _ => by kernel_rfl⟩,trivial⟩⟩⟩⟩⟩,
 ⟨⟨⟨[0,1,5,6],YA,YB,139,[],YC,fun _ _ _ => by kernel_rfl⟩,⟨⟨[3,4,6],YA,YB,139,[],YC,fun _ _ _ => by kernel_rfl⟩,⟨⟨[1,2,3,5,6],YA,YB,139,[],YC,fun _ _ _ => by kernel_rfl⟩,⟨⟨[0,3,4,5,6],YA,YB,139,[],YC,fun _ _ _ => by kernel_rfl⟩,⟨⟨[2,7],YA,YB,139,[],YC,fun _ _ _ => by kernel_rfl⟩,trivial⟩⟩⟩⟩⟩,
 ⟨⟨⟨[0,1,5,6],YA,YB,153,[],YC,fun _ _ _ => by kernel_rfl⟩,⟨⟨[3,4,6],YA,YB,153,[],YC,fun _ _ _ => by kernel_rfl⟩,⟨⟨[1,2,3,5,6],YA,YB,153,[],YC,fun _ _ _ => by kernel_rfl⟩,⟨⟨[0,3,4,5,6],YA,YB,153,[],YC,fun _ _ _ => by kernel_rfl⟩,⟨⟨[2,7],YA,YB,153,[],YC,fun _ _ _ => by kernel_rfl⟩,trivial⟩⟩⟩⟩⟩,
 trivial⟩⟩⟩⟩⟩
theorem y7lz3 : y7Xs3 (endV y7vs3 y7sg3) = y7s3 := by kernel_rfl
theorem y7lp3 (ν : Mu) {K : ASt → Prop} (C : Clo (Xi.aT ν) K) (k : K y7s3) : K y7s2 :=
  C.loop (ops := YF (zk11)) (o := y7op3) (rest := y7re3) (k := y7kk3) (it := .tmp 14) (r := 82) (m := 81) (since := 5) (L0 := 5) (cl := 5) (es := y7es3) (vals := y7vs3) (σ0 := y7sg3) (Q := y7Qs3) (H := y7Hs3) (X := y7Xs3) (nsx := [1]) (keepx := y7kx3) (fsx := y7kg3) (nxx := 153) (usx := []) (dsx := [])
    (by kernel_rfl) (fun _ _ _ => by kernel_rfl) (by kernel_rfl) (by kernel_rfl) (fun _ _ _ _ => by kernel_rfl) (fun _ _ _ _ => by kernel_rfl) (fun _ _ _ _ => by kernel_rfl) (fun _ _ _ _ => by kernel_rfl) (fun _ _ _ _ => by kernel_rfl) (by kernel_rfl) (by kernel_rfl) (by decide +kernel) (y7lv3 ν) (fun _ _ _ => by kernel_rfl) (by rw [y7lz3]; exact k)
theorem y7z : ∀ ν, mEnd [.tmp 6] (gcS [73,74,75,76,77,78,79,80] [] mm7.n1 (Xc (Xi.aT ν) [0,1,3,4,6] y7s3)) = some (116,mm7.nt,mm7.res,mm7.A1) := fun _ => by kernel_rfl
theorem y8e1 : ∀ ν, gcS (Xb y8h1) (Xb y8g1) 204 (Xc (Xi.aT ν) [2,5,9,12,13] y8s0) = y8s1 := fun _ => by kernel_rfl
theorem y8e2 : ∀ ν, gcS (Xb y8h2) (Xb y8g2) 327 (Xc (Xi.aT ν) [1,2,3,6,7,9,10,11,13] y8s1) = y8s2 := fun _ => by kernel_rfl
theorem y8z : ∀ ν, mEnd [.tmp 4] (gcS [89,97,110,118,130,138,150,158,170,171,181,194,202,214,215,225,237,245,257,265,277,285,297,305,317,325,338,346,359,367,379,387,400,408,421,423] [98] mm8.n1 (Xc (Xi.aT ν) [0,2,4,11,13] y8s2)) = some (118,mm8.nt,mm8.res,mm8.A1) := fun _ => by kernel_rfl
theorem me9 : ∀ ν, YR (Xi.aT ν) 277 mm9 [.tmp 6,.tmp 7] [3,4,6] [79] [] = some (277,mm9.nt,mm9.res,mm9.A1) := fun _ => by kernel_rfl
theorem me10 : ∀ ν, YR (Xi.aT ν) 236 mm10 [.tmp 4,.tmp 5] [1,4,6] [] [] = some (236,mm10.nt,mm10.res,mm10.A1) := fun _ => by kernel_rfl
theorem y11e1 : ∀ ν, gcS (Xb y11h1) (Xb y11g1) 199 (Xc (Xi.aT ν) [0,2,3,4,6,8,9,12,13] y11s0) = y11s1 := fun _ => by kernel_rfl
theorem y11e2 : ∀ ν, gcS (Xb y11h2) (Xb y11g2) 324 (Xc (Xi.aT ν) [0,2,3,4,5,6,12,13] y11s1) = y11s2 := fun _ => by kernel_rfl
end
end Go.Proofs.YtckflfichfnclaaGreatDoor.Sim
