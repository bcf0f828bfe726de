/- Calls that are run once, by the kernel. No condition. -/
import Derived.Test.YtckflfichfnclaaGreatDoorLkMs0
import Derived.KernelRfl
set_option maxRecDepth 100000
namespace Go.Proofs.YtckflfichfnclaaGreatDoor.Sim
open Go Go.RowKit
noncomputable section
theorem y111e67 : ∀ ν, gcS (Xb y111h67) (Xb y111g67) 428094 (Xc (Xi.aT ν) [0,1,2,6,7,8,11,13] y111s66) = y111s67 := fun _ => by kernel_rfl
theorem y111e68 : ∀ ν, gcS (Xb y111h68) (Xb y111g68) 429762 (Xc (Xi.aT ν) [0,2,4,9,11,13] y111s67) = y111s68 := fun _ => by kernel_rfl
theorem y111e69 : ∀ ν, gcS (Xb y111h69) (Xb y111g69) 431469 (Xc (Xi.aT ν) [0,1,9,11,13] y111s68) = y111s69 := fun _ => by kernel_rfl
theorem y111e70 : ∀ ν, gcS (Xb y111h70) (Xb y111g70) 433079 (Xc (Xi.aT ν) [3,4,9,11,13] y111s69) = y111s70 := fun _ => by kernel_rfl
theorem y111z : ∀ ν, mEnd [.tmp 2] (gcS [] [] mm111.n1 (Xc (Xi.aT ν) [4,5,6,11] y111s70)) = some (85,mm111.nt,mm111.res,mm111.A1) := fun _ => by kernel_rfl
theorem me184 : ∀ ν, YR (Xi.aT ν) 25 mm184 [.tmp 6,.tmp 7] [1,2,6] [] [] = some (25,mm184.nt,mm184.res,mm184.A1) := fun _ => by kernel_rfl
theorem y186e1 : ∀ ν, gcS (Xb y186h1) (Xb y186g1) 200 (Xc (Xi.aT ν) [2,3,4,5,6,8,12,13] y186s0) = y186s1 := fun _ => by kernel_rfl
theorem y186e2 : ∀ ν, gcS (Xb y186h2) (Xb y186g2) 326 (Xc (Xi.aT ν) [0,3,4,6,7,9,12,13] y186s1) = y186s2 := fun _ => by kernel_rfl
theorem y186e3 : ∀ ν, gcS (Xb y186h3) (Xb y186g3) 452 (Xc (Xi.aT ν) [0,3,4,5,7,8,12,13] y186s2) = y186s3 := fun _ => by kernel_rfl
theorem y186z : ∀ ν, mEnd [.tmp 4] (gcS [89,97,109,117,129,137,149,157,170,178,190,198,211,219,231,239,252,253,263,275,283,296,304,316,324,336,344,357,365,377,385,398,406,418,426,439,440,450,462,470,483,491,503,511,523,531,544,546] [98] mm186.n1 (Xc (Xi.aT ν) [1,3,5,8,10,13] y186s3)) = some (118,mm186.nt,mm186.res,mm186.A1) := fun _ => by kernel_rfl
theorem y187e1 : ∀ ν, gcS (Xb y187h1) (Xb y187g1) 83 (Xc (Xi.aT ν) [3] y187s0) = y187s1 := fun _ => by kernel_rfl
theorem y187e2 : ∀ ν, Xq (Xb y187h2) (Xb y187g2) 83 [(78, [(vs [70,82,69,69,67,79,85,78,84]),(vs [70,82,69,69]),(vs [82,69,84,73,82,69,68]),(vs [82,69,84,67,79,85,78,84]),(vs [83,69,69,78])])] [(8, 0),(9, 0)] (Xc (Xi.aT ν) [] y187s1) = y187s2 := fun _ => by kernel_rfl
def y187Qh3 (S : List Nat) (L : Nat) (σ : Nat → Option Value) : LH := mrg [(78,.mapU [(zw16,(σ 0)),(zw17,(σ 1)),(zw18,(σ 2)),(zw19,(σ 3)),(zw20,(σ 4))]),(82,.miter (some 81) 5 S L)] y187h2
def y187Qs3 (j : Nat) (S : List Nat) (L : Nat) (σ : Nat → Option Value) : ASt := ⟨zf27, [], ⟨Xa (y187Qh3 S L σ), Nat.add 83 (Nat.mul j 14), Xa ([])⟩⟩
def y187Hh3 (S : List Nat) (σ : Nat → Option Value) : LH := mrg [(78,.mapU [(zw16,(σ 0)),(zw17,(σ 1)),(zw18,(σ 2)),(zw19,(σ 3)),(zw20,(σ 4))]),(82,.miter (some 81) 5 S 5)] y187h2
def y187Hs3 (j : Nat) (S : List Nat) (σ : Nat → Option Value) : ASt := ⟨zf28, [], ⟨Xa (y187Hh3 S σ), Nat.add 83 (Nat.mul j 14), Xa ([])⟩⟩
def y187Xh3 (σ : Nat → Option Value) : LH := mrg [(78,.mapU [(zw16,(σ 0)),(zw17,(σ 1)),(zw18,(σ 2)),(zw19,(σ 3)),(zw20,(σ 4))])] (rmq y187h2 [82])
def y187Xs3 (σ : Nat → Option Value) : ASt := ⟨zf3, [], ⟨Xa (y187Xh3 σ), 153, Xa ([])⟩⟩
def y187es3 : List MapEntry := [⟨zw16, zw12, 0⟩,⟨zw17, zw11, 1⟩,⟨zw18, zw13, 2⟩,⟨zw19, zw14, 3⟩,⟨zw20, zw15, 4⟩]
def y187vs3 : List Value := [(vi 1048784),(vi 1048760),(vi 1048792),(vi 1048824),(vi 1048832)]
def y187sg3 : Nat → Option Value := sg [no,no,no,no,no]
def y187op3 : Oper := opAt (zk11) 0
def y187re3 : List Oper := Xf (YF (zk11)).toList 1
def y187kk3 : List Xt := [.code zk12,.inLoop zk13,.inBlock 0,.code zk10]
def XN : List Nat := Xb (y187Hh3 [] (fun _ => none))
def y187kx3 : List Nat := Xb (y187Xh3 (fun _ => none))
def XP : List Nat := []
def y187kg3 : List Nat := []
def XQ : List (Nat × Nat) := [(8, 0),(9, 0)]
theorem y187lv3 (ν : Mu) : X3 (Xi.aT ν) 82 81 5 5 y187Qs3 y187Hs3 y187es3 y187vs3 y187es3.length 0 :=
 ⟨⟨⟨[0,1,5,6],XN,XP,97,[],XQ,fun _ _ _ => by kernel_rfl⟩,⟨⟨[3,4,6],XN,XP,97,[],XQ,fun _ _ _ => by kernel_rfl⟩,⟨⟨[1,2,3,5,6],XN,XP,97,[],XQ,fun _ _ _ => by kernel_rfl⟩,⟨⟨[0,3,4,5,6],XN,XP,97,[],XQ,fun _ _ _ => by kernel_rfl⟩,⟨⟨[2,7],XN,XP,97,[],XQ,fun _ _ _ => by kernel_rfl⟩,trivial⟩⟩⟩⟩⟩,
 ⟨⟨⟨[0,1,5,6],XN,XP,111,[],XQ,fun _ _ _ => by kernel_rfl⟩,⟨⟨[3,4,6],XN,XP,111,[],XQ,fun _ _ _ => by kernel_rfl⟩,⟨⟨[1,2,3,5,6],XN,XP,111,[],XQ,fun _ _ _ => by kernel_rfl⟩,⟨⟨[0,3,4,5,6],XN,XP,111,[],XQ,fun _ _ _ => by kernel_rfl⟩,⟨⟨[2,7],XN,XP,111,[],XQ,fun _ _ _ => by kernel_rfl⟩,trivial⟩⟩⟩⟩⟩,
 ⟨⟨⟨[0,1,5,6],XN,XP,125,[],XQ,fun _ _ _ => by kernel_rfl⟩,⟨⟨[3,4,6],XN,XP,125,[],XQ,fun _ _ _ => by kernel_rfl⟩,⟨⟨[1,2,3,5,6],XN,XP,125,[],XQ,fun _ _ _ => by kernel_rfl⟩,⟨⟨[0,3,4,5,6],XN,XP,125,[],XQ,fun _ _ _ => by kernel_rfl⟩,⟨⟨[2,7],XN,XP,125,[],XQ,fun _ _ _ => by kernel_rfl⟩,trivial⟩⟩⟩⟩⟩,
 ⟨⟨⟨[0,1,5,6],XN,XP,139,[],XQ,fun _ _ _ => by kernel_rfl⟩,⟨⟨[3,4,6],XN,XP,139,[],XQ,fun _ _ _ => by kernel_rfl⟩,⟨⟨[1,2,3,5,6],XN,XP,139,[],XQ,fun _ _ _ => by kernel_rfl⟩,⟨⟨[0,3,4,5,6],XN,XP,139,[],XQ,fun _ _ _ => by kernel_rfl⟩,⟨⟨[2,7],XN,XP,139,[],XQ,fun _ _ _ => by kernel_rfl⟩,trivial⟩⟩⟩⟩⟩,
 ⟨⟨⟨[0,1,5,6],XN,XP,153,[],XQ,fun _ _ _ => by kernel_rfl⟩,⟨⟨[3,4,6],XN,XP,153,[],XQ,fun _ _ _ => by kernel_rfl⟩,⟨⟨[1,2,3,5,6],XN,XP,153,[],XQ,fun _ _ _ => by kernel_rfl⟩,⟨⟨[0,3,4,5,6],XN,XP,153,[],XQ,fun _ _ _ => by kernel_rfl⟩,⟨⟨[2,7],XN,XP,153,[],XQ,fun _ _ _ => by kernel_rfl⟩,trivial⟩⟩⟩⟩⟩,
 trivial⟩⟩⟩⟩⟩
theorem y187lz3 : y187Xs3 (endV y187vs3 y187sg3) = y187s3 := by kernel_rfl
theorem y187lp3 (ν : Mu) {K : ASt → Prop} (C : Clo (Xi.aT ν) K) (k : K y187s3) : K y187s2 :=
  C.loop (ops := YF (zk11)) (o := y187op3) (rest := y187re3) (k := y187kk3) (it := .tmp 14) (r := 82) (m := 81) (since := 5) (L0 := 5) (cl := 5) (es := y187es3) (vals := y187vs3) (σ0 := y187sg3) (Q := y187Qs3) (H := y187Hs3) (X := y187Xs3) (nsx := [1]) (keepx := y187kx3) (fsx := y187kg3) (nxx := 153) (usx := []) (dsx := [])
    (by kernel_rfl) (fun _ _ _ => by kernel_rfl) (by kernel_rfl) (by kernel_rfl) (fun _ _ _ _ => by kernel_rfl) (fun _ _ _ _ => by kernel_rfl) (fun _ _ _ _ => by kernel_rfl) (fun _ _ _ _ => by kernel_rfl) (fun _ _ _ _ => by kernel_rfl) (by kernel_rfl) (by kernel_rfl) (by decide +kernel) (y187lv3 ν) (fun _ _ _ => by kernel_rfl) (by rw [y187lz3]; exact k)
theorem y187z : ∀ ν, mEnd [.tmp 6] (gcS [73,74,75,76,77,78,79,80] [] mm187.n1 (Xc (Xi.aT ν) [0,1,3,4,6] y187s3)) = some (116,mm187.nt,mm187.res,mm187.A1) := fun _ => by kernel_rfl
end
end Go.Proofs.YtckflfichfnclaaGreatDoor.Sim
