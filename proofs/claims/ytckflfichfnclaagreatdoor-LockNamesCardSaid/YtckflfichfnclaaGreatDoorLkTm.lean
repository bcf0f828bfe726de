/- The tables with what is known of calls are true of the program. No condition. -/
import Derived.Test.YtckflfichfnclaaGreatDoorLkMm0
import Derived.Test.YtckflfichfnclaaGreatDoorLkMm1
import Derived.Test.YtckflfichfnclaaGreatDoorLkMm2
import Derived.Test.YtckflfichfnclaaGreatDoorLkMm3
import Derived.Test.YtckflfichfnclaaGreatDoorLkMm4
import Derived.Test.YtckflfichfnclaaGreatDoorLkMm5
import Derived.Test.YtckflfichfnclaaGreatDoorLkMm6
import Derived.Test.YtckflfichfnclaaGreatDoorLkMm7
import Derived.Test.YtckflfichfnclaaGreatDoorLkMm8
import Derived.Test.YtckflfichfnclaaGreatDoorLkMm9
import Derived.Test.YtckflfichfnclaaGreatDoorLkMm10
import Derived.Test.YtckflfichfnclaaGreatDoorLkMm11
import Derived.Test.YtckflfichfnclaaGreatDoorLkMm12
import Derived.Test.YtckflfichfnclaaGreatDoorLkMm13
import Derived.Test.YtckflfichfnclaaGreatDoorLkMm14
import Derived.Test.YtckflfichfnclaaGreatDoorLkMm15
import Derived.Test.YtckflfichfnclaaGreatDoorLkMm16
import Derived.Test.YtckflfichfnclaaGreatDoorLkMm17
import Derived.Test.YtckflfichfnclaaGreatDoorLkMm18
import Derived.Test.YtckflfichfnclaaGreatDoorLkMm19
import Derived.Test.YtckflfichfnclaaGreatDoorLkMm20
import Derived.Test.YtckflfichfnclaaGreatDoorLkMm21
import Derived.Test.YtckflfichfnclaaGreatDoorLkMm22
import Derived.Test.YtckflfichfnclaaGreatDoorLkMd
set_option maxRecDepth 100000
namespace Go.Proofs.YtckflfichfnclaaGreatDoor.Sim
open Go Go.RowKit
theorem mk4 : Xx Tryz.prog 9 25 mm4 := Xz XA [.tmp 6,.tmp 7] [1,2,6] [] [] me4
theorem mk6 : Xx Tryz.prog 9 118 mm6 := XY XA y6f [.tmp 4] (by kernel_rfl) (fun ν => let C := (XA.aT ν); ⟨_, (rr C (y6e1 ν) (XI.runs C [0,1,3,6,12,13] [89,97,109,117,129,137,149,157,170,178,190,198,211,212,222,235,243,256,264,276,284,296,304,317,319] [98] mm6.n1 rfl)), y6z ν⟩)
theorem mk7 : Xx Tryz.prog 9 116 mm7 := XY XA y7f [.tmp 6] (by kernel_rfl) (fun ν => let C := (XA.aT ν); ⟨_, (rr C (y7e1 ν) (rq C (y7e2 ν) (y7lp3 ν (Clo.reach C _) (XI.runs C [0,1,3,4,6] [73,74,75,76,77,78,79,80] [] mm7.n1 rfl)))), y7z ν⟩)
theorem mk8 : Xx Tryz.prog 9 118 mm8 := XY XA y8f [.tmp 4] (by kernel_rfl) (fun ν => let C := (XA.aT ν); ⟨_, (rr C (y8e1 ν) (rr C (y8e2 ν) (XI.runs C [0,2,4,11,13] [89,97,110,118,130,138,150,158,170,171,181,194,202,214,215,225,237,245,257,265,277,285,297,305,317,325,338,346,359,367,379,387,400,408,421,423] [98] mm8.n1 rfl))), y8z ν⟩)
theorem mk9 : Xx Tryz.prog 9 277 mm9 := Xz XA [.tmp 6,.tmp 7] [3,4,6] [79] [] me9
theorem mk10 : Xx Tryz.prog 9 236 mm10 := Xz XA [.tmp 4,.tmp 5] [1,4,6] [] [] me10
theorem mk11 : Xx Tryz.prog 9 118 mm11 := XY XA y11f [.tmp 4] (by kernel_rfl) (fun ν => let C := (XA.aT ν); ⟨_, (rr C (y11e1 ν) (rr C (y11e2 ν) (rr C (y11e3 ν) (rr C (y11e4 ν) (rr C (y11e5 ν) (rr C (y11e6 ν) (XI.runs C [3,4,5,6,7,9,10,11,12] [89,97,109,117,129,137,149,157,169,177,189,197,209,210,220,232,240,252,260,273,281,293,301,314,322,334,342,354,362,375,376,386,398,406,418,426,438,446,458,459,469,481,489,501,509,522,530,542,550,562,563,573,585,593,605,613,626,634,646,654,666,674,686,694,707,715,727,735,747,755,767,768,778,790,798,810,811,821,833,834,844,856,864,876,877,887,900,908,909] [98] mm11.n1 rfl))))))), y11z ν⟩)
theorem mk12 : Xx Tryz.prog 9 277 mm12 := Xz XA [.tmp 6,.tmp 7] [3,4,6] [79] [] me12
theorem mk13 : Xx Tryz.prog 9 277 mm13 := Xz XA [.tmp 6,.tmp 7] [3,4,6] [79] [] me13
theorem mk14 : Xx Tryz.prog 9 277 mm14 := Xz XA [.tmp 6,.tmp 7] [3,4,6] [79] [] me14
theorem mk15 : Xx Tryz.prog 9 277 mm15 := Xz XA [.tmp 6,.tmp 7] [3,4,6] [79] [] me15
theorem mk16 : Xx Tryz.prog 9 277 mm16 := Xz XA [.tmp 6,.tmp 7] [3,4,6] [79] [] me16
theorem mk17 : Xx Tryz.prog 9 278 mm17 := Xz XA [.tmp 4] [2,3,5] [] [] me17
theorem mk18 : Xx Tryz.prog 9 277 mm18 := Xz XA [.tmp 6,.tmp 7] [3,4,6] [79] [] me18
theorem mk19 : Xx Tryz.prog 9 278 mm19 := Xz XA [.tmp 4] [5] [] [] me19
theorem mk20 : Xx Tryz.prog 9 277 mm20 := Xz XA [.tmp 6,.tmp 7] [3,4,6] [79] [] me20
theorem mk21 : Xx Tryz.prog 9 277 mm21 := Xz XA [.tmp 6,.tmp 7] [0,1,3,6] [] [] me21
theorem mk22 : Xx Tryz.prog 9 277 mm22 := Xz XA [.tmp 6,.tmp 7] [3,4,6] [79] [] me22
theorem mk23 : Xx Tryz.prog 9 277 mm23 := Xz XA [.tmp 6,.tmp 7] [3,4,6] [79] [] me23
theorem mk24 : Xx Tryz.prog 9 278 mm24 := Xz XA [.tmp 4] [2,6] [] [] me24
theorem mk25 : Xx Tryz.prog 9 277 mm25 := Xz XA [.tmp 6,.tmp 7] [3,4,6] [79] [] me25
theorem mk26 : Xx Tryz.prog 9 277 mm26 := Xz XA [.tmp 6,.tmp 7] [3,4,6] [79] [] me26
theorem mk27 : Xx Tryz.prog 9 118 mm27 := XY XA y27f [.tmp 4] (by kernel_rfl) (fun ν => let C := (XA.aT ν); ⟨_, (rr C (y27e1 ν) (XI.runs C [4,7,13] [89,97,110,118,130,138,150,158,170,178,191,199,211,219,232,240,252,260,273,281,282] [98] mm27.n1 rfl)), y27z ν⟩)
theorem mk28 : Xx Tryz.prog 9 277 mm28 := Xz XA [.tmp 6,.tmp 7] [3,4,6] [79] [] me28
theorem mk29 : Xx Tryz.prog 9 277 mm29 := Xz XA [.tmp 6,.tmp 7] [3,4,6] [79] [] me29
theorem mk30 : Xx Tryz.prog 9 277 mm30 := Xz XA [.tmp 6,.tmp 7] [0,1,3,6] [] [] me30
theorem mk31 : Xx Tryz.prog 9 277 mm31 := Xz XA [.tmp 6,.tmp 7] [2,3,4,6] [] [] me31
theorem mk33 : Xx Tryz.prog 9 277 mm33 := Xz XA [.tmp 6,.tmp 7] [0,1,3,6] [] [] me33
theorem mk35 : Xx Tryz.prog 9 118 mm35 := XY XA y35f [.tmp 4] (by kernel_rfl) (fun ν => let C := (XA.aT ν); ⟨_, (rr C (y35e1 ν) (rr C (y35e2 ν) (XI.runs C [0,4,10,12,13] [89,97,109,117,129,137,150,151,161,173,181,193,201,214,222,234,242,254,262,275,283,296,304,316,324,337,345,357,365,377,385,397,405,417,425,437,438,448,461,463] [98] mm35.n1 rfl))), y35z ν⟩)
theorem mk36 : Xx Tryz.prog 9 277 mm36 := Xz XA [.tmp 6,.tmp 7] [3,4,6] [79] [] me36
theorem mk38 : Xx Tryz.prog 9 118 mm38 := Xz XA [.tmp 4] [3,6,8,12] [89,97,110,118,119] [98] me38
theorem mk39 : Xx Tryz.prog 9 277 mm39 := Xz XA [.tmp 6,.tmp 7] [3,4,6] [79] [] me39
theorem mk40 : Xx Tryz.prog 9 118 mm40 := Xz XA [.tmp 4] [1,2,4,7,8,9,10] [89,97,98] [98] me40
theorem mk41 : Xx Tryz.prog 9 118 mm41 := XY XA y41f [.tmp 4] (by kernel_rfl) (fun ν => let C := (XA.aT ν); ⟨_, (rr C (y41e1 ν) (rr C (y41e2 ν) (XI.runs C [2,4,5,6,8,9,11,12] [89,97,109,117,130,138,150,158,170,178,191,199,211,219,232,240,252,260,273,281,293,301,313,321,333,341,353,361,373,374,384,397,399] [98] mm41.n1 rfl))), y41z ν⟩)
theorem mk44 : Xx Tryz.prog 9 85 mm44 := XY XA y44f [.tmp 2] (by kernel_rfl) (fun ν => let C := (XA.aT ν); ⟨_, (rq C (y44e1 ν) (rq C (y44e2 ν) (rq C (y44e3 ν) (rq C (y44e4 ν) (rq C (y44e5 ν) (rq C (y44e6 ν) (rq C (y44e7 ν) (rq C (y44e8 ν) (rq C (y44e9 ν) (rq C (y44e10 ν) (rq C (y44e11 ν) (rq C (y44e12 ν) (rq C (y44e13 ν) (rq C (y44e14 ν) (rq C (y44e15 ν) (rq C (y44e16 ν) (rq C (y44e17 ν) (rq C (y44e18 ν) (rq C (y44e19 ν) (rq C (y44e20 ν) (rq C (y44e21 ν) (rr C (y44e22 ν) (rr C (y44e23 ν) (rr C (y44e24 ν) (rr C (y44e25 ν) (rr C (y44e26 ν) (XI.runs C [1,2,8,11,12] [] [] mm44.n1 rfl))))))))))))))))))))))))))), y44z ν⟩)
theorem mk104 : Xx Tryz.prog 9 118 mm104 := XY XA y104f [.tmp 4] (by kernel_rfl) (fun ν => let C := (XA.aT ν); ⟨_, (rr C (y104e1 ν) (rr C (y104e2 ν) (XI.runs C [0,3,5,6,7,9,12,13] [89,97,109,117,129,130,140,152,160,172,180,192,200,212,220,232,240,252,253,263,275,283,295,296,306,318,326,338,346,359,367,380,381,391,404,412,424,432,444,452,464,465,475,476] [98] mm104.n1 rfl))), y104z ν⟩)
theorem mk105 : Xx Tryz.prog 9 118 mm105 := XY XA y105f [.tmp 4] (by kernel_rfl) (fun ν => let C := (XA.aT ν); ⟨_, (rr C (y105e1 ν) (rr C (y105e2 ν) (rr C (y105e3 ν) (rr C (y105e4 ν) (rr C (y105e5 ν) (XI.runs C [0,2,3,5,9,10,11] [89,90,100,113,121,133,134,144,156,164,176,184,196,204,217,225,237,245,257,265,278,286,298,306,318,326,338,346,359,367,379,387,399,407,420,428,440,448,460,468,480,488,501,509,521,529,541,549,561,569,581,589,602,603,613,625,633,645,653,665,673,685,693,705,713,725,733,745,746,756,769,771] [92] mm105.n1 rfl)))))), y105z ν⟩)
theorem mk106 : Xx Tryz.prog 9 277 mm106 := Xz XA [.tmp 6,.tmp 7] [3,4,6] [79] [] me106
theorem mk109 : Xx Tryz.prog 9 118 mm109 := Xz XA [.tmp 4] [0,1,3,5,6,10,11,12] [89,97,109,117,129,137,149,157,158] [98] me109
theorem mk111 : Xx Tryz.prog 9 85 mm111 := XY XA y111f [.tmp 2] (by kernel_rfl) (fun ν => let C := (XA.aT ν); ⟨_, (rq C (y111e1 ν) (rq C (y111e2 ν) (rq C (y111e3 ν) (rq C (y111e4 ν) (rq C (y111e5 ν) (rq C (y111e6 ν) (rq C (y111e7 ν) (rq C (y111e8 ν) (rq C (y111e9 ν) (rq C (y111e10 ν) (rq C (y111e11 ν) (rq C (y111e12 ν) (rq C (y111e13 ν) (rq C (y111e14 ν) (rq C (y111e15 ν) (rq C (y111e16 ν) (rq C (y111e17 ν) (rq C (y111e18 ν) (rq C (y111e19 ν) (rq C (y111e20 ν) (rq C (y111e21 ν) (rq C (y111e22 ν) (rq C (y111e23 ν) (rq C (y111e24 ν) (rq C (y111e25 ν) (rq C (y111e26 ν) (rq C (y111e27 ν) (rq C (y111e28 ν) (rq C (y111e29 ν) (rq C (y111e30 ν) (rq C (y111e31 ν) (rq C (y111e32 ν) (rq C (y111e33 ν) (rq C (y111e34 ν) (rq C (y111e35 ν) (rq C (y111e36 ν) (rq C (y111e37 ν) (rq C (y111e38 ν) (rq C (y111e39 ν) (rq C (y111e40 ν) (rq C (y111e41 ν) (rq C (y111e42 ν) (rq C (y111e43 ν) (rq C (y111e44 ν) (rq C (y111e45 ν) (rq C (y111e46 ν) (rq C (y111e47 ν) (rq C (y111e48 ν) (rq C (y111e49 ν) (rq C (y111e50 ν) (rq C (y111e51 ν) (rq C (y111e52 ν) (rq C (y111e53 ν) (rq C (y111e54 ν) (rq C (y111e55 ν) (rq C (y111e56 ν) (rq C (y111e57 ν) (rq C (y111e58 ν) (rq C (y111e59 ν) (rr C (y111e60 ν) (rr C (y111e61 ν) (rr C (y111e62 ν) (rr C (y111e63 ν) (rr C (y111e64 ν) (rr C (y111e65 ν) (rr C (y111e66 ν) (rr C (y111e67 ν) (rr C (y111e68 ν) (rr C (y111e69 ν) (rr C (y111e70 ν) (XI.runs C [4,5,6,11] [] [] mm111.n1 rfl))))))))))))))))))))))))))))))))))))))))))))))))))))))))))))))))))))))), y111z ν⟩)
theorem mk184 : Xx Tryz.prog 9 25 mm184 := Xz XA [.tmp 6,.tmp 7] [1,2,6] [] [] me184
theorem mk186 : Xx Tryz.prog 9 118 mm186 := XY XA y186f [.tmp 4] (by kernel_rfl) (fun ν => let C := (XA.aT ν); ⟨_, (rr C (y186e1 ν) (rr C (y186e2 ν) (rr C (y186e3 ν) (XI.runs C [1,3,5,8,10,13] [89,97,109,117,129,137,149,157,170,178,190,198,211,219,231,239,252,253,263,275,283,296,304,316,324,336,344,357,365,377,385,398,406,418,426,439,440,450,462,470,483,491,503,511,523,531,544,546] [98] mm186.n1 rfl)))), y186z ν⟩)
theorem mk187 : Xx Tryz.prog 9 116 mm187 := XY XA y187f [.tmp 6] (by kernel_rfl) (fun ν => let C := (XA.aT ν); ⟨_, (rr C (y187e1 ν) (rq C (y187e2 ν) (y187lp3 ν (Clo.reach C _) (XI.runs C [0,1,3,4,6] [73,74,75,76,77,78,79,80] [] mm187.n1 rfl)))), y187z ν⟩)
theorem mk189 : Xx Tryz.prog 9 118 mm189 := XY XA y189f [.tmp 4] (by kernel_rfl) (fun ν => let C := (XA.aT ν); ⟨_, (rr C (y189e1 ν) (rr C (y189e2 ν) (rr C (y189e3 ν) (rr C (y189e4 ν) (XI.runs C [0,1,5,6,7,10,13] [89,97,109,117,129,137,150,151,161,173,181,194,202,214,222,234,242,255,263,276,284,296,304,317,325,337,345,357,365,377,385,397,405,417,425,438,446,458,466,479,480,490,503,511,523,531,543,551,563,571,583,591,603,611,623,624,634,646,654,666,667,677,690,692] [98] mm189.n1 rfl))))), y189z ν⟩)
theorem mk191 : Xx Tryz.prog 9 85 mm191 := XY XA y191f [.tmp 2] (by kernel_rfl) (fun ν => let C := (XA.aT ν); ⟨_, (rq C (y191e1 ν) (rq C (y191e2 ν) (rq C (y191e3 ν) (rq C (y191e4 ν) (rq C (y191e5 ν) (rq C (y191e6 ν) (rq C (y191e7 ν) (rq C (y191e8 ν) (rq C (y191e9 ν) (rq C (y191e10 ν) (rq C (y191e11 ν) (rq C (y191e12 ν) (rq C (y191e13 ν) (rq C (y191e14 ν) (rq C (y191e15 ν) (rq C (y191e16 ν) (rq C (y191e17 ν) (rq C (y191e18 ν) (rq C (y191e19 ν) (rq C (y191e20 ν) (rq C (y191e21 ν) (rq C (y191e22 ν) (rq C (y191e23 ν) (rq C (y191e24 ν) (rq C (y191e25 ν) (rq C (y191e26 ν) (rq C (y191e27 ν) (rq C (y191e28 ν) (rq C (y191e29 ν) (rq C (y191e30 ν) (rq C (y191e31 ν) (rq C (y191e32 ν) (rq C (y191e33 ν) (rq C (y191e34 ν) (rq C (y191e35 ν) (rq C (y191e36 ν) (rq C (y191e37 ν) (rq C (y191e38 ν) (rq C (y191e39 ν) (rq C (y191e40 ν) (rq C (y191e41 ν) (rq C (y191e42 ν) (rq C (y191e43 ν) (rr C (y191e44 ν) (rr C (y191e45 ν) (rr C (y191e46 ν) (rr C (y191e47 ν) (rr C (y191e48 ν) (rr C (y191e49 ν) (rr C (y191e50 ν) (rr C (y191e51 ν) (rr C (y191e52 ν) (XI.runs C [0,1,4,5,6,8,12] [] [] mm191.n1 rfl))))))))))))))))))))))))))))))))))))))))))))))))))))), y191z ν⟩)
theorem cert : Xy Tryz.prog tab := XA.wM ⟨⟨mk4,mk184,trivial⟩,⟨mk6,mk8,mk11,mk27,mk35,mk38,mk40,mk41,mk104,mk105,mk109,mk186,mk189,trivial⟩,⟨mk7,mk187,trivial⟩,⟨mk9,mk12,mk13,mk14,mk15,mk16,mk18,mk20,mk21,mk22,mk23,mk25,mk26,mk28,mk29,mk30,mk31,mk33,mk36,mk39,mk106,trivial⟩,⟨mk10,trivial⟩,⟨mk17,mk19,mk24,trivial⟩,⟨mk44,mk111,mk191,trivial⟩,trivial⟩
end Go.Proofs.YtckflfichfnclaaGreatDoor.Sim
