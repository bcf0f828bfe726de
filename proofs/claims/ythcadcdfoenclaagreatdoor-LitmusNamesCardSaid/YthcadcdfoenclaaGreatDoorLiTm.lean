/- The tables with what is known of calls are true of the program. No condition. -/
import Derived.Test.YthcadcdfoenclaaGreatDoorLiMm0
import Derived.Test.YthcadcdfoenclaaGreatDoorLiMm1
import Derived.Test.YthcadcdfoenclaaGreatDoorLiMm2
import Derived.Test.YthcadcdfoenclaaGreatDoorLiMm3
import Derived.Test.YthcadcdfoenclaaGreatDoorLiMm4
import Derived.Test.YthcadcdfoenclaaGreatDoorLiMm5
import Derived.Test.YthcadcdfoenclaaGreatDoorLiMm6
import Derived.Test.YthcadcdfoenclaaGreatDoorLiMm7
import Derived.Test.YthcadcdfoenclaaGreatDoorLiMm8
import Derived.Test.YthcadcdfoenclaaGreatDoorLiMm9
import Derived.Test.YthcadcdfoenclaaGreatDoorLiMm10
import Derived.Test.YthcadcdfoenclaaGreatDoorLiMm11
import Derived.Test.YthcadcdfoenclaaGreatDoorLiMm12
import Derived.Test.YthcadcdfoenclaaGreatDoorLiMm13
import Derived.Test.YthcadcdfoenclaaGreatDoorLiMm14
import Derived.Test.YthcadcdfoenclaaGreatDoorLiMd
set_option maxRecDepth 100000
namespace Go.Proofs.YthcadcdfoenclaaGreatDoor.Sim
open Go Go.RowKit
theorem mk0 : MemoOk Tryz.prog 9 4 mm0 := memo_one cert0 [.cell 2 30,.tmp 3] [0,2,4,6,11,12,13] [74,75,1065,1998] [128,451] me0
theorem mk2 : MemoOk Tryz.prog 9 112 mm2 := memo_one cert0 [.cell 4 58,.tmp 5] [1,2,5,6,7,10,13] [74] [] me2
theorem mk3 : MemoOk Tryz.prog 9 56 mm3 := memo_one cert0 [.tmp 2] [0,4,6,8] [] [] me3
theorem mk4 : MemoOk Tryz.prog 9 113 mm4 := memo_one cert0 [.tmp 2,.tmp 3,.tmp 4] [0,1,4,6,8] [] [] me4
theorem mk5 : MemoOk Tryz.prog 9 112 mm5 := memo_one cert0 [.cell 4 58,.tmp 5] [0,1,2,4,7,8,9,11,13] [74] [] me5
theorem mk6 : MemoOk Tryz.prog 9 56 mm6 := memo_one cert0 [.tmp 2] [0,2,5,6,7,8] [] [] me6
theorem mk7 : MemoOk Tryz.prog 9 113 mm7 := memo_one cert0 [.tmp 2,.tmp 3,.tmp 4] [0,1,2,5,6,7,8] [] [] me7
theorem mk8 : MemoOk Tryz.prog 9 112 mm8 := memo_one cert0 [.cell 4 58,.tmp 5] [0,2,3,7,9,10,12] [74] [] me8
theorem mk11 : MemoOk Tryz.prog 9 112 mm11 := memo_one cert0 [.cell 4 58,.tmp 5] [0,2,3,7,9,10,12] [74] [] me11
theorem mk16 : MemoOk Tryz.prog 9 123 mm16 := memo_one cert0 [.cell 12 173,.tmp 13] [1,2,4,5,6,7] [75,115,116] [] me16
theorem mk23 : MemoOk Tryz.prog 9 160 mm23 := memo_one cert0 [.cell 4 58,.tmp 5] [3,6,9,10,12] [73] [] me23
theorem mk24 : MemoOk Tryz.prog 9 118 mm24 := memo_one cert0 [.cell 4 184,.tmp 5] [0,4,5,6,8,10] [75] [] me24
theorem mk25 : MemoOk Tryz.prog 9 122 mm25 := memo_one cert0 [.cell 6 179,.cell 7 171,.tmp 8] [2,3,7,8,10,11] [75,76,116] [116] me25
theorem mk26 : MemoOk Tryz.prog 9 124 mm26 := memo_one cert0 [.cell 8 55,.tmp 9] [1,2,4,5,6,8,10] [77] [] me26
theorem mk31 : MemoOk Tryz.prog 9 123 mm31 := memo_one cert0 [.cell 12 173,.tmp 13] [1,2,4,5,6,7] [75,115,116] [] me31
theorem mk36 : MemoOk Tryz.prog 9 123 mm36 := memo_one cert0 [.cell 12 173,.tmp 13] [1,5,6,7] [75,108] [] me36
theorem mk38 : MemoOk Tryz.prog 9 160 mm38 := memo_one cert0 [.cell 4 58,.tmp 5] [3,6,9,10,12] [73] [] me38
theorem mk39 : MemoOk Tryz.prog 9 118 mm39 := memo_one cert0 [.cell 4 184,.tmp 5] [0,4,5,6,8,10] [75] [] me39
theorem mk40 : MemoOk Tryz.prog 9 124 mm40 := memo_one cert0 [.cell 8 55,.tmp 9] [1,2,4,5,6,8,10] [77] [] me40
theorem mk43 : MemoOk Tryz.prog 9 118 mm43 := memo_one cert0 [.cell 4 184,.tmp 5] [0,4,5,6,8,10] [75] [] me43
theorem mk44 : MemoOk Tryz.prog 9 124 mm44 := memo_one cert0 [.cell 8 55,.tmp 9] [1,2,4,5,6,8,10] [77] [] me44
theorem mk45 : MemoOk Tryz.prog 9 123 mm45 := memo_one cert0 [.cell 12 173,.tmp 13] [1,5,6,7] [75,108] [] me45
theorem mk47 : MemoOk Tryz.prog 9 118 mm47 := memo_one cert0 [.cell 4 184,.tmp 5] [0,4,5,6,8,10] [75] [] me47
theorem mk48 : MemoOk Tryz.prog 9 124 mm48 := memo_one cert0 [.cell 8 55,.tmp 9] [1,2,4,5,6,8,10] [77] [] me48
theorem mk57 : MemoOk Tryz.prog 9 124 mm57 := memo_one cert0 [.cell 8 55,.tmp 9] [1,2,4,5,6,8,10] [77] [] me57
theorem mk60 : MemoOk Tryz.prog 9 124 mm60 := memo_one cert0 [.cell 8 55,.tmp 9] [1,2,4,5,6,8,10] [77] [] me60
theorem mk76 : MemoOk Tryz.prog 9 16 mm76 := memo_one cert0 [.tmp 2,.tmp 3] [0,1,2,3,6,11] [] [] me76
theorem mk78 : MemoOk Tryz.prog 9 16 mm78 := memo_one cert0 [.tmp 2,.tmp 3] [3,8,11] [] [] me78
theorem mk84 : MemoOk Tryz.prog 9 56 mm84 := memo_one cert0 [.tmp 2] [2,3,4,5,8] [] [] me84
theorem mk85 : MemoOk Tryz.prog 9 113 mm85 := memo_one cert0 [.tmp 2,.tmp 3,.tmp 4] [1,2,3,4,5,8] [] [] me85
theorem mk104 : MemoOk Tryz.prog 9 160 mm104 := memo_one cert0 [.cell 4 58,.tmp 5] [3,6,9,10,12] [73] [] me104
theorem mk105 : MemoOk Tryz.prog 9 118 mm105 := memo_one cert0 [.cell 4 184,.tmp 5] [0,4,5,6,8,10] [75] [] me105
theorem mk106 : MemoOk Tryz.prog 9 122 mm106 := memo_one cert0 [.cell 6 179,.cell 7 171,.tmp 8] [2,3,7,8,10,11] [75,76,116] [116] me106
theorem mk107 : MemoOk Tryz.prog 9 124 mm107 := memo_one cert0 [.cell 8 55,.tmp 9] [1,2,4,5,6,8,10] [77] [] me107
theorem mk121 : MemoOk Tryz.prog 9 160 mm121 := memo_one cert0 [.cell 4 58,.tmp 5] [3,6,9,10,12] [73] [] me121
theorem mk122 : MemoOk Tryz.prog 9 118 mm122 := memo_one cert0 [.cell 4 184,.tmp 5] [0,4,5,6,8,10] [75] [] me122
theorem mk123 : MemoOk Tryz.prog 9 124 mm123 := memo_one cert0 [.cell 8 55,.tmp 9] [1,2,4,5,6,8,10] [77] [] me123
theorem mk130 : MemoOk Tryz.prog 9 118 mm130 := memo_one cert0 [.cell 4 184,.tmp 5] [0,4,5,6,8,10] [75] [] me130
theorem mk131 : MemoOk Tryz.prog 9 124 mm131 := memo_one cert0 [.cell 8 55,.tmp 9] [1,2,4,5,6,8,10] [77] [] me131
theorem mk135 : MemoOk Tryz.prog 9 149 mm135 := memo_one cert0 [.tmp 2] [0,2,3,5] [] [] me135
theorem mk158 : MemoOk Tryz.prog 9 267 mm158 := memo_one cert0 [.tmp 4] [0,3,6,7,8] [] [] me158
theorem mk159 : MemoOk Tryz.prog 9 267 mm159 := memo_one cert0 [.tmp 4] [0,3,6,7,8] [] [] me159
theorem mk222 : MemoOk Tryz.prog 9 267 mm222 := memo_one cert0 [.tmp 4] [0,3,6,7,8] [] [] me222
theorem mk246 : MemoOk Tryz.prog 9 160 mm246 := memo_one cert0 [.cell 4 58,.tmp 5] [3,6,9,10,12] [73] [] me246
theorem mk247 : MemoOk Tryz.prog 9 118 mm247 := memo_one cert0 [.cell 4 184,.tmp 5] [0,4,5,6,8,10] [75] [] me247
theorem mk248 : MemoOk Tryz.prog 9 122 mm248 := memo_one cert0 [.cell 6 179,.cell 7 171,.tmp 8] [2,7,8,10,11] [75,76] [] me248
theorem mk260 : MemoOk Tryz.prog 9 160 mm260 := memo_one cert0 [.cell 4 58,.tmp 5] [3,6,9,10,12] [73] [] me260
theorem mk261 : MemoOk Tryz.prog 9 118 mm261 := memo_one cert0 [.cell 4 184,.tmp 5] [0,4,5,6,8,10] [75] [] me261
theorem mk262 : MemoOk Tryz.prog 9 122 mm262 := memo_one cert0 [.cell 6 179,.cell 7 171,.tmp 8] [2,4,7,8,10,11] [75,76,116,118] [116,118] me262
theorem mk296 : MemoOk Tryz.prog 9 160 mm296 := memo_one cert0 [.cell 4 58,.tmp 5] [3,6,9,10,12] [73] [] me296
theorem mk301 : MemoOk Tryz.prog 9 123 mm301 := memo_one cert0 [.cell 12 173,.tmp 13] [1,5,6,7] [75,108] [] me301
theorem mk306 : MemoOk Tryz.prog 9 160 mm306 := memo_one cert0 [.cell 4 58,.tmp 5] [3,6,9,10,12] [73] [] me306
theorem mk310 : MemoOk Tryz.prog 9 123 mm310 := memo_one cert0 [.cell 12 173,.tmp 13] [1,5,6,7] [75,108] [] me310
theorem mk343 : MemoOk Tryz.prog 9 160 mm343 := memo_one cert0 [.cell 4 58,.tmp 5] [3,6,9,10,12] [73] [] me343
theorem mk357 : MemoOk Tryz.prog 9 160 mm357 := memo_one cert0 [.cell 4 58,.tmp 5] [3,6,9,10,12] [73] [] me357
theorem mk358 : MemoOk Tryz.prog 9 122 mm358 := memo_one cert0 [.cell 6 179,.cell 7 171,.tmp 8] [2,4,7,8,10,11] [75,76,116,118] [116,118] me358
theorem mk386 : MemoOk Tryz.prog 9 267 mm386 := memo_one cert0 [.tmp 4] [2,3,6,7,8] [] [] me386
theorem mk387 : MemoOk Tryz.prog 9 267 mm387 := memo_one cert0 [.tmp 4] [1,2,6,7,8] [] [] me387
theorem mk411 : MemoOk Tryz.prog 9 267 mm411 := memo_one cert0 [.tmp 4] [1,2,6,7,8] [] [] me411
theorem mk453 : MemoOk Tryz.prog 9 160 mm453 := memo_one cert0 [.cell 4 58,.tmp 5] [3,6,9,10,12] [73] [] me453
theorem mk454 : MemoOk Tryz.prog 9 122 mm454 := memo_one cert0 [.cell 6 179,.cell 7 171,.tmp 8] [2,3,7,8,10,11] [75,76,116] [116] me454
theorem mk461 : MemoOk Tryz.prog 9 160 mm461 := memo_one cert0 [.cell 4 58,.tmp 5] [3,6,9,10,12] [73] [] me461
theorem mk486 : MemoOk Tryz.prog 9 160 mm486 := memo_one cert0 [.cell 4 58,.tmp 5] [3,6,9,10,12] [73] [] me486
theorem mk493 : MemoOk Tryz.prog 9 160 mm493 := memo_one cert0 [.cell 4 58,.tmp 5] [3,6,9,10,12] [73] [] me493
theorem cert1 : Cert Tryz.prog tab1 := cert0.wM ⟨⟨mk0,trivial⟩,⟨mk2,mk5,mk8,mk11,trivial⟩,⟨mk3,mk6,mk84,trivial⟩,⟨mk4,mk7,mk85,trivial⟩,⟨mk16,mk31,mk36,mk45,mk301,mk310,trivial⟩,⟨mk23,mk38,mk104,mk121,mk246,mk260,mk296,mk306,mk343,mk357,mk453,mk461,mk486,mk493,trivial⟩,⟨mk24,mk39,mk43,mk47,mk105,mk122,mk130,mk247,mk261,trivial⟩,⟨mk25,mk106,mk248,mk262,mk358,mk454,trivial⟩,⟨mk26,mk40,mk44,mk48,mk57,mk60,mk107,mk123,mk131,trivial⟩,⟨mk76,mk78,trivial⟩,⟨mk135,trivial⟩,⟨mk158,mk159,mk222,mk386,mk387,mk411,trivial⟩,trivial⟩
theorem mk9 : MemoOk Tryz.prog 9 112 mm9 := memo_one cert1 [.cell 4 58,.tmp 5] [0,1,4,5,6,7,13] [74] [] me9
theorem mk10 : MemoOk Tryz.prog 9 112 mm10 := memo_one cert1 [.cell 4 58,.tmp 5] [3,5,6,7,8,10,13] [74] [] me10
theorem mk13 : MemoOk Tryz.prog 9 160 mm13 := memo_one cert1 [.cell 4 58,.tmp 5] [1,2,3,5,7,13] [73] [] me13
theorem mk14 : MemoOk Tryz.prog 9 118 mm14 := memo_one cert1 [.cell 4 184,.tmp 5] [0,1,2,3,4,5,6,7,8] [75] [] me14
theorem mk15 : MemoOk Tryz.prog 9 122 mm15 := memo_one cert1 [.cell 6 179,.cell 7 171,.tmp 8] [0,2,4,9,11] [75,76,147,149] [] me15
theorem mk17 : MemoOk Tryz.prog 9 124 mm17 := memo_one cert1 [.cell 8 55,.tmp 9] [0,1,2,3,4,5,6,7,8,9] [77] [] me17
theorem mk18 : MemoOk Tryz.prog 9 160 mm18 := memo_one cert1 [.cell 4 58,.tmp 5] [0,1,5,7,8,10,13] [73] [] me18
theorem mk19 : MemoOk Tryz.prog 9 118 mm19 := memo_one cert1 [.cell 4 184,.tmp 5] [0,1,2,3,7,9] [75] [] me19
theorem mk20 : MemoOk Tryz.prog 9 122 mm20 := memo_one cert1 [.cell 6 179,.cell 7 171,.tmp 8] [0,1,5,7,8,9,11] [75,76,145,260] [] me20
theorem mk22 : MemoOk Tryz.prog 9 124 mm22 := memo_one cert1 [.cell 8 55,.tmp 9] [1,4,5,6,7,10] [77] [] me22
theorem mk28 : MemoOk Tryz.prog 9 160 mm28 := memo_one cert1 [.cell 4 58,.tmp 5] [1,2,3,5,7,13] [73] [] me28
theorem mk29 : MemoOk Tryz.prog 9 118 mm29 := memo_one cert1 [.cell 4 184,.tmp 5] [0,1,2,3,4,5,6,7,8] [75] [] me29
theorem mk30 : MemoOk Tryz.prog 9 122 mm30 := memo_one cert1 [.cell 6 179,.cell 7 171,.tmp 8] [0,2,4,9,11] [75,76,147,149] [] me30
theorem mk32 : MemoOk Tryz.prog 9 124 mm32 := memo_one cert1 [.cell 8 55,.tmp 9] [0,1,2,3,4,5,6,7,8,9] [77] [] me32
theorem mk33 : MemoOk Tryz.prog 9 160 mm33 := memo_one cert1 [.cell 4 58,.tmp 5] [0,1,5,7,8,10,13] [73] [] me33
theorem mk34 : MemoOk Tryz.prog 9 118 mm34 := memo_one cert1 [.cell 4 184,.tmp 5] [0,1,2,3,7,9] [75] [] me34
theorem mk35 : MemoOk Tryz.prog 9 122 mm35 := memo_one cert1 [.cell 6 179,.cell 7 171,.tmp 8] [0,1,5,7,8,9,11] [75,76,145,260] [] me35
theorem mk37 : MemoOk Tryz.prog 9 124 mm37 := memo_one cert1 [.cell 8 55,.tmp 9] [1,4,5,6,7,10] [77] [] me37
theorem mk42 : MemoOk Tryz.prog 9 124 mm42 := memo_one cert1 [.cell 8 55,.tmp 9] [1,4,5,6,7,10] [77] [] me42
theorem mk46 : MemoOk Tryz.prog 9 124 mm46 := memo_one cert1 [.cell 8 55,.tmp 9] [1,4,5,6,7,10] [77] [] me46
theorem mk52 : MemoOk Tryz.prog 9 124 mm52 := memo_one cert1 [.cell 8 55,.tmp 9] [0,1,2,3,4,5,6,7,8,9] [77] [] me52
theorem mk54 : MemoOk Tryz.prog 9 124 mm54 := memo_one cert1 [.cell 8 55,.tmp 9] [0,1,2,3,4,5,6,7,8,9] [77] [] me54
theorem mk55 : MemoOk Tryz.prog 9 124 mm55 := memo_one cert1 [.cell 8 55,.tmp 9] [1,4,5,6,7,10] [77] [] me55
theorem mk59 : MemoOk Tryz.prog 9 124 mm59 := memo_one cert1 [.cell 8 55,.tmp 9] [1,4,5,6,7,10] [77] [] me59
theorem mk75 : MemoOk Tryz.prog 9 16 mm75 := memo_one cert1 [.tmp 2,.tmp 3] [1,3,4,7,8,9,10] [] [] me75
theorem mk77 : MemoOk Tryz.prog 9 16 mm77 := memo_one cert1 [.tmp 2,.tmp 3] [0,2,3,6,7,8,9,10] [] [] me77
theorem mk79 : MemoOk Tryz.prog 9 16 mm79 := memo_one cert1 [.tmp 2,.tmp 3] [1,3,4,7,8,9,10] [] [] me79
theorem mk93 : MemoOk Tryz.prog 9 160 mm93 := memo_one cert1 [.cell 4 58,.tmp 5] [1,2,3,5,7,13] [73] [] me93
theorem mk94 : MemoOk Tryz.prog 9 160 mm94 := memo_one cert1 [.cell 4 58,.tmp 5] [0,2,3,4,7,10,11] [73] [] me94
theorem mk96 : MemoOk Tryz.prog 9 122 mm96 := memo_one cert1 [.cell 6 179,.cell 7 171,.tmp 8] [0,5,6,7,11] [75,76] [] me96
theorem mk98 : MemoOk Tryz.prog 9 124 mm98 := memo_one cert1 [.cell 8 55,.tmp 9] [2,3,5,6,8,9] [77] [] me98
theorem mk99 : MemoOk Tryz.prog 9 160 mm99 := memo_one cert1 [.cell 4 58,.tmp 5] [0,1,5,7,8,10,13] [73] [] me99
theorem mk100 : MemoOk Tryz.prog 9 118 mm100 := memo_one cert1 [.cell 4 184,.tmp 5] [0,1,2,3,7,9] [75] [] me100
theorem mk101 : MemoOk Tryz.prog 9 122 mm101 := memo_one cert1 [.cell 6 179,.cell 7 171,.tmp 8] [0,1,5,7,8,9,11] [75,76,145,260] [] me101
theorem mk109 : MemoOk Tryz.prog 9 160 mm109 := memo_one cert1 [.cell 4 58,.tmp 5] [1,2,3,5,7,13] [73] [] me109
theorem mk111 : MemoOk Tryz.prog 9 124 mm111 := memo_one cert1 [.cell 8 55,.tmp 9] [0,1,2,3,4,5,6,7,8,9] [77] [] me111
theorem mk112 : MemoOk Tryz.prog 9 160 mm112 := memo_one cert1 [.cell 4 58,.tmp 5] [0,2,3,4,7,10,11] [73] [] me112
theorem mk115 : MemoOk Tryz.prog 9 124 mm115 := memo_one cert1 [.cell 8 55,.tmp 9] [2,3,5,6,8,9] [77] [] me115
theorem mk116 : MemoOk Tryz.prog 9 160 mm116 := memo_one cert1 [.cell 4 58,.tmp 5] [0,1,5,7,8,10,13] [73] [] me116
theorem mk117 : MemoOk Tryz.prog 9 118 mm117 := memo_one cert1 [.cell 4 184,.tmp 5] [0,1,2,3,7,9] [75] [] me117
theorem mk118 : MemoOk Tryz.prog 9 122 mm118 := memo_one cert1 [.cell 6 179,.cell 7 171,.tmp 8] [0,1,5,7,8,9,11] [75,76,145,260] [] me118
theorem mk245 : MemoOk Tryz.prog 9 160 mm245 := memo_one cert1 [.cell 4 58,.tmp 5] [1,2,3,5,7,13] [73] [] me245
theorem mk251 : MemoOk Tryz.prog 9 160 mm251 := memo_one cert1 [.cell 4 58,.tmp 5] [0,1,5,7,8,10,13] [73] [] me251
theorem mk252 : MemoOk Tryz.prog 9 118 mm252 := memo_one cert1 [.cell 4 184,.tmp 5] [0,1,2,3,7,9] [75] [] me252
theorem mk253 : MemoOk Tryz.prog 9 122 mm253 := memo_one cert1 [.cell 6 179,.cell 7 171,.tmp 8] [0,1,5,7,8,9,11] [75,76,145,260] [] me253
theorem mk255 : MemoOk Tryz.prog 9 124 mm255 := memo_one cert1 [.cell 8 55,.tmp 9] [1,4,5,6,7,10] [77] [] me255
theorem mk256 : MemoOk Tryz.prog 9 160 mm256 := memo_one cert1 [.cell 4 58,.tmp 5] [0,1,5,7,8,10,13] [73] [] me256
theorem mk257 : MemoOk Tryz.prog 9 118 mm257 := memo_one cert1 [.cell 4 184,.tmp 5] [0,1,2,3,7,9] [75] [] me257
theorem mk258 : MemoOk Tryz.prog 9 122 mm258 := memo_one cert1 [.cell 6 179,.cell 7 171,.tmp 8] [0,1,3,5,7,8,9,11] [75,76,112,147,262] [112] me258
theorem mk268 : MemoOk Tryz.prog 9 124 mm268 := memo_one cert1 [.cell 8 55,.tmp 9] [1,4,5,6,7,10] [77] [] me268
theorem mk290 : MemoOk Tryz.prog 9 160 mm290 := memo_one cert1 [.cell 4 58,.tmp 5] [1,2,3,5,7,13] [73] [] me290
theorem mk291 : MemoOk Tryz.prog 9 160 mm291 := memo_one cert1 [.cell 4 58,.tmp 5] [1,2,3,5,7,13] [73] [] me291
theorem mk292 : MemoOk Tryz.prog 9 118 mm292 := memo_one cert1 [.cell 4 184,.tmp 5] [0,1,2,3,4,5,6,7,8] [75] [] me292
theorem mk293 : MemoOk Tryz.prog 9 122 mm293 := memo_one cert1 [.cell 6 179,.cell 7 171,.tmp 8] [0,2,4,9,11] [75,76,147,149] [] me293
theorem mk295 : MemoOk Tryz.prog 9 124 mm295 := memo_one cert1 [.cell 8 55,.tmp 9] [0,1,2,3,4,5,6,7,8,9] [77] [] me295
theorem mk298 : MemoOk Tryz.prog 9 160 mm298 := memo_one cert1 [.cell 4 58,.tmp 5] [0,1,5,7,8,10,13] [73] [] me298
theorem mk299 : MemoOk Tryz.prog 9 118 mm299 := memo_one cert1 [.cell 4 184,.tmp 5] [0,1,2,3,7,9] [75] [] me299
theorem mk300 : MemoOk Tryz.prog 9 122 mm300 := memo_one cert1 [.cell 6 179,.cell 7 171,.tmp 8] [0,1,5,7,8,9,11] [75,76,145,260] [] me300
theorem mk302 : MemoOk Tryz.prog 9 124 mm302 := memo_one cert1 [.cell 8 55,.tmp 9] [1,4,5,6,7,10] [77] [] me302
theorem mk303 : MemoOk Tryz.prog 9 160 mm303 := memo_one cert1 [.cell 4 58,.tmp 5] [0,1,5,7,8,10,13] [73] [] me303
theorem mk304 : MemoOk Tryz.prog 9 118 mm304 := memo_one cert1 [.cell 4 184,.tmp 5] [0,1,2,3,7,9] [75] [] me304
theorem mk311 : MemoOk Tryz.prog 9 124 mm311 := memo_one cert1 [.cell 8 55,.tmp 9] [1,4,5,6,7,10] [77] [] me311
theorem mk332 : MemoOk Tryz.prog 9 160 mm332 := memo_one cert1 [.cell 4 58,.tmp 5] [1,2,3,5,7,13] [73] [] me332
theorem mk333 : MemoOk Tryz.prog 9 160 mm333 := memo_one cert1 [.cell 4 58,.tmp 5] [0,2,3,4,7,10,11] [73] [] me333
theorem mk335 : MemoOk Tryz.prog 9 122 mm335 := memo_one cert1 [.cell 6 179,.cell 7 171,.tmp 8] [0,5,6,7,11] [75,76] [] me335
theorem mk338 : MemoOk Tryz.prog 9 160 mm338 := memo_one cert1 [.cell 4 58,.tmp 5] [1,2,3,5,7,13] [73] [] me338
theorem mk340 : MemoOk Tryz.prog 9 122 mm340 := memo_one cert1 [.cell 6 179,.cell 7 171,.tmp 8] [0,2,4,9,11] [75,76,147,149] [] me340
theorem mk345 : MemoOk Tryz.prog 9 160 mm345 := memo_one cert1 [.cell 4 58,.tmp 5] [0,1,5,7,8,10,13] [73] [] me345
theorem mk346 : MemoOk Tryz.prog 9 118 mm346 := memo_one cert1 [.cell 4 184,.tmp 5] [0,1,2,3,7,9] [75] [] me346
theorem mk347 : MemoOk Tryz.prog 9 124 mm347 := memo_one cert1 [.cell 8 55,.tmp 9] [1,4,5,6,7,10] [77] [] me347
theorem mk348 : MemoOk Tryz.prog 9 160 mm348 := memo_one cert1 [.cell 4 58,.tmp 5] [0,2,3,4,7,10,11] [73] [] me348
theorem mk350 : MemoOk Tryz.prog 9 122 mm350 := memo_one cert1 [.cell 6 179,.cell 7 171,.tmp 8] [0,3,5,6,7,11] [75,76,123] [123] me350
theorem mk352 : MemoOk Tryz.prog 9 124 mm352 := memo_one cert1 [.cell 8 55,.tmp 9] [2,3,5,6,8,9] [77] [] me352
theorem mk353 : MemoOk Tryz.prog 9 160 mm353 := memo_one cert1 [.cell 4 58,.tmp 5] [0,1,5,7,8,10,13] [73] [] me353
theorem mk354 : MemoOk Tryz.prog 9 118 mm354 := memo_one cert1 [.cell 4 184,.tmp 5] [0,1,2,3,7,9] [75] [] me354
theorem mk355 : MemoOk Tryz.prog 9 122 mm355 := memo_one cert1 [.cell 6 179,.cell 7 171,.tmp 8] [0,1,3,5,7,8,9,11] [75,76,112,147,262] [112] me355
theorem mk362 : MemoOk Tryz.prog 9 124 mm362 := memo_one cert1 [.cell 8 55,.tmp 9] [1,4,5,6,7,10] [77] [] me362
theorem mk447 : MemoOk Tryz.prog 9 160 mm447 := memo_one cert1 [.cell 4 58,.tmp 5] [0,1,5,7,8,10,13] [73] [] me447
theorem mk448 : MemoOk Tryz.prog 9 118 mm448 := memo_one cert1 [.cell 4 184,.tmp 5] [0,1,2,3,7,9] [75] [] me448
theorem mk450 : MemoOk Tryz.prog 9 124 mm450 := memo_one cert1 [.cell 8 55,.tmp 9] [1,4,5,6,7,10] [77] [] me450
theorem mk451 : MemoOk Tryz.prog 9 160 mm451 := memo_one cert1 [.cell 4 58,.tmp 5] [1,2,3,5,7,13] [73] [] me451
theorem mk452 : MemoOk Tryz.prog 9 122 mm452 := memo_one cert1 [.cell 6 179,.cell 7 171,.tmp 8] [0,2,3,4,9,11] [75,76,113,149,151] [113] me452
theorem mk455 : MemoOk Tryz.prog 9 160 mm455 := memo_one cert1 [.cell 4 58,.tmp 5] [0,1,5,7,8,10,13] [73] [] me455
theorem mk456 : MemoOk Tryz.prog 9 160 mm456 := memo_one cert1 [.cell 4 58,.tmp 5] [1,2,3,5,7,13] [73] [] me456
theorem mk458 : MemoOk Tryz.prog 9 122 mm458 := memo_one cert1 [.cell 6 179,.cell 7 171,.tmp 8] [0,2,3,4,9,11] [75,76,113,149,151] [113] me458
theorem mk480 : MemoOk Tryz.prog 9 160 mm480 := memo_one cert1 [.cell 4 58,.tmp 5] [0,1,5,7,8,10,13] [73] [] me480
theorem mk481 : MemoOk Tryz.prog 9 160 mm481 := memo_one cert1 [.cell 4 58,.tmp 5] [1,2,3,5,7,13] [73] [] me481
theorem mk483 : MemoOk Tryz.prog 9 122 mm483 := memo_one cert1 [.cell 6 179,.cell 7 171,.tmp 8] [2,4,9,11] [75,76,113,149,151] [113] me483
theorem mk487 : MemoOk Tryz.prog 9 160 mm487 := memo_one cert1 [.cell 4 58,.tmp 5] [0,1,5,7,8,10,13] [73] [] me487
theorem mk488 : MemoOk Tryz.prog 9 160 mm488 := memo_one cert1 [.cell 4 58,.tmp 5] [1,2,3,5,7,13] [73] [] me488
theorem mk490 : MemoOk Tryz.prog 9 122 mm490 := memo_one cert1 [.cell 6 179,.cell 7 171,.tmp 8] [2,4,9,11] [75,76,113,149,151] [113] me490
theorem cert : Cert Tryz.prog tab := cert0.wM ⟨⟨mk0,trivial⟩,⟨mk2,mk5,mk8,mk11,mk9,mk10,trivial⟩,⟨mk3,mk6,mk84,trivial⟩,⟨mk4,mk7,mk85,trivial⟩,⟨mk16,mk31,mk36,mk45,mk301,mk310,trivial⟩,⟨mk23,mk38,mk104,mk121,mk246,mk260,mk296,mk306,mk343,mk357,mk453,mk461,mk486,mk493,mk13,mk18,mk28,mk33,mk93,mk94,mk99,mk109,mk112,mk116,mk245,mk251,mk256,mk290,mk291,mk298,mk303,mk332,mk333,mk338,mk345,mk348,mk353,mk447,mk451,mk455,mk456,mk480,mk481,mk487,mk488,trivial⟩,⟨mk24,mk39,mk43,mk47,mk105,mk122,mk130,mk247,mk261,mk14,mk19,mk29,mk34,mk100,mk117,mk252,mk257,mk292,mk299,mk304,mk346,mk354,mk448,trivial⟩,⟨mk25,mk106,mk248,mk262,mk358,mk454,mk15,mk20,mk30,mk35,mk96,mk101,mk118,mk253,mk258,mk293,mk300,mk335,mk340,mk350,mk355,mk452,mk458,mk483,mk490,trivial⟩,⟨mk26,mk40,mk44,mk48,mk57,mk60,mk107,mk123,mk131,mk17,mk22,mk32,mk37,mk42,mk46,mk52,mk54,mk55,mk59,mk98,mk111,mk115,mk255,mk268,mk295,mk302,mk311,mk347,mk352,mk362,mk450,trivial⟩,⟨mk76,mk78,mk75,mk77,mk79,trivial⟩,⟨mk135,trivial⟩,⟨mk158,mk159,mk222,mk386,mk387,mk411,trivial⟩,trivial⟩
end Go.Proofs.YthcadcdfoenclaaGreatDoor.Sim
