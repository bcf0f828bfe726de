/- The machine's tables of this program, and that they are the program's. No condition. -/
import Derived.Test.YtfaoaodhfhdepaaGreatDoorProg
import Derived.Test.YtfaoaodhfhdepaaGreatDoorSimF
import Derived.KernelRfl
set_option maxRecDepth 100000
namespace Go.Proofs.YtfaoaodhfhdepaaGreatDoor.Sim
open Go Go.RowKit
noncomputable def cd (f : Nat) (p : List Nat) : Code := codeAt (bodyOf Tryz.prog f) p
def tys : List Nat := [324, 304, 302, 297, 294, 290, 278, 275, 272, 270, 269, 266, 265, 263, 261, 260, 250, 240, 235, 233, 231, 228, 215, 205, 193, 190, 182, 171, 155, 149, 146, 139, 136, 134, 131, 123, 117, 111, 108, 104, 101, 100, 97, 92, 90, 88, 87, 85, 80, 76, 73, 71, 70, 68, 67, 66, 65, 64, 63, 62, 61, 56, 54, 53, 52, 51, 49, 48, 45, 41, 39, 37, 35, 34, 33, 30, 29, 27, 26, 24, 23, 22, 20, 9, 5, 4, 3, 2, 1]
def fns : List (Nat × Nat) := [(276, 5), (271, 5), (270, 14), (269, 5), (268, 9), (236, 5), (230, 8), (229, 7), (226, 5), (225, 5), (221, 7), (220, 9), (219, 7), (218, 10), (217, 5), (214, 4), (212, 4), (211, 21), (210, 4), (209, 3), (208, 1), (207, 19), (199, 4), (189, 3), (188, 19), (187, 9), (186, 6), (185, 13), (184, 7), (183, 7), (182, 1), (181, 9), (180, 83), (179, 4), (178, 5), (177, 60), (176, 3), (175, 5), (174, 3), (170, 5), (164, 8), (161, 9), (157, 3), (155, 3), (154, 6), (153, 8), (152, 3), (151, 3), (150, 5), (149, 5), (147, 8), (146, 3), (145, 3), (144, 3), (143, 12), (142, 3), (141, 5), (140, 9), (138, 7), (137, 3), (136, 34), (132, 5), (131, 5), (130, 7), (129, 5), (128, 3), (127, 19), (126, 8), (125, 9), (124, 13), (123, 31), (122, 6), (121, 3), (119, 3), (118, 7), (117, 3), (116, 4), (115, 11), (114, 6), (113, 8), (112, 24), (111, 3), (108, 85), (107, 2), (106, 3), (105, 6), (104, 9), (102, 6), (101, 14), (99, 3), (98, 3), (97, 28), (96, 9), (95, 5), (94, 5), (93, 7), (92, 7), (91, 7), (90, 6), (89, 3), (88, 3), (86, 3), (85, 8), (84, 3), (83, 3), (82, 13), (81, 23), (80, 17), (78, 5), (77, 7), (76, 9), (75, 14), (74, 14), (73, 5), (72, 14), (71, 18), (70, 18), (69, 5), (68, 3), (67, 9), (66, 35), (65, 10), (64, 32), (63, 8), (62, 10), (61, 8), (59, 3), (58, 3), (57, 3), (56, 3), (55, 5), (54, 10), (51, 3), (50, 4), (49, 11), (48, 4), (47, 9), (46, 3), (45, 4), (44, 4), (43, 28), (42, 83), (40, 2), (39, 9), (38, 1), (37, 14), (36, 5), (35, 18), (34, 6), (33, 8), (32, 3), (31, 3), (30, 13), (29, 3), (27, 3), (26, 8), (25, 5), (24, 54), (23, 9), (22, 11), (21, 12), (20, 3), (19, 3), (18, 38), (17, 156), (16, 12), (15, 3), (14, 6), (13, 5), (12, 5), (11, 6), (10, 26), (9, 6), (8, 5), (7, 113), (6, 52), (5, 8), (4, 80), (3, 8)]
def es : List Nat := [302, 297, 294, 275, 265, 235, 215, 190, 182, 155, 117, 111, 92, 90, 88, 87, 85, 80, 70, 56, 51, 49, 48, 41, 37, 29, 26]
def ms : List (Nat × List (String × FuncId)) := []
def xs : List (Nat × Nat) := [(283, 1), (224, 0)]
noncomputable def tab : Tab := mkTab Tryz.prog tys fns es ms xs 9
theorem cert : Cert Tryz.prog tab := cert_of (by kernel_rfl) (by kernel_rfl) (by kernel_rfl) (by kernel_rfl) ⟨⟨_, Tryz.func283, by kernel_rfl, by kernel_rfl, by kernel_rfl, (show Extern.find Tryz.f283 = some Extern.BytealgIndexByte.indexByte from by kernel_rfl)⟩, ⟨_, Tryz.func224, by kernel_rfl, by kernel_rfl, by kernel_rfl, (show Extern.find Tryz.f224 = some Extern.BytealgCount.count from by kernel_rfl)⟩, trivial⟩ (by kernel_rfl)
noncomputable def gl8 : AObj := .cells [(vb 0),(vb 0),(vb 0),(vb 0),(vb 0),(vb 0),(vb 0),(vb 0),(vb 0),(vb 1),(vb 1),(vb 1),(vb 1),(vb 1),(vb 0),(vb 0),(vb 0),(vb 0),(vb 0),(vb 0),(vb 0),(vb 0),(vb 0),(vb 0),(vb 0),(vb 0),(vb 0),(vb 0),(vb 0),(vb 0),(vb 0),(vb 0),(vb 1),(vb 0),(vb 0),(vb 0),(vb 0),(vb 0),(vb 0),(vb 0),(vb 0),(vb 0),(vb 0),(vb 0),(vb 0),(vb 0),(vb 0),(vb 0),(vb 0),(vb 0),(vb 0),(vb 0),(vb 0),(vb 0),(vb 0),(vb 0),(vb 0),(vb 0),(vb 0),(vb 0),(vb 0),(vb 0),(vb 0),(vb 0),(vb 0),(vb 0),(vb 0),(vb 0),(vb 0),(vb 0),(vb 0),(vb 0),(vb 0),(vb 0),(vb 0),(vb 0),(vb 0),(vb 0),(vb 0),(vb 0),(vb 0),(vb 0),(vb 0),(vb 0),(vb 0),(vb 0),(vb 0),(vb 0),(vb 0),(vb 0),(vb 0),(vb 0),(vb 0),(vb 0),(vb 0),(vb 0),(vb 0),(vb 0),(vb 0),(vb 0),(vb 0),(vb 0),(vb 0),(vb 0),(vb 0),(vb 0),(vb 0),(vb 0),(vb 0),(vb 0),(vb 0),(vb 0),(vb 0),(vb 0),(vb 0),(vb 0),(vb 0),(vb 0),(vb 0),(vb 0),(vb 0),(vb 0),(vb 0),(vb 0),(vb 0),(vb 0),(vb 0),(vb 0),(vb 0),(vb 0),(vb 0),(vb 0),(vb 0),(vb 0),(vb 0),(vb 0),(vb 0),(vb 0),(vb 0),(vb 0),(vb 0),(vb 0),(vb 0),(vb 0),(vb 0),(vb 0),(vb 0),(vb 0),(vb 0),(vb 0),(vb 0),(vb 0),(vb 0),(vb 0),(vb 0),(vb 0),(vb 0),(vb 0),(vb 0),(vb 0),(vb 0),(vb 0),(vb 0),(vb 0),(vb 0),(vb 0),(vb 0),(vb 0),(vb 0),(vb 0),(vb 0),(vb 0),(vb 0),(vb 0),(vb 0),(vb 0),(vb 0),(vb 0),(vb 0),(vb 0),(vb 0),(vb 0),(vb 0),(vb 0),(vb 0),(vb 0),(vb 0),(vb 0),(vb 0),(vb 0),(vb 0),(vb 0),(vb 0),(vb 0),(vb 0),(vb 0),(vb 0),(vb 0),(vb 0),(vb 0),(vb 0),(vb 0),(vb 0),(vb 0),(vb 0),(vb 0),(vb 0),(vb 0),(vb 0),(vb 0),(vb 0),(vb 0),(vb 0),(vb 0),(vb 0),(vb 0),(vb 0),(vb 0),(vb 0),(vb 0),(vb 0),(vb 0),(vb 0),(vb 0),(vb 0),(vb 0),(vb 0),(vb 0),(vb 0),(vb 0),(vb 0),(vb 0),(vb 0),(vb 0),(vb 0),(vb 0),(vb 0),(vb 0),(vb 0),(vb 0),(vb 0),(vb 0),(vb 0),(vb 0),(vb 0),(vb 0),(vb 0),(vb 0),(vb 0),(vb 0),(vb 0),(vb 0),(vb 0),(vb 0),(vb 0),(vb 0)] (.fixed true)
noncomputable def gl7 : AObj := .cells [(vi 20),(vi 4)] (.fixed true)
noncomputable def gl6 : AObj := .cells [(vi 24),(vi 4)] (.fixed true)
noncomputable def gl5 : AObj := .cells [(vi 20),(vi 6)] (.fixed true)
noncomputable def gl4 : AObj := .cells [(vi 25),(vi 7)] (.fixed true)
noncomputable def gl3 : AObj := .cells [(vi 20),(vi 5)] (.fixed true)
noncomputable def gl2 : AObj := .cells [(vi 15),(vi 5)] (.fixed true)
noncomputable def gl1 : AObj := .cells [(vi 7),(vi 5)] (.fixed true)
noncomputable def gl0 : AObj := .cells [(vi 12),(vi 3)] (.fixed true)
noncomputable def h0 : List (Nat × AObj) := [(0,gl0),
(1,gl1),
(2,gl2),
(3,gl3),
(4,gl4),
(5,gl5),
(6,gl6),
(7,gl7),
(8,gl8)]
def g0 : List (Nat × List Nat) := []
noncomputable def s0 : ASt := ⟨⟨3, 115, [no,no,no,no,no,no,no,no], [], [.code (cd 3 [])], [], .run, .normal, none⟩,
  [],
  ⟨tput h0, 12, tput g0⟩⟩
end Go.Proofs.YtfaoaodhfhdepaaGreatDoor.Sim
