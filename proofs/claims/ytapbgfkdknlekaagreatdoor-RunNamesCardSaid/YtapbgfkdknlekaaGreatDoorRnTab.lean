/- The machine's tables of this program, and that they are the program's. No condition. -/
import Derived.Test.YtapbgfkdknlekaaGreatDoorProg
import Derived.Test.YtapbgfkdknlekaaGreatDoorSimF
import Derived.KernelRfl
set_option maxRecDepth 100000
namespace Go.Proofs.YtapbgfkdknlekaaGreatDoor.Sim
open Go Go.RowKit
noncomputable def cd (f : Nat) (p : List Nat) : Code := codeAt (bodyOf Tryz.prog f) p
def tys : List Nat := [255, 245, 232, 220, 218, 214, 212, 207, 205, 201, 191, 183, 182, 180, 175, 172, 169, 151, 149, 146, 142, 140, 124, 121, 120, 117, 115, 113, 111, 110, 109, 101, 94, 92, 90, 87, 85, 84, 80, 76, 71, 68, 65, 63, 61, 58, 56, 52, 45, 43, 40, 38, 36, 35, 34, 33, 30, 29, 26, 24, 23, 22, 20, 9, 5, 4, 3, 2, 1]
def fns : List (Nat × Nat) := [(186, 5), (185, 3), (181, 5), (175, 8), (169, 5), (168, 3), (167, 3), (166, 4), (156, 3), (155, 3), (154, 19), (153, 9), (151, 5), (150, 14), (149, 9), (148, 5), (147, 3), (143, 3), (141, 3), (140, 6), (139, 8), (138, 3), (137, 3), (136, 5), (135, 9), (132, 9), (129, 5), (128, 5), (125, 5), (124, 31), (123, 6), (122, 6), (121, 3), (120, 3), (119, 3), (118, 3), (116, 3), (115, 7), (114, 4), (113, 11), (112, 6), (111, 8), (110, 3), (109, 7), (108, 13), (107, 3), (106, 3), (105, 5), (104, 5), (102, 8), (100, 3), (99, 3), (98, 13), (97, 7), (96, 7), (95, 1), (94, 6), (93, 5), (92, 7), (91, 9), (90, 7), (89, 5), (88, 13), (87, 23), (86, 17), (85, 85), (84, 2), (83, 3), (82, 6), (81, 3), (80, 7), (79, 9), (78, 7), (77, 10), (76, 5), (75, 24), (74, 12), (69, 4), (68, 21), (67, 4), (66, 3), (65, 1), (64, 19), (63, 5), (62, 5), (61, 7), (60, 7), (59, 7), (58, 67), (55, 4), (54, 7), (53, 5), (52, 83), (51, 3), (50, 4), (49, 5), (48, 60), (47, 10), (46, 3), (44, 3), (43, 4), (42, 11), (41, 4), (40, 9), (39, 3), (38, 14), (37, 9), (36, 3), (35, 9), (34, 57), (33, 1), (32, 34), (31, 38), (30, 8), (29, 18), (28, 14), (27, 14), (26, 5), (24, 3), (23, 8), (21, 3), (20, 3), (19, 3), (18, 5), (17, 6), (16, 10), (15, 7), (14, 9), (13, 5), (12, 3), (11, 5), (10, 28), (9, 3), (8, 9), (7, 5), (6, 10), (5, 9), (4, 2), (3, 10)]
def es : List Nat := [255, 232, 205, 182, 172, 149, 146, 140, 124, 115, 101, 94, 92, 90, 87, 85, 68, 65, 63, 45, 40, 38, 36, 29, 26]
def ms : List (Nat × List (String × FuncId)) := []
def xs : List (Nat × Nat) := [(214, 1), (127, 0)]
noncomputable def tab : Tab := mkTab Tryz.prog tys fns es ms xs 9
theorem cert : Cert Tryz.prog tab := cert_of (by kernel_rfl) (by kernel_rfl) (by kernel_rfl) (by kernel_rfl) ⟨⟨_, Tryz.func214, by kernel_rfl, by kernel_rfl, by kernel_rfl, (show Extern.find Tryz.f214 = some Extern.BytealgIndexByte.indexByte from by kernel_rfl)⟩, ⟨_, Tryz.func127, by kernel_rfl, by kernel_rfl, by kernel_rfl, (show Extern.find Tryz.f127 = some Extern.BytealgCount.count from by kernel_rfl)⟩, trivial⟩ (by kernel_rfl)
noncomputable def gl8 : AObj := .cells [(vb 0),(vb 0),(vb 0),(vb 0),(vb 0),(vb 0),(vb 0),(vb 0),(vb 0),(vb 1),(vb 1),(vb 1),(vb 1),(vb 1),(vb 0),(vb 0),(vb 0),(vb 0),(vb 0),(vb 0),(vb 0),(vb 0),(vb 0),(vb 0),(vb 0),(vb 0),(vb 0),(vb 0),(vb 0),(vb 0),(vb 0),(vb 0),(vb 1),(vb 0),(vb 0),(vb 0),(vb 0),(vb 0),(vb 0),(vb 0),(vb 0),(vb 0),(vb 0),(vb 0),(vb 0),(vb 0),(vb 0),(vb 0),(vb 0),(vb 0),(vb 0),(vb 0),(vb 0),(vb 0),(vb 0),(vb 0),(vb 0),(vb 0),(vb 0),(vb 0),(vb 0),(vb 0),(vb 0),(vb 0),(vb 0),(vb 0),(vb 0),(vb 0),(vb 0),(vb 0),(vb 0),(vb 0),(vb 0),(vb 0),(vb 0),(vb 0),(vb 0),(vb 0),(vb 0),(vb 0),(vb 0),(vb 0),(vb 0),(vb 0),(vb 0),(vb 0),(vb 0),(vb 0),(vb 0),(vb 0),(vb 0),(vb 0),(vb 0),(vb 0),(vb 0),(vb 0),(vb 0),(vb 0),(vb 0),(vb 0),(vb 0),(vb 0),(vb 0),(vb 0),(vb 0),(vb 0),(vb 0),(vb 0),(vb 0),(vb 0),(vb 0),(vb 0),(vb 0),(vb 0),(vb 0),(vb 0),(vb 0),(vb 0),(vb 0),(vb 0),(vb 0),(vb 0),(vb 0),(vb 0),(vb 0),(vb 0),(vb 0),(vb 0),(vb 0),(vb 0),(vb 0),(vb 0),(vb 0),(vb 0),(vb 0),(vb 0),(vb 0),(vb 0),(vb 0),(vb 0),(vb 0),(vb 0),(vb 0),(vb 0),(vb 0),(vb 0),(vb 0),(vb 0),(vb 0),(vb 0),(vb 0),(vb 0),(vb 0),(vb 0),(vb 0),(vb 0),(vb 0),(vb 0),(vb 0),(vb 0),(vb 0),(vb 0),(vb 0),(vb 0),(vb 0),(vb 0),(vb 0),(vb 0),(vb 0),(vb 0),(vb 0),(vb 0),(vb 0),(vb 0),(vb 0),(vb 0),(vb 0),(vb 0),(vb 0),(vb 0),(vb 0),(vb 0),(vb 0),(vb 0),(vb 0),(vb 0),(vb 0),(vb 0),(vb 0),(vb 0),(vb 0),(vb 0),(vb 0),(vb 0),(vb 0),(vb 0),(vb 0),(vb 0),(vb 0),(vb 0),(vb 0),(vb 0),(vb 0),(vb 0),(vb 0),(vb 0),(vb 0),(vb 0),(vb 0),(vb 0),(vb 0),(vb 0),(vb 0),(vb 0),(vb 0),(vb 0),(vb 0),(vb 0),(vb 0),(vb 0),(vb 0),(vb 0),(vb 0),(vb 0),(vb 0),(vb 0),(vb 0),(vb 0),(vb 0),(vb 0),(vb 0),(vb 0),(vb 0),(vb 0),(vb 0),(vb 0),(vb 0),(vb 0),(vb 0),(vb 0),(vb 0),(vb 0),(vb 0),(vb 0),(vb 0),(vb 0),(vb 0),(vb 0),(vb 0),(vb 0),(vb 0),(vb 0),(vb 0),(vb 0),(vb 0),(vb 0)] (.fixed true)
noncomputable def gl7 : AObj := .cells [(vi 20),(vi 4)] (.fixed true)
noncomputable def gl6 : AObj := .cells [(vi 24),(vi 4)] (.fixed true)
noncomputable def gl5 : AObj := .cells [(vi 20),(vi 6)] (.fixed true)
noncomputable def gl4 : AObj := .cells [(vi 25),(vi 7)] (.fixed true)
noncomputable def gl3 : AObj := .cells [(vi 20),(vi 5)] (.fixed true)
noncomputable def gl2 : AObj := .cells [(vi 15),(vi 5)] (.fixed true)
noncomputable def gl1 : AObj := .cells [(vi 7),(vi 5)] (.fixed true)
noncomputable def gl0 : AObj := .cells [(vi 12),(vi 3)] (.fixed true)
noncomputable def h0 : List (Nat × AObj) := [(0,gl0),
(1,gl1),
(2,gl2),
(3,gl3),
(4,gl4),
(5,gl5),
(6,gl6),
(7,gl7),
(8,gl8)]
def g0 : List (Nat × List Nat) := []
noncomputable def s0 : ASt := ⟨⟨3, 99, [no,no,no,no,no,no,no,no,no,no], [], [.code (cd 3 [])], [], .run, .normal, none⟩,
  [],
  ⟨tput h0, 12, tput g0⟩⟩
end Go.Proofs.YtapbgfkdknlekaaGreatDoor.Sim
