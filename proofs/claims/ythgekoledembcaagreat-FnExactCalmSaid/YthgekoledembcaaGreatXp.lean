/- What the functions of this program answer, part p. -/
import Derived.Test.YthgekoledembcaaGreatXz
import Derived.Test.YthgekoledembcaaGreatW2
import Derived.KernelRfl
set_option linter.unusedVariables false
namespace Go.Abs.Gz
open Go Go.Abs Go.Proofs
set_option maxRecDepth 100000 in
def rts : Nat → Option (List Nat) := fun g => look? g [(8, [4]), (11, [4]), (12, [3]), (13, [3]), (14, [3]), (15, [3]), (17, [26]), (18, [49]), (20, [4]), (21, [4]), (23, [3]), (24, [3]), (29, [43]), (33, [26]), (34, [26]), (36, [4]), (38, [4]), (39, [4]), (40, [4]), (41, [4]), (42, [3]), (43, [3]), (44, [3]), (45, [3]), (46, [3]), (47, [3]), (48, [3]), (49, [3]), (50, [3]), (51, [3]), (52, [3]), (53, [4]), (55, [22]), (56, [23]), (57, [24]), (58, [46]), (59, [47]), (60, [4]), (62, [4]), (63, [4]), (64, [3]), (65, [3]), (68, [3]), (69, [3]), (70, [4]), (71, [4]), (72, [26]), (73, [73]), (74, [26]), (75, [73]), (76, [65]), (78, [4]), (79, [65]), (81, [4]), (82, [4]), (83, [4]), (84, [4]), (85, [4]), (86, [3]), (87, [3]), (88, [3]), (89, [3]), (90, [3]), (91, [3]), (92, [3]), (93, [3]), (94, [3]), (95, [3]), (96, [3]), (97, [3]), (98, [3]), (99, [3]), (100, [4]), (101, [4]), (102, [3]), (104, [73]), (105, [108]), (106, [90]), (107, [139]), (108, [143]), (109, [4]), (110, [4]), (111, [3]), (114, [4]), (115, [4]), (116, [9]), (122, [73]), (123, [108]), (124, [49]), (125, [73]), (126, [108]), (127, [49]), (128, [3]), (129, [3]), (130, [4]), (131, [4]), (132, [4]), (133, [3]), (134, [4]), (135, [4]), (136, [3]), (137, [3]), (138, [4]), (139, [3]), (140, [4]), (141, [4]), (142, [3]), (143, [4]), (144, [4]), (145, [4]), (146, [4]), (147, [4]), (148, [4]), (149, [4]), (150, [4]), (151, [4]), (152, [3]), (153, [3]), (154, [3]), (155, [3]), (156, [3]), (157, [3]), (158, [3]), (159, [3]), (160, [65]), (161, [68]), (162, [69]), (163, [70]), (164, [71]), (165, [106]), (166, [137]), (169, [4]), (173, [65]), (174, [68]), (175, [69]), (176, [65]), (177, [68]), (178, [43]), (179, [69]), (180, [106]), (181, [3]), (182, [106]), (183, [49]), (184, [106]), (185, [4]), (186, [3]), (187, [106]), (188, [49]), (189, [106]), (190, [4]), (191, [4]), (192, [3]), (193, [4]), (194, [4]), (195, [4]), (196, [3]), (197, [66]), (198, [163]), (199, [171]), (203, [106]), (204, [4]), (205, [3]), (206, [106]), (207, [4]), (208, [3]), (211, [3])]
def ownL : List Nat := [12, 23, 42, 43, 44, 64, 65, 86, 87, 88, 89, 90]
def pinL : List Nat := [8, 12, 23, 42, 43, 44, 64, 65, 86, 87, 88, 89, 90]
def unfL : List Nat := [33]
def E1 (call : Cl) (n : Nat) (h : Hints) : Env := { ti := ti, n := n, call := call, fresh := fun g => !memN g unfL, owns := fun g => memN g ownL, h := h }
def h8 : Hints := ⟨true, [], [], true, false, [], [18], []⟩
def h11 : Hints := ⟨true, [], [], false, false, [], [], []⟩
def h12 : Hints := ⟨true, [], [], true, true, [], [], []⟩
def h13 : Hints := ⟨true, [], [], false, false, [], [], []⟩
def h14 : Hints := ⟨true, [], [], false, false, [], [], []⟩
def h15 : Hints := ⟨true, [], [], false, false, [], [], []⟩
def h17 : Hints := ⟨true, [], [], false, false, [], [], []⟩
def h18 : Hints := ⟨true, [], [], false, false, [], [], []⟩
def h20 : Hints := ⟨true, [], [(4, ⟨[0, 1, 5], [], []⟩)], false, false, [], [], []⟩
def h21 : Hints := ⟨true, [], [], false, false, [], [], []⟩
def h23 : Hints := ⟨true, [], [(2, ⟨[0, 1, 5], [100000], []⟩)], true, true, [], [], []⟩
def h24 : Hints := ⟨true, [], [(2, ⟨[0, 1, 5], [], []⟩)], false, false, [], [], []⟩
def h29 : Hints := ⟨true, [], [(3, ⟨[0, 3, 4], [224], []⟩)], false, false, [], [], []⟩
def h33 : Hints := ⟨false, [], [(9, ⟨[1, 2, 3, 4, 5, 6], [32, 64, 96, 160, 256, 257, 258], [(some 160, 2, 0, 139), (some 160, 3, 0, 143), (some 160, 4, 0, 3), (some 160, 8, 0, 49), (some 160, 9, 0, 3), (some 160, 10, 0, 3), (some 160, 11, 0, 43), (some 160, 14, 0, 163), (some 160, 18, 0, 171)]⟩), (5, ⟨[1, 2, 3, 4], [32, 64, 96, 256, 257, 258], [(some 96, 0, 1, 73)]⟩)], false, false, [], [], []⟩
def h34 : Hints := ⟨true, [], [(8, ⟨[2, 3, 4, 13, 14, 15, 22, 23], [64, 96, 224, 225, 226], []⟩), (5, ⟨[2, 3, 13, 14, 15], [64, 96, 224, 225, 226], []⟩)], false, false, [], [], []⟩
def h36 : Hints := ⟨true, [], [(15, ⟨[1, 3, 6], [32], []⟩), (10, ⟨[1, 3, 5], [32], []⟩), (5, ⟨[1, 3, 4], [32], []⟩)], false, false, [], [], []⟩
def h38 : Hints := ⟨true, [], [(16, ⟨[1, 66, 67, 68], [32], []⟩), (10, ⟨[1, 53, 54, 55], [32], []⟩), (4, ⟨[1, 27, 28, 29], [32], []⟩)], false, false, [], [], []⟩
def h39 : Hints := ⟨true, [], [(4, ⟨[0, 1, 5], [], []⟩)], false, false, [], [], []⟩
def h40 : Hints := ⟨true, [], [(4, ⟨[0, 1, 5], [], []⟩)], false, false, [], [], []⟩
def h41 : Hints := ⟨true, [], [(4, ⟨[0, 1, 5], [], []⟩)], false, false, [], [], []⟩
def h42 : Hints := ⟨true, [], [(2, ⟨[0, 1, 5], [100000], []⟩)], true, true, [], [], []⟩
def h43 : Hints := ⟨true, [], [(2, ⟨[0, 1, 5], [100000], []⟩)], true, true, [], [], []⟩
def h44 : Hints := ⟨true, [], [(2, ⟨[0, 1, 5], [100000], []⟩)], true, true, [], [], []⟩
def h45 : Hints := ⟨true, [], [(2, ⟨[0, 1, 5], [], []⟩)], false, false, [], [], []⟩
def h46 : Hints := ⟨true, [], [(2, ⟨[0, 1, 5], [], []⟩)], false, false, [], [], []⟩
def h47 : Hints := ⟨true, [], [(2, ⟨[0, 1, 5], [], []⟩)], false, false, [], [], []⟩
def h48 : Hints := ⟨true, [], [(5, ⟨[0, 1, 5], [], []⟩)], false, false, [], [], []⟩
def h49 : Hints := ⟨true, [], [(5, ⟨[0, 1, 5], [], []⟩)], false, false, [], [], []⟩
def h50 : Hints := ⟨true, [], [(5, ⟨[0, 1, 5], [], []⟩)], false, false, [], [], []⟩
def h51 : Hints := ⟨true, [], [(5, ⟨[0, 1, 5], [], []⟩)], false, false, [], [], []⟩
def h52 : Hints := ⟨true, [], [], false, false, [], [], []⟩
def h53 : Hints := ⟨true, [], [(8, ⟨[1, 5], [32], []⟩), (2, ⟨[1, 3], [32], []⟩)], false, false, [], [], []⟩
def h55 : Hints := ⟨true, [], [(3, ⟨[0, 3, 4], [224], []⟩)], false, false, [], [], []⟩
def h56 : Hints := ⟨true, [], [(3, ⟨[0, 3, 4], [224], []⟩)], false, false, [], [], []⟩
def h57 : Hints := ⟨true, [], [(3, ⟨[0, 3, 4], [224], []⟩)], false, false, [], [], []⟩
def h58 : Hints := ⟨true, [], [(3, ⟨[0, 3, 4], [224], []⟩)], false, false, [], [], []⟩
def h59 : Hints := ⟨true, [], [(3, ⟨[0, 3, 4], [224], []⟩)], false, false, [], [], []⟩
def h60 : Hints := ⟨true, [], [(8, ⟨[1, 43, 44, 45], [32], []⟩), (2, ⟨[1, 8, 9, 10], [32], []⟩)], false, false, [], [], []⟩
def h62 : Hints := ⟨true, [], [(4, ⟨[0, 1, 5], [], []⟩)], false, false, [], [], []⟩
def h63 : Hints := ⟨true, [], [(4, ⟨[0, 1, 5], [], []⟩)], false, false, [], [], []⟩
def h64 : Hints := ⟨true, [], [(2, ⟨[0, 1, 5], [100000], []⟩)], true, true, [], [], []⟩
def h65 : Hints := ⟨true, [], [(2, ⟨[0, 1, 5], [100000], []⟩)], true, true, [], [], []⟩
def h68 : Hints := ⟨true, [], [(2, ⟨[0, 1, 5], [], []⟩)], false, false, [], [], []⟩
def h69 : Hints := ⟨true, [], [(2, ⟨[0, 1, 5], [], []⟩)], false, false, [], [], []⟩
def h70 : Hints := ⟨true, [], [], false, false, [], [], []⟩
def h71 : Hints := ⟨true, [], [], false, false, [], [], []⟩
def h72 : Hints := ⟨true, [], [(11, ⟨[1, 2, 3, 6], [32, 64, 96, 60048, 60112, 60176], [(some 96, 2, 60176, 90)]⟩), (7, ⟨[1, 2, 3, 5], [32, 64, 96, 60048, 60112], [(some 96, 1, 60112, 108)]⟩), (3, ⟨[1, 2, 3, 4], [32, 64, 96, 60048], [(some 96, 0, 60048, 73)]⟩)], false, false, [], [], []⟩
def h73 : Hints := ⟨true, [], [(7, ⟨[1, 2, 3, 4], [32, 64, 96, 226, 227, 228, 232, 233, 234, 235, 242, 60112], [(some 96, 14, 60112, 163)]⟩)], false, false, [], [], []⟩
def h74 : Hints := ⟨true, [], [(13, ⟨[2, 3, 42, 43, 44], [64, 96, 60048, 60128, 60208], [(some 96, 2, 60208, 90)]⟩), (8, ⟨[1, 2, 3, 27, 28, 29], [32, 64, 96, 60048, 60128], [(some 96, 1, 60128, 108)]⟩), (3, ⟨[1, 2, 3, 12, 13, 14], [32, 64, 96, 60048], [(some 96, 0, 60048, 73)]⟩)], false, false, [], [], []⟩
def h75 : Hints := ⟨true, [], [(7, ⟨[1, 2, 3, 23, 24, 25], [32, 64, 96, 226, 227, 228, 232, 233, 234, 235, 242, 60112], [(some 96, 14, 60112, 163)]⟩)], false, false, [], [], []⟩
def h76 : Hints := ⟨true, [], [(5, ⟨[1, 2, 3, 4], [32, 64, 96, 60080], [(some 96, 0, 60080, 3)]⟩)], false, false, [], [], []⟩
def h78 : Hints := ⟨true, [], [(13, ⟨[1, 4], [32], []⟩), (6, ⟨[1, 3], [32], []⟩)], false, false, [], [], []⟩
def h79 : Hints := ⟨true, [], [(5, ⟨[1, 2, 3, 4], [32, 64, 96, 60080], [(some 96, 0, 60080, 3)]⟩)], false, false, [], [], []⟩
def h81 : Hints := ⟨true, [], [], false, false, [], [], []⟩
def h82 : Hints := ⟨true, [], [], false, false, [], [], []⟩
def h83 : Hints := ⟨true, [], [], false, false, [], [], []⟩
def h84 : Hints := ⟨true, [], [], false, false, [], [], []⟩
def h85 : Hints := ⟨true, [], [], false, false, [], [], []⟩
def h86 : Hints := ⟨true, [], [(2, ⟨[0, 1, 5], [100000], []⟩)], true, true, [], [], []⟩
def h87 : Hints := ⟨true, [], [(2, ⟨[0, 1, 5], [100000], []⟩)], true, true, [], [], []⟩
def h88 : Hints := ⟨true, [], [(2, ⟨[0, 1, 5], [100000], []⟩)], true, true, [], [], []⟩
def h89 : Hints := ⟨true, [], [(2, ⟨[0, 1, 5], [100000], []⟩)], true, true, [], [], []⟩
def h90 : Hints := ⟨true, [], [(2, ⟨[0, 1, 5], [100000], []⟩)], true, true, [], [], []⟩
def h91 : Hints := ⟨true, [], [(2, ⟨[0, 1, 5], [], []⟩)], false, false, [], [], []⟩
def h92 : Hints := ⟨true, [], [(2, ⟨[0, 1, 5], [], []⟩)], false, false, [], [], []⟩
def h93 : Hints := ⟨true, [], [(2, ⟨[0, 1, 5], [], []⟩)], false, false, [], [], []⟩
def h94 : Hints := ⟨true, [], [(2, ⟨[0, 1, 5], [], []⟩)], false, false, [], [], []⟩
def h95 : Hints := ⟨true, [], [(2, ⟨[0, 1, 5], [], []⟩)], false, false, [], [], []⟩
def h96 : Hints := ⟨true, [], [], false, false, [], [], []⟩
def h97 : Hints := ⟨true, [], [], false, false, [], [], []⟩
def h98 : Hints := ⟨true, [], [], false, false, [], [], []⟩
def h99 : Hints := ⟨true, [], [], false, false, [], [], []⟩
def h100 : Hints := ⟨true, [], [], false, false, [], [], []⟩
def h101 : Hints := ⟨true, [], [], false, false, [], [], []⟩
def h102 : Hints := ⟨true, [], [(2, ⟨[1, 2, 5], [64], []⟩)], false, false, [], [], []⟩
def h104 : Hints := ⟨true, [], [], false, false, [], [], []⟩
def h105 : Hints := ⟨true, [], [], false, false, [], [], []⟩
def h106 : Hints := ⟨true, [], [], false, false, [], [], []⟩
def h107 : Hints := ⟨true, [], [], false, false, [], [], []⟩
def h108 : Hints := ⟨true, [], [], false, false, [], [], []⟩
def h109 : Hints := ⟨true, [], [], false, false, [], [], []⟩
def h110 : Hints := ⟨true, [], [], false, false, [], [], []⟩
def h111 : Hints := ⟨true, [], [(2, ⟨[1, 8, 9, 10], [], []⟩)], false, false, [], [], []⟩
def h114 : Hints := ⟨true, [], [], false, false, [], [], []⟩
def h115 : Hints := ⟨true, [], [], false, false, [], [], []⟩
def h116 : Hints := ⟨true, [], [(4, ⟨[0, 3], [], []⟩)], false, false, [], [], []⟩
def h122 : Hints := ⟨true, [], [], false, false, [], [], []⟩
def h123 : Hints := ⟨true, [], [], false, false, [], [], []⟩
def h124 : Hints := ⟨true, [], [], false, false, [], [], []⟩
def h125 : Hints := ⟨true, [], [], false, false, [], [], []⟩
def h126 : Hints := ⟨true, [], [], false, false, [], [], []⟩
def h127 : Hints := ⟨true, [], [], false, false, [], [], []⟩
def h128 : Hints := ⟨true, [], [], false, false, [], [], []⟩
def h129 : Hints := ⟨true, [], [(3, ⟨[0, 3, 4], [60048], [(none, 3, 60048, 5)]⟩)], false, false, [], [], []⟩
def h130 : Hints := ⟨true, [], [], false, false, [], [], []⟩
def h131 : Hints := ⟨true, [], [(4, ⟨[1, 3], [32], []⟩)], false, false, [], [], []⟩
def h132 : Hints := ⟨true, [], [(4, ⟨[0, 1, 5], [], []⟩)], false, false, [], [], []⟩
def h133 : Hints := ⟨true, [], [], false, false, [], [], []⟩
def h134 : Hints := ⟨true, [], [(9, ⟨[0, 1, 5, 6], [], []⟩), (4, ⟨[0, 1, 5], [], []⟩)], false, false, [], [], []⟩
def h135 : Hints := ⟨true, [], [(10, ⟨[1, 3, 4, 5, 32, 33, 34, 35, 36, 39, 40, 41, 42, 45, 46, 47, 48, 49, 50], [32, 128], []⟩), (4, ⟨[1, 3], [32], []⟩)], false, false, [], [], []⟩
def h136 : Hints := ⟨true, [], [], false, false, [], [], []⟩
def h137 : Hints := ⟨true, [], [(3, ⟨[3, 7, 8, 9], [60048], [(none, 3, 60048, 5)]⟩)], false, false, [], [], []⟩
def h138 : Hints := ⟨true, [], [], false, false, [], [], []⟩
def h139 : Hints := ⟨true, [], [], false, false, [], [], []⟩
def h140 : Hints := ⟨true, [], [(2, ⟨[1, 6, 7, 8], [32], []⟩)], false, false, [], [], []⟩
def h141 : Hints := ⟨true, [], [(2, ⟨[0, 1, 7, 8, 9], [], []⟩)], false, false, [], [], []⟩
def h142 : Hints := ⟨true, [], [(5, ⟨[0, 3, 4], [], []⟩)], false, false, [], [], []⟩
def h143 : Hints := ⟨true, [], [(5, ⟨[0, 1, 6, 9, 10, 11, 15, 16, 17], [], []⟩), (2, ⟨[0, 1, 9, 10, 11], [], []⟩)], false, false, [], [], []⟩
def h144 : Hints := ⟨true, [], [(2, ⟨[1, 6, 7, 8], [32], []⟩)], false, false, [], [], []⟩
def h145 : Hints := ⟨true, [], [(2, ⟨[1, 6, 7, 8], [32], []⟩)], false, false, [], [], []⟩
def h146 : Hints := ⟨true, [], [], false, false, [], [], []⟩
def h147 : Hints := ⟨true, [], [], false, false, [], [], []⟩
def h148 : Hints := ⟨true, [], [(4, ⟨[0, 1, 5], [], []⟩)], false, false, [], [], []⟩
def h149 : Hints := ⟨true, [], [(4, ⟨[0, 1, 5], [], []⟩)], false, false, [], [], []⟩
def h150 : Hints := ⟨true, [], [(4, ⟨[0, 1, 5], [], []⟩)], false, false, [], [], []⟩
def h151 : Hints := ⟨true, [], [(4, ⟨[0, 1, 5], [], []⟩)], false, false, [], [], []⟩
def h152 : Hints := ⟨true, [], [], false, false, [], [], []⟩
def h153 : Hints := ⟨true, [], [], false, false, [], [], []⟩
def h154 : Hints := ⟨true, [], [], false, false, [], [], []⟩
def h155 : Hints := ⟨true, [], [(5, ⟨[0, 1, 5], [], []⟩)], false, false, [], [], []⟩
def h156 : Hints := ⟨true, [], [], false, false, [], [], []⟩
def h157 : Hints := ⟨true, [], [], false, false, [], [], []⟩
def h158 : Hints := ⟨true, [], [], false, false, [], [], []⟩
def h159 : Hints := ⟨true, [], [], false, false, [], [], []⟩
def h160 : Hints := ⟨true, [], [], false, false, [], [], []⟩
def h161 : Hints := ⟨true, [], [], false, false, [], [], []⟩
def h162 : Hints := ⟨true, [], [(3, ⟨[0, 3, 4], [224], []⟩)], false, false, [], [], []⟩
def h163 : Hints := ⟨true, [], [(3, ⟨[0, 3, 4], [224], []⟩)], false, false, [], [], []⟩
def h164 : Hints := ⟨true, [], [(3, ⟨[0, 3, 4], [224], []⟩)], false, false, [], [], []⟩
def h165 : Hints := ⟨true, [], [(3, ⟨[0, 3, 4], [224], []⟩)], false, false, [], [], []⟩
def h166 : Hints := ⟨true, [], [], false, false, [], [], []⟩
def h169 : Hints := ⟨true, [], [], false, false, [], [], []⟩
def h173 : Hints := ⟨true, [], [], false, false, [], [], []⟩
def h174 : Hints := ⟨true, [], [(3, ⟨[1, 2, 3, 4], [32, 64, 96, 60048], [(some 96, 2, 60048, 49)]⟩)], false, false, [], [], []⟩
def h175 : Hints := ⟨true, [], [(3, ⟨[0, 3, 4], [60048], [(none, 3, 60048, 43)]⟩)], false, false, [], [], []⟩
def h176 : Hints := ⟨true, [], [], false, false, [], [], []⟩
def h177 : Hints := ⟨true, [], [(3, ⟨[2, 3, 12, 13, 14], [64, 96, 60048], [(some 96, 2, 60048, 49)]⟩)], false, false, [], [], []⟩
def h178 : Hints := ⟨true, [], [], false, false, [], [], []⟩
def h179 : Hints := ⟨true, [], [(3, ⟨[3, 7, 8, 9], [60048], [(none, 3, 60048, 43)]⟩)], false, false, [], [], []⟩
def h180 : Hints := ⟨true, [], [(3, ⟨[3, 7, 8, 9], [60048], [(none, 3, 60048, 5)]⟩)], false, false, [], [], []⟩
def h181 : Hints := ⟨true, [], [(7, ⟨[0, 3, 4, 5], [], []⟩), (3, ⟨[0, 3, 4], [], []⟩)], false, false, [], [], []⟩
def h182 : Hints := ⟨true, [], [(8, ⟨[1, 3, 4, 5, 6, 7], [32, 160, 1280, 60128], [(none, 3, 60128, 5)]⟩), (14, ⟨[1, 3, 8], [32, 60224], [(none, 3, 60224, 5)]⟩), (3, ⟨[1, 3, 4], [32, 60048], [(none, 3, 60048, 5)]⟩)], false, false, [], [], []⟩
def h183 : Hints := ⟨true, [], [(8, ⟨[1, 2, 4, 5, 7], [64, 128, 160, 60048, 60128], [(some 160, 1, 60128, 143)]⟩), (3, ⟨[1, 2, 4, 5, 6], [64, 128, 160, 60048], [(some 160, 0, 60048, 139)]⟩)], false, false, [], [], []⟩
def h184 : Hints := ⟨true, [], [(4, ⟨[0, 3], [60064], [(none, 3, 60064, 5)]⟩)], false, false, [], [], []⟩
def h185 : Hints := ⟨true, [], [(4, ⟨[0, 1, 5], [], []⟩)], false, false, [], [], []⟩
def h186 : Hints := ⟨true, [], [(7, ⟨[3, 7, 8, 9, 17], [], []⟩), (3, ⟨[3, 7, 8, 9], [], []⟩)], false, false, [], [], []⟩
def h187 : Hints := ⟨true, [], [(12, ⟨[3, 55, 56, 57], [60192], [(none, 3, 60192, 5)]⟩), (5, ⟨[1, 3, 17, 18, 19], [32, 60080], [(none, 3, 60080, 5)]⟩)], false, false, [], [], []⟩
def h188 : Hints := ⟨true, [], [(11, ⟨[1, 4, 5, 35, 36, 37], [128, 160, 60080, 60176], [(some 160, 1, 60176, 143)]⟩), (5, ⟨[1, 2, 4, 5, 16, 17, 18], [64, 128, 160, 60080], [(some 160, 0, 60080, 139)]⟩)], false, false, [], [], []⟩
def h189 : Hints := ⟨true, [], [(4, ⟨[0, 3], [60064], [(none, 3, 60064, 5)]⟩)], false, false, [], [], []⟩
def h190 : Hints := ⟨true, [], [(4, ⟨[0, 1, 12, 13], [], []⟩)], false, false, [], [], []⟩
def h191 : Hints := ⟨true, [], [], false, false, [], [], []⟩
def h192 : Hints := ⟨true, [], [(2, ⟨[1, 2, 10, 11, 12], [], []⟩)], false, false, [], [], []⟩
def h193 : Hints := ⟨true, [], [(4, ⟨[0, 1, 5], [], []⟩)], false, false, [], [], []⟩
def h194 : Hints := ⟨true, [], [], false, false, [], [], []⟩
def h195 : Hints := ⟨true, [], [], false, false, [], [], []⟩
def h196 : Hints := ⟨true, [], [(5, ⟨[0, 1, 5], [], []⟩)], false, false, [], [], []⟩
def h197 : Hints := ⟨true, [], [(3, ⟨[0, 3, 4], [224], []⟩)], false, false, [], [], []⟩
def h198 : Hints := ⟨true, [], [], false, false, [], [], []⟩
def h199 : Hints := ⟨true, [], [], false, false, [], [], []⟩
def h203 : Hints := ⟨true, [], [], false, false, [], [], []⟩
def h204 : Hints := ⟨true, [], [(2, ⟨[0, 1, 5], [], []⟩)], false, false, [], [], []⟩
def h205 : Hints := ⟨true, [], [], false, false, [], [], []⟩
def h206 : Hints := ⟨true, [], [], false, false, [], [], []⟩
def h207 : Hints := ⟨true, [], [], false, false, [], [], []⟩
def h208 : Hints := ⟨true, [], [], false, false, [], [], []⟩
def h211 : Hints := ⟨true, [], [(2, ⟨[0, 1, 7, 8], [], []⟩)], false, false, [], [], []⟩
set_option maxRecDepth 100000 in
noncomputable def fnTab : List (Nat × Func) := [(8, Tryz.f8), (11, Tryz.f11), (12, Tryz.f12), (13, Tryz.f13), (14, Tryz.f14), (15, Tryz.f15), (17, Tryz.f17), (18, Tryz.f18), (20, Tryz.f20), (21, Tryz.f21), (23, Tryz.f23), (24, Tryz.f24), (29, Tryz.f29), (33, Tryz.f33), (34, Tryz.f34), (36, Tryz.f36), (38, Tryz.f38), (39, Tryz.f39), (40, Tryz.f40), (41, Tryz.f41), (42, Tryz.f42), (43, Tryz.f43), (44, Tryz.f44), (45, Tryz.f45), (46, Tryz.f46), (47, Tryz.f47), (48, Tryz.f48), (49, Tryz.f49), (50, Tryz.f50), (51, Tryz.f51), (52, Tryz.f52), (53, Tryz.f53), (55, Tryz.f55), (56, Tryz.f56), (57, Tryz.f57), (58, Tryz.f58), (59, Tryz.f59), (60, Tryz.f60), (62, Tryz.f62), (63, Tryz.f63), (64, Tryz.f64), (65, Tryz.f65), (68, Tryz.f68), (69, Tryz.f69), (70, Tryz.f70), (71, Tryz.f71), (72, Tryz.f72), (73, Tryz.f73), (74, Tryz.f74), (75, Tryz.f75), (76, Tryz.f76), (78, Tryz.f78), (79, Tryz.f79), (81, Tryz.f81), (82, Tryz.f82), (83, Tryz.f83), (84, Tryz.f84), (85, Tryz.f85), (86, Tryz.f86), (87, Tryz.f87), (88, Tryz.f88), (89, Tryz.f89), (90, Tryz.f90), (91, Tryz.f91), (92, Tryz.f92), (93, Tryz.f93), (94, Tryz.f94), (95, Tryz.f95), (96, Tryz.f96), (97, Tryz.f97), (98, Tryz.f98), (99, Tryz.f99), (100, Tryz.f100), (101, Tryz.f101), (102, Tryz.f102), (104, Tryz.f104), (105, Tryz.f105), (106, Tryz.f106), (107, Tryz.f107), (108, Tryz.f108), (109, Tryz.f109), (110, Tryz.f110), (111, Tryz.f111), (114, Tryz.f114), (115, Tryz.f115), (116, Tryz.f116), (122, Tryz.f122), (123, Tryz.f123), (124, Tryz.f124), (125, Tryz.f125), (126, Tryz.f126), (127, Tryz.f127), (128, Tryz.f128), (129, Tryz.f129), (130, Tryz.f130), (131, Tryz.f131), (132, Tryz.f132), (133, Tryz.f133), (134, Tryz.f134), (135, Tryz.f135), (136, Tryz.f136), (137, Tryz.f137), (138, Tryz.f138), (139, Tryz.f139), (140, Tryz.f140), (141, Tryz.f141), (142, Tryz.f142), (143, Tryz.f143), (144, Tryz.f144), (145, Tryz.f145), (146, Tryz.f146), (147, Tryz.f147), (148, Tryz.f148), (149, Tryz.f149), (150, Tryz.f150), (151, Tryz.f151), (152, Tryz.f152), (153, Tryz.f153), (154, Tryz.f154), (155, Tryz.f155), (156, Tryz.f156), (157, Tryz.f157), (158, Tryz.f158), (159, Tryz.f159), (160, Tryz.f160), (161, Tryz.f161), (162, Tryz.f162), (163, Tryz.f163), (164, Tryz.f164), (165, Tryz.f165), (166, Tryz.f166), (169, Tryz.f169), (173, Tryz.f173), (174, Tryz.f174), (175, Tryz.f175), (176, Tryz.f176), (177, Tryz.f177), (178, Tryz.f178), (179, Tryz.f179), (180, Tryz.f180), (181, Tryz.f181), (182, Tryz.f182), (183, Tryz.f183), (184, Tryz.f184), (185, Tryz.f185), (186, Tryz.f186), (187, Tryz.f187), (188, Tryz.f188), (189, Tryz.f189), (190, Tryz.f190), (191, Tryz.f191), (192, Tryz.f192), (193, Tryz.f193), (194, Tryz.f194), (195, Tryz.f195), (196, Tryz.f196), (197, Tryz.f197), (198, Tryz.f198), (199, Tryz.f199), (203, Tryz.f203), (204, Tryz.f204), (205, Tryz.f205), (206, Tryz.f206), (207, Tryz.f207), (208, Tryz.f208), (211, Tryz.f211)]
set_option maxRecDepth 100000 in
noncomputable def htab : List (Nat × Hints) := [(8, h8), (11, h11), (12, h12), (13, h13), (14, h14), (15, h15), (17, h17), (18, h18), (20, h20), (21, h21), (23, h23), (24, h24), (29, h29), (33, h33), (34, h34), (36, h36), (38, h38), (39, h39), (40, h40), (41, h41), (42, h42), (43, h43), (44, h44), (45, h45), (46, h46), (47, h47), (48, h48), (49, h49), (50, h50), (51, h51), (52, h52), (53, h53), (55, h55), (56, h56), (57, h57), (58, h58), (59, h59), (60, h60), (62, h62), (63, h63), (64, h64), (65, h65), (68, h68), (69, h69), (70, h70), (71, h71), (72, h72), (73, h73), (74, h74), (75, h75), (76, h76), (78, h78), (79, h79), (81, h81), (82, h82), (83, h83), (84, h84), (85, h85), (86, h86), (87, h87), (88, h88), (89, h89), (90, h90), (91, h91), (92, h92), (93, h93), (94, h94), (95, h95), (96, h96), (97, h97), (98, h98), (99, h99), (100, h100), (101, h101), (102, h102), (104, h104), (105, h105), (106, h106), (107, h107), (108, h108), (109, h109), (110, h110), (111, h111), (114, h114), (115, h115), (116, h116), (122, h122), (123, h123), (124, h124), (125, h125), (126, h126), (127, h127), (128, h128), (129, h129), (130, h130), (131, h131), (132, h132), (133, h133), (134, h134), (135, h135), (136, h136), (137, h137), (138, h138), (139, h139), (140, h140), (141, h141), (142, h142), (143, h143), (144, h144), (145, h145), (146, h146), (147, h147), (148, h148), (149, h149), (150, h150), (151, h151), (152, h152), (153, h153), (154, h154), (155, h155), (156, h156), (157, h157), (158, h158), (159, h159), (160, h160), (161, h161), (162, h162), (163, h163), (164, h164), (165, h165), (166, h166), (169, h169), (173, h173), (174, h174), (175, h175), (176, h176), (177, h177), (178, h178), (179, h179), (180, h180), (181, h181), (182, h182), (183, h183), (184, h184), (185, h185), (186, h186), (187, h187), (188, h188), (189, h189), (190, h190), (191, h191), (192, h192), (193, h193), (194, h194), (195, h195), (196, h196), (197, h197), (198, h198), (199, h199), (203, h203), (204, h204), (205, h205), (206, h206), (207, h207), (208, h208), (211, h211)]
def hd0 : Hints := ⟨true, [], [], false, false, [], [], []⟩
def ownTab : List (Nat × (List Abs.Arg → Option Out)) := []
noncomputable def p : Prg := { ti := ti, fn := fun g => look? g fnTab, hint := fun g => ⟨!memN g unfL, [], ((look? g htab).getD hd0).loops, memN g pinL, memN g ownL, ((look? g htab).getD hd0).inl, ((look? g htab).getD hd0).unp, ((look? g htab).getD hd0).adp⟩, own := fun g => look? g ownTab }
set_option maxRecDepth 100000 in
theorem rts_eq : p.rts = rts := by
 funext g
 unfold Prg.rts rts p
 rw [look_map]; rfl
theorem ran_of {g : Nat} {fn : Func} {nt : Nat} {h : Hints} {lvl : Nat} {xs : List Abs.Arg} {out : Out} (ho : p.own g = none) (hf : p.fn g = some fn) (hn : fn.ntmps = nt) (hh : p.hint g = h)
  (H : ∀ n, lvl ≤ n → ∀ JJ : Nat → InlT, Ev (fun fuel => frun (E1 (arun p n) nt h) rts (JJ fuel) fuel fn xs) out) : Ran p (lvl + 1) g xs out := by
 subst hn; subst hh
 refine Ran.of ho hf fun n hl => ?_
 rw [rts_eq]
 exact (H n hl (fun fuel => inlRun p.fn (envOf p (arun p n) fn.ntmps (p.hint g)) rts fuel 3)).get
set_option maxRecDepth 100000 in
theorem fnTab_ok : ∀ q ∈ fnTab, FnOk Tryz.prog q.1 q.2 := all_of (⟨⟨Tryz.func8, by kernel_rfl, by kernel_rfl⟩, ⟨⟨Tryz.func11, by kernel_rfl, by kernel_rfl⟩, ⟨⟨Tryz.func12, by kernel_rfl, by kernel_rfl⟩, ⟨⟨Tryz.func13, by kernel_rfl, by kernel_rfl⟩, ⟨⟨Tryz.func14, by kernel_rfl, by kernel_rfl⟩, ⟨⟨Tryz.func15, by kernel_rfl, by kernel_rfl⟩, ⟨⟨Tryz.func17, by kernel_rfl, by kernel_rfl⟩, ⟨⟨Tryz.func18, by kernel_rfl, by kernel_rfl⟩, ⟨⟨Tryz.func20, by kernel_rfl, by kernel_rfl⟩, ⟨⟨Tryz.func21, by kernel_rfl, by kernel_rfl⟩, ⟨⟨Tryz.func23, by kernel_rfl, by kernel_rfl⟩, ⟨⟨Tryz.func24, by kernel_rfl, by kernel_rfl⟩, ⟨⟨Tryz.func29, by kernel_rfl, by kernel_rfl⟩, ⟨⟨Tryz.func33, by kernel_rfl, by kernel_rfl⟩, ⟨⟨Tryz.func34, by kernel_rfl, by kernel_rfl⟩, ⟨⟨Tryz.func36, by kernel_rfl, by kernel_rfl⟩, ⟨⟨Tryz.func38, by kernel_rfl, by kernel_rfl⟩, ⟨⟨Tryz.func39, by kernel_rfl, by kernel_rfl⟩, ⟨⟨Tryz.func40, by kernel_rfl, by kernel_rfl⟩, ⟨⟨Tryz.func41, by kernel_rfl, by kernel_rfl⟩, ⟨⟨Tryz.func42, by kernel_rfl, by kernel_rfl⟩, ⟨⟨Tryz.func43, by kernel_rfl, by kernel_rfl⟩, ⟨⟨Tryz.func44, by kernel_rfl, by kernel_rfl⟩, ⟨⟨Tryz.func45, by kernel_rfl, by kernel_rfl⟩, ⟨⟨Tryz.func46, by kernel_rfl, by kernel_rfl⟩, ⟨⟨Tryz.func47, by kernel_rfl, by kernel_rfl⟩, ⟨⟨Tryz.func48, by kernel_rfl, by kernel_rfl⟩, ⟨⟨Tryz.func49, by kernel_rfl, by kernel_rfl⟩, ⟨⟨Tryz.func50, by kernel_rfl, by kernel_rfl⟩, ⟨⟨Tryz.func51, by kernel_rfl, by kernel_rfl⟩, ⟨⟨Tryz.func52, by kernel_rfl, by kernel_rfl⟩, ⟨⟨Tryz.func53, by kernel_rfl, by kernel_rfl⟩, ⟨⟨Tryz.func55, by kernel_rfl, by kernel_rfl⟩, ⟨⟨Tryz.func56, by kernel_rfl, by kernel_rfl⟩, ⟨⟨Tryz.func57, by kernel_rfl, by kernel_rfl⟩, ⟨⟨Tryz.func58, by kernel_rfl, by kernel_rfl⟩, ⟨⟨Tryz.func59, by kernel_rfl, by kernel_rfl⟩, ⟨⟨Tryz.func60, by kernel_rfl, by kernel_rfl⟩, ⟨⟨Tryz.func62, by kernel_rfl, by kernel_rfl⟩, ⟨⟨Tryz.func63, by kernel_rfl, by kernel_rfl⟩, ⟨⟨Tryz.func64, by kernel_rfl, by kernel_rfl⟩, ⟨⟨Tryz.func65, by kernel_rfl, by kernel_rfl⟩, ⟨⟨Tryz.func68, by kernel_rfl, by kernel_rfl⟩, ⟨⟨Tryz.func69, by kernel_rfl, by kernel_rfl⟩, ⟨⟨Tryz.func70, by kernel_rfl, by kernel_rfl⟩, ⟨⟨Tryz.func71, by kernel_rfl, by kernel_rfl⟩, ⟨⟨Tryz.func72, by kernel_rfl, by kernel_rfl⟩, ⟨⟨Tryz.func73, by kernel_rfl, by kernel_rfl⟩, ⟨⟨Tryz.func74, by kernel_rfl, by kernel_rfl⟩, ⟨⟨Tryz.func75, by kernel_rfl, by kernel_rfl⟩, ⟨⟨Tryz.func76, by kernel_rfl, by kernel_rfl⟩, ⟨⟨Tryz.func78, by kernel_rfl, by kernel_rfl⟩, ⟨⟨Tryz.func79, by kernel_rfl, by kernel_rfl⟩, ⟨⟨Tryz.func81, by kernel_rfl, by kernel_rfl⟩, ⟨⟨Tryz.func82, by kernel_rfl, by kernel_rfl⟩, ⟨⟨Tryz.func83, by kernel_rfl, by kernel_rfl⟩, ⟨⟨Tryz.func84, by kernel_rfl, by kernel_rfl⟩, ⟨⟨Tryz.func85, by kernel_rfl, by kernel_rfl⟩, ⟨⟨Tryz.func86, by kernel_rfl, by kernel_rfl⟩, ⟨⟨Tryz.func87, by kernel_rfl, by kernel_rfl⟩, ⟨⟨Tryz.func88, by kernel_rfl, by kernel_rfl⟩, ⟨⟨Tryz.func89, by kernel_rfl, by kernel_rfl⟩, ⟨⟨Tryz.func90, by kernel_rfl, by kernel_rfl⟩, ⟨⟨Tryz.func91, by kernel_rfl, by kernel_rfl⟩, ⟨⟨Tryz.func92, by kernel_rfl, by kernel_rfl⟩, ⟨⟨Tryz.func93, by kernel_rfl, by kernel_rfl⟩, ⟨⟨Tryz.func94, by kernel_rfl, by kernel_rfl⟩, ⟨⟨Tryz.func95, by kernel_rfl, by kernel_rfl⟩, ⟨⟨Tryz.func96, by kernel_rfl, by kernel_rfl⟩, ⟨⟨Tryz.func97, by kernel_rfl, by kernel_rfl⟩, ⟨⟨Tryz.func98, by kernel_rfl, by kernel_rfl⟩, ⟨⟨Tryz.func99, by kernel_rfl, by kernel_rfl⟩, ⟨⟨Tryz.func100, by kernel_rfl, by kernel_rfl⟩, ⟨⟨Tryz.func101, by kernel_rfl, by kernel_rfl⟩, ⟨⟨Tryz.func102, by kernel_rfl, by kernel_rfl⟩, ⟨⟨Tryz.func104, by kernel_rfl, by kernel_rfl⟩, ⟨⟨Tryz.func105, by kernel_rfl, by kernel_rfl⟩, ⟨⟨Tryz.func106, by kernel_rfl, by kernel_rfl⟩, ⟨⟨Tryz.func107, by kernel_rfl, by kernel_rfl⟩, ⟨⟨Tryz.func108, by kernel_rfl, by kernel_rfl⟩, ⟨⟨Tryz.func109, by kernel_rfl, by kernel_rfl⟩, ⟨⟨Tryz.func110, by kernel_rfl, by kernel_rfl⟩, ⟨⟨Tryz.func111, by kernel_rfl, by kernel_rfl⟩, ⟨⟨Tryz.func114, by kernel_rfl, by kernel_rfl⟩, ⟨⟨Tryz.func115, by kernel_rfl, by kernel_rfl⟩, ⟨⟨Tryz.func116, by kernel_rfl, by kernel_rfl⟩, ⟨⟨Tryz.func122, by kernel_rfl, by kernel_rfl⟩, ⟨⟨Tryz.func123, by kernel_rfl, by kernel_rfl⟩, ⟨⟨Tryz.func124, by kernel_rfl, by kernel_rfl⟩, ⟨⟨Tryz.func125, by kernel_rfl, by kernel_rfl⟩, ⟨⟨Tryz.func126, by kernel_rfl, by kernel_rfl⟩, ⟨⟨Tryz.func127, by kernel_rfl, by kernel_rfl⟩, ⟨⟨Tryz.func128, by kernel_rfl, by kernel_rfl⟩, ⟨⟨Tryz.func129, by kernel_rfl, by kernel_rfl⟩, ⟨⟨Tryz.func130, by kernel_rfl, by kernel_rfl⟩, ⟨⟨Tryz.func131, by kernel_rfl, by kernel_rfl⟩, ⟨⟨Tryz.func132, by kernel_rfl, by kernel_rfl⟩, ⟨⟨Tryz.func133, by kernel_rfl, by kernel_rfl⟩, ⟨⟨Tryz.func134, by kernel_rfl, by kernel_rfl⟩, ⟨⟨Tryz.func135, by kernel_rfl, by kernel_rfl⟩, ⟨⟨Tryz.func136, by kernel_rfl, by kernel_rfl⟩, ⟨⟨Tryz.func137, by kernel_rfl, by kernel_rfl⟩, ⟨⟨Tryz.func138, by kernel_rfl, by kernel_rfl⟩, ⟨⟨Tryz.func139, by kernel_rfl, by kernel_rfl⟩, ⟨⟨Tryz.func140, by kernel_rfl, by kernel_rfl⟩, ⟨⟨Tryz.func141, by kernel_rfl, by kernel_rfl⟩, ⟨⟨Tryz.func142, by kernel_rfl, by kernel_rfl⟩, ⟨⟨Tryz.func143, by kernel_rfl, by kernel_rfl⟩, ⟨⟨Tryz.func144, by kernel_rfl, by kernel_rfl⟩, ⟨⟨Tryz.func145, by kernel_rfl, by kernel_rfl⟩, ⟨⟨Tryz.func146, by kernel_rfl, by kernel_rfl⟩, ⟨⟨Tryz.func147, by kernel_rfl, by kernel_rfl⟩, ⟨⟨Tryz.func148, by kernel_rfl, by kernel_rfl⟩, ⟨⟨Tryz.func149, by kernel_rfl, by kernel_rfl⟩, ⟨⟨Tryz.func150, by kernel_rfl, by kernel_rfl⟩, ⟨⟨Tryz.func151, by kernel_rfl, by kernel_rfl⟩, ⟨⟨Tryz.func152, by kernel_rfl, by kernel_rfl⟩, ⟨⟨Tryz.func153, by kernel_rfl, by kernel_rfl⟩, ⟨⟨Tryz.func154, by kernel_rfl, by kernel_rfl⟩, ⟨⟨Tryz.func155, by kernel_rfl, by kernel_rfl⟩, ⟨⟨Tryz.func156, by kernel_rfl, by kernel_rfl⟩, ⟨⟨Tryz.func157, by kernel_rfl, by kernel_rfl⟩, ⟨⟨Tryz.func158, by kernel_rfl, by kernel_rfl⟩, ⟨⟨Tryz.func159, by kernel_rfl, by kernel_rfl⟩, ⟨⟨Tryz.func160, by kernel_rfl, by kernel_rfl⟩, ⟨⟨Tryz.func161, by kernel_rfl, by kernel_rfl⟩, ⟨⟨Tryz.func162, by kernel_rfl, by kernel_rfl⟩, ⟨⟨Tryz.func163, by kernel_rfl, by kernel_rfl⟩, ⟨⟨Tryz.func164, by kernel_rfl, by kernel_rfl⟩, ⟨⟨Tryz.func165, by kernel_rfl, by kernel_rfl⟩, ⟨⟨Tryz.func166, by kernel_rfl, by kernel_rfl⟩, ⟨⟨Tryz.func169, by kernel_rfl, by kernel_rfl⟩, ⟨⟨Tryz.func173, by kernel_rfl, by kernel_rfl⟩, ⟨⟨Tryz.func174, by kernel_rfl, by kernel_rfl⟩, ⟨⟨Tryz.func175, by kernel_rfl, by kernel_rfl⟩, ⟨⟨Tryz.func176, by kernel_rfl, by kernel_rfl⟩, ⟨⟨Tryz.func177, by kernel_rfl, by kernel_rfl⟩, ⟨⟨Tryz.func178, by kernel_rfl, by kernel_rfl⟩, ⟨⟨Tryz.func179, by kernel_rfl, by kernel_rfl⟩, ⟨⟨Tryz.func180, by kernel_rfl, by kernel_rfl⟩, ⟨⟨Tryz.func181, by kernel_rfl, by kernel_rfl⟩, ⟨⟨Tryz.func182, by kernel_rfl, by kernel_rfl⟩, ⟨⟨Tryz.func183, by kernel_rfl, by kernel_rfl⟩, ⟨⟨Tryz.func184, by kernel_rfl, by kernel_rfl⟩, ⟨⟨Tryz.func185, by kernel_rfl, by kernel_rfl⟩, ⟨⟨Tryz.func186, by kernel_rfl, by kernel_rfl⟩, ⟨⟨Tryz.func187, by kernel_rfl, by kernel_rfl⟩, ⟨⟨Tryz.func188, by kernel_rfl, by kernel_rfl⟩, ⟨⟨Tryz.func189, by kernel_rfl, by kernel_rfl⟩, ⟨⟨Tryz.func190, by kernel_rfl, by kernel_rfl⟩, ⟨⟨Tryz.func191, by kernel_rfl, by kernel_rfl⟩, ⟨⟨Tryz.func192, by kernel_rfl, by kernel_rfl⟩, ⟨⟨Tryz.func193, by kernel_rfl, by kernel_rfl⟩, ⟨⟨Tryz.func194, by kernel_rfl, by kernel_rfl⟩, ⟨⟨Tryz.func195, by kernel_rfl, by kernel_rfl⟩, ⟨⟨Tryz.func196, by kernel_rfl, by kernel_rfl⟩, ⟨⟨Tryz.func197, by kernel_rfl, by kernel_rfl⟩, ⟨⟨Tryz.func198, by kernel_rfl, by kernel_rfl⟩, ⟨⟨Tryz.func199, by kernel_rfl, by kernel_rfl⟩, ⟨⟨Tryz.func203, by kernel_rfl, by kernel_rfl⟩, ⟨⟨Tryz.func204, by kernel_rfl, by kernel_rfl⟩, ⟨⟨Tryz.func205, by kernel_rfl, by kernel_rfl⟩, ⟨⟨Tryz.func206, by kernel_rfl, by kernel_rfl⟩, ⟨⟨Tryz.func207, by kernel_rfl, by kernel_rfl⟩, ⟨⟨Tryz.func208, by kernel_rfl, by kernel_rfl⟩, ⟨⟨Tryz.func211, by kernel_rfl, by kernel_rfl⟩, trivial⟩⟩⟩⟩⟩⟩⟩⟩⟩⟩⟩⟩⟩⟩⟩⟩⟩⟩⟩⟩⟩⟩⟩⟩⟩⟩⟩⟩⟩⟩⟩⟩⟩⟩⟩⟩⟩⟩⟩⟩⟩⟩⟩⟩⟩⟩⟩⟩⟩⟩⟩⟩⟩⟩⟩⟩⟩⟩⟩⟩⟩⟩⟩⟩⟩⟩⟩⟩⟩⟩⟩⟩⟩⟩⟩⟩⟩⟩⟩⟩⟩⟩⟩⟩⟩⟩⟩⟩⟩⟩⟩⟩⟩⟩⟩⟩⟩⟩⟩⟩⟩⟩⟩⟩⟩⟩⟩⟩⟩⟩⟩⟩⟩⟩⟩⟩⟩⟩⟩⟩⟩⟩⟩⟩⟩⟩⟩⟩⟩⟩⟩⟩⟩⟩⟩⟩⟩⟩⟩⟩⟩⟩⟩⟩⟩⟩⟩⟩⟩⟩⟩⟩⟩⟩⟩⟩⟩⟩⟩⟩⟩⟩⟩⟩⟩⟩)
theorem prg_ok : PrgOk Tryz.prog p where
 ti := tabB_ok (by kernel_rfl)
 depth := Nat.le_of_ble_eq_true (by kernel_rfl)
 mixed := by kernel_rfl
 fn := fun g fn h => (fnTab_ok _ (look_mem fnTab h)).out
 own := fun g F h => by cases h
theorem k_ok : KOk p.ti := kindsB_ok (by kernel_rfl)
end Go.Abs.Gz
