/- What the functions of this program answer, part p. -/
import Derived.Test.YthgekoledembcaaGreatXz
import Derived.Test.YthgekoledembcaaGreatW2
import Derived.KernelRfl
import Derived.Test.YthgekoledembcaaGreatXt
set_option linter.unusedVariables false
namespace Go.Abs.Gz
open Go Go.Abs Go.Proofs
set_option maxRecDepth 100000 in
def rts : Nat → Option (List Nat) := fun g => look? g [(7, [4]), (11, [4]), (12, [3]), (14, [3]), (15, [3]), (17, [26]), (18, [49]), (20, [4]), (21, [4]), (22, [3]), (23, [3]), (27, [3]), (29, [43]), (31, [49]), (32, [49]), (36, [4]), (38, [4]), (39, [4]), (40, [4]), (41, [4]), (42, [3]), (43, [3]), (44, [3]), (48, [3]), (49, [3]), (50, [3]), (51, [3]), (52, [3]), (53, [4]), (55, [22]), (56, [23]), (57, [24]), (58, [46]), (59, [47]), (60, [4]), (62, [4]), (63, [4]), (64, [3]), (65, [3]), (66, [49]), (67, [49]), (68, [3]), (69, [3]), (70, [4]), (71, [4]), (76, [65]), (78, [4]), (79, [65]), (81, [4]), (82, [4]), (83, [4]), (84, [4]), (85, [4]), (86, [3]), (87, [3]), (88, [3]), (89, [3]), (90, [3]), (96, [3]), (97, [3]), (98, [3]), (99, [3]), (100, [4]), (101, [4]), (102, [3]), (104, [73]), (105, [108]), (106, [90]), (107, [139]), (108, [143]), (109, [4]), (110, [4]), (111, [3]), (114, [4]), (115, [4]), (116, [9]), (117, [3]), (118, [137, 4]), (119, [3]), (120, [137, 4]), (121, [137]), (128, [3]), (129, [3]), (130, [4]), (131, [4]), (132, [4]), (133, [3]), (134, [4]), (135, [4]), (136, [3]), (137, [3]), (138, [4]), (139, [3]), (140, [4]), (141, [4]), (142, [3]), (143, [4]), (144, [4]), (145, [4]), (146, [4]), (147, [4]), (148, [4]), (149, [4]), (150, [4]), (151, [4]), (152, [3]), (153, [3]), (154, [3]), (155, [3]), (156, [3]), (157, [3]), (158, [3]), (159, [3]), (160, [65]), (161, [68]), (162, [69]), (163, [70]), (164, [71]), (165, [106]), (166, [137]), (169, [4]), (170, [3]), (171, [3]), (172, [3]), (180, [106]), (181, [3]), (182, [106]), (183, [49]), (184, [106]), (185, [4]), (186, [3]), (187, [106]), (188, [49]), (189, [106]), (190, [4]), (191, [4]), (192, [3]), (193, [4]), (194, [4]), (195, [4]), (196, [3]), (197, [66]), (198, [163]), (199, [171]), (200, [3]), (201, [3]), (202, [3]), (203, [106]), (204, [4]), (205, [3]), (206, [106]), (207, [4]), (208, [3]), (209, [4]), (211, [3])]
def ownL : List Nat := [12, 22, 23, 42, 43, 44, 64, 65, 86, 87, 88, 89, 90]
def pinL : List Nat := [7, 12, 22, 23, 42, 43, 44, 64, 65, 86, 87, 88, 89, 90]
def E1 (call : Cl) (n : Nat) (h : Hints) : Env := { ti := ti, n := n, call := call, fresh := fun _ => true, owns := fun g => memN g ownL, h := h }
def h7 : Hints := ⟨true, [], [], true, false⟩
def h11 : Hints := ⟨true, [], [], false, false⟩
def h12 : Hints := ⟨true, [], [], true, true⟩
def h14 : Hints := ⟨true, [], [], false, false⟩
def h15 : Hints := ⟨true, [], [], false, false⟩
def h17 : Hints := ⟨true, [], [], false, false⟩
def h18 : Hints := ⟨true, [], [], false, false⟩
def h20 : Hints := ⟨true, [], [(4, ⟨[0, 1, 5], [], []⟩)], false, false⟩
def h21 : Hints := ⟨true, [], [], false, false⟩
def h22 : Hints := ⟨true, [], [], true, true⟩
def h23 : Hints := ⟨true, [], [(2, ⟨[0, 1, 5], [100000], []⟩)], true, true⟩
def h27 : Hints := ⟨true, [], [], false, false⟩
def h29 : Hints := ⟨true, [], [(3, ⟨[0, 3, 4], [224], []⟩)], false, false⟩
def h31 : Hints := ⟨true, [], [(6, ⟨[1, 2, 3, 6, 7, 8, 9], [96, 192, 224, 60096, 60097], [(some 224, 0, 60096, 139), (some 224, 1, 60097, 143)]⟩)], false, false⟩
def h32 : Hints := ⟨true, [], [(6, ⟨[1, 2, 6, 7, 8, 17, 18, 19], [192, 224, 60096, 60097], [(some 224, 0, 60096, 139), (some 224, 1, 60097, 143)]⟩)], false, false⟩
def h36 : Hints := ⟨true, [], [(15, ⟨[1, 3, 6], [32], []⟩), (10, ⟨[1, 3, 5], [32], []⟩), (5, ⟨[1, 3, 4], [32], []⟩)], false, false⟩
def h38 : Hints := ⟨true, [], [(16, ⟨[1, 66, 67, 68], [32], []⟩), (10, ⟨[1, 53, 54, 55], [32], []⟩), (4, ⟨[1, 27, 28, 29], [32], []⟩)], false, false⟩
def h39 : Hints := ⟨true, [], [(4, ⟨[0, 1, 5], [], []⟩)], false, false⟩
def h40 : Hints := ⟨true, [], [(4, ⟨[0, 1, 5], [], []⟩)], false, false⟩
def h41 : Hints := ⟨true, [], [(4, ⟨[0, 1, 5], [], []⟩)], false, false⟩
def h42 : Hints := ⟨true, [], [(2, ⟨[0, 1, 5], [100000], []⟩)], true, true⟩
def h43 : Hints := ⟨true, [], [(2, ⟨[0, 1, 5], [100000], []⟩)], true, true⟩
def h44 : Hints := ⟨true, [], [(2, ⟨[0, 1, 5], [100000], []⟩)], true, true⟩
def h48 : Hints := ⟨true, [], [(5, ⟨[0, 1, 5], [], []⟩)], false, false⟩
def h49 : Hints := ⟨true, [], [(5, ⟨[0, 1, 5], [], []⟩)], false, false⟩
def h50 : Hints := ⟨true, [], [(5, ⟨[0, 1, 5], [], []⟩)], false, false⟩
def h51 : Hints := ⟨true, [], [(5, ⟨[0, 1, 5], [], []⟩)], false, false⟩
def h52 : Hints := ⟨true, [], [], false, false⟩
def h53 : Hints := ⟨true, [], [(8, ⟨[1, 5], [32], []⟩), (2, ⟨[1, 3], [32], []⟩)], false, false⟩
def h55 : Hints := ⟨true, [], [(3, ⟨[0, 3, 4], [224], []⟩)], false, false⟩
def h56 : Hints := ⟨true, [], [(3, ⟨[0, 3, 4], [224], []⟩)], false, false⟩
def h57 : Hints := ⟨true, [], [(3, ⟨[0, 3, 4], [224], []⟩)], false, false⟩
def h58 : Hints := ⟨true, [], [(3, ⟨[0, 3, 4], [224], []⟩)], false, false⟩
def h59 : Hints := ⟨true, [], [(3, ⟨[0, 3, 4], [224], []⟩)], false, false⟩
def h60 : Hints := ⟨true, [], [(8, ⟨[1, 43, 44, 45], [32], []⟩), (2, ⟨[1, 8, 9, 10], [32], []⟩)], false, false⟩
def h62 : Hints := ⟨true, [], [(4, ⟨[0, 1, 5], [], []⟩)], false, false⟩
def h63 : Hints := ⟨true, [], [(4, ⟨[0, 1, 5], [], []⟩)], false, false⟩
def h64 : Hints := ⟨true, [], [(2, ⟨[0, 1, 5], [100000], []⟩)], true, true⟩
def h65 : Hints := ⟨true, [], [(2, ⟨[0, 1, 5], [100000], []⟩)], true, true⟩
def h66 : Hints := ⟨true, [], [(3, ⟨[2, 3, 4, 5, 6], [64, 96, 128, 160, 60048, 60049], [(some 160, 1, 60048, 143), (some 160, 0, 60049, 139)]⟩)], false, false⟩
def h67 : Hints := ⟨true, [], [(3, ⟨[2, 3, 4, 5, 6], [64, 96, 128, 160, 60048, 60049], [(some 160, 0, 60048, 139), (some 160, 1, 60049, 143)]⟩)], false, false⟩
def h68 : Hints := ⟨true, [], [(2, ⟨[0, 1, 5], [], []⟩)], false, false⟩
def h69 : Hints := ⟨true, [], [(2, ⟨[0, 1, 5], [], []⟩)], false, false⟩
def h70 : Hints := ⟨true, [], [], false, false⟩
def h71 : Hints := ⟨true, [], [], false, false⟩
def h76 : Hints := ⟨true, [], [(5, ⟨[1, 2, 3, 4], [32, 64, 96, 60080], [(some 96, 0, 60080, 3)]⟩)], false, false⟩
def h78 : Hints := ⟨true, [], [(13, ⟨[1, 4], [32], []⟩), (6, ⟨[1, 3], [32], []⟩)], false, false⟩
def h79 : Hints := ⟨true, [], [(5, ⟨[1, 2, 3, 4], [32, 64, 96, 60080], [(some 96, 0, 60080, 3)]⟩)], false, false⟩
def h81 : Hints := ⟨true, [], [], false, false⟩
def h82 : Hints := ⟨true, [], [], false, false⟩
def h83 : Hints := ⟨true, [], [], false, false⟩
def h84 : Hints := ⟨true, [], [], false, false⟩
def h85 : Hints := ⟨true, [], [], false, false⟩
def h86 : Hints := ⟨true, [], [(2, ⟨[0, 1, 5], [100000], []⟩)], true, true⟩
def h87 : Hints := ⟨true, [], [(2, ⟨[0, 1, 5], [100000], []⟩)], true, true⟩
def h88 : Hints := ⟨true, [], [(2, ⟨[0, 1, 5], [100000], []⟩)], true, true⟩
def h89 : Hints := ⟨true, [], [(2, ⟨[0, 1, 5], [100000], []⟩)], true, true⟩
def h90 : Hints := ⟨true, [], [(2, ⟨[0, 1, 5], [100000], []⟩)], true, true⟩
def h96 : Hints := ⟨true, [], [], false, false⟩
def h97 : Hints := ⟨true, [], [], false, false⟩
def h98 : Hints := ⟨true, [], [], false, false⟩
def h99 : Hints := ⟨true, [], [], false, false⟩
def h100 : Hints := ⟨true, [], [], false, false⟩
def h101 : Hints := ⟨true, [], [], false, false⟩
def h102 : Hints := ⟨true, [], [(2, ⟨[1, 2, 5], [64], []⟩)], false, false⟩
def h104 : Hints := ⟨true, [], [], false, false⟩
def h105 : Hints := ⟨true, [], [], false, false⟩
def h106 : Hints := ⟨true, [], [], false, false⟩
def h107 : Hints := ⟨true, [], [], false, false⟩
def h108 : Hints := ⟨true, [], [], false, false⟩
def h109 : Hints := ⟨true, [], [], false, false⟩
def h110 : Hints := ⟨true, [], [], false, false⟩
def h111 : Hints := ⟨true, [], [(2, ⟨[1, 8, 9, 10], [], []⟩)], false, false⟩
def h114 : Hints := ⟨true, [], [], false, false⟩
def h115 : Hints := ⟨true, [], [], false, false⟩
def h116 : Hints := ⟨true, [], [(4, ⟨[0, 3], [], []⟩)], false, false⟩
def h117 : Hints := ⟨true, [], [], false, false⟩
def h118 : Hints := ⟨true, [], [(2, ⟨[1, 2, 4, 6], [64, 128], []⟩)], false, false⟩
def h119 : Hints := ⟨true, [], [(3, ⟨[2, 3, 5, 6], [64, 96, 864], []⟩)], false, false⟩
def h120 : Hints := ⟨true, [], [(2, ⟨[1, 4, 9, 10, 11], [128], []⟩)], false, false⟩
def h121 : Hints := ⟨true, [], [], false, false⟩
def h128 : Hints := ⟨true, [], [], false, false⟩
def h129 : Hints := ⟨true, [], [(3, ⟨[0, 3, 4], [60048], [(none, 3, 60048, 5)]⟩)], false, false⟩
def h130 : Hints := ⟨true, [], [], false, false⟩
def h131 : Hints := ⟨true, [], [(4, ⟨[1, 3], [32], []⟩)], false, false⟩
def h132 : Hints := ⟨true, [], [(4, ⟨[0, 1, 5], [], []⟩)], false, false⟩
def h133 : Hints := ⟨true, [], [], false, false⟩
def h134 : Hints := ⟨true, [], [(9, ⟨[0, 1, 5, 6], [], []⟩), (4, ⟨[0, 1, 5], [], []⟩)], false, false⟩
def h135 : Hints := ⟨true, [], [(10, ⟨[1, 3, 4, 5, 32, 33, 34, 35, 36, 39, 40, 41, 42, 45, 46, 47, 48, 49, 50], [32, 128], []⟩), (4, ⟨[1, 3], [32], []⟩)], false, false⟩
def h136 : Hints := ⟨true, [], [], false, false⟩
def h137 : Hints := ⟨true, [], [(3, ⟨[3, 7, 8, 9], [60048], [(none, 3, 60048, 5)]⟩)], false, false⟩
def h138 : Hints := ⟨true, [], [], false, false⟩
def h139 : Hints := ⟨true, [], [], false, false⟩
def h140 : Hints := ⟨true, [], [(2, ⟨[1, 6, 7, 8], [32], []⟩)], false, false⟩
def h141 : Hints := ⟨true, [], [(2, ⟨[0, 1, 7, 8, 9], [], []⟩)], false, false⟩
def h142 : Hints := ⟨true, [], [(5, ⟨[0, 3, 4], [], []⟩)], false, false⟩
def h143 : Hints := ⟨true, [], [(5, ⟨[0, 1, 6, 9, 10, 11, 15, 16, 17], [], []⟩), (2, ⟨[0, 1, 9, 10, 11], [], []⟩)], false, false⟩
def h144 : Hints := ⟨true, [], [(2, ⟨[1, 6, 7, 8], [32], []⟩)], false, false⟩
def h145 : Hints := ⟨true, [], [(2, ⟨[1, 6, 7, 8], [32], []⟩)], false, false⟩
def h146 : Hints := ⟨true, [], [], false, false⟩
def h147 : Hints := ⟨true, [], [], false, false⟩
def h148 : Hints := ⟨true, [], [(4, ⟨[0, 1, 5], [], []⟩)], false, false⟩
def h149 : Hints := ⟨true, [], [(4, ⟨[0, 1, 5], [], []⟩)], false, false⟩
def h150 : Hints := ⟨true, [], [(4, ⟨[0, 1, 5], [], []⟩)], false, false⟩
def h151 : Hints := ⟨true, [], [(4, ⟨[0, 1, 5], [], []⟩)], false, false⟩
def h152 : Hints := ⟨true, [], [], false, false⟩
def h153 : Hints := ⟨true, [], [], false, false⟩
def h154 : Hints := ⟨true, [], [], false, false⟩
def h155 : Hints := ⟨true, [], [(5, ⟨[0, 1, 5], [], []⟩)], false, false⟩
def h156 : Hints := ⟨true, [], [], false, false⟩
def h157 : Hints := ⟨true, [], [], false, false⟩
def h158 : Hints := ⟨true, [], [], false, false⟩
def h159 : Hints := ⟨true, [], [], false, false⟩
def h160 : Hints := ⟨true, [], [], false, false⟩
def h161 : Hints := ⟨true, [], [], false, false⟩
def h162 : Hints := ⟨true, [], [(3, ⟨[0, 3, 4], [224], []⟩)], false, false⟩
def h163 : Hints := ⟨true, [], [(3, ⟨[0, 3, 4], [224], []⟩)], false, false⟩
def h164 : Hints := ⟨true, [], [(3, ⟨[0, 3, 4], [224], []⟩)], false, false⟩
def h165 : Hints := ⟨true, [], [(3, ⟨[0, 3, 4], [224], []⟩)], false, false⟩
def h166 : Hints := ⟨true, [], [], false, false⟩
def h169 : Hints := ⟨true, [], [], false, false⟩
def h170 : Hints := ⟨true, [], [], false, false⟩
def h171 : Hints := ⟨true, [], [], false, false⟩
def h172 : Hints := ⟨true, [], [], false, false⟩
def h180 : Hints := ⟨true, [], [(3, ⟨[3, 7, 8, 9], [60048], [(none, 3, 60048, 5)]⟩)], false, false⟩
def h181 : Hints := ⟨true, [], [(7, ⟨[0, 3, 4, 5], [], []⟩), (3, ⟨[0, 3, 4], [], []⟩)], false, false⟩
def h182 : Hints := ⟨true, [], [(8, ⟨[1, 3, 4, 5, 6, 7], [32, 160, 1280, 60128], [(none, 3, 60128, 5)]⟩), (14, ⟨[1, 3, 8], [32, 60224], [(none, 3, 60224, 5)]⟩), (3, ⟨[1, 3, 4], [32, 60048], [(none, 3, 60048, 5)]⟩)], false, false⟩
def h183 : Hints := ⟨true, [], [(8, ⟨[1, 2, 4, 5, 7], [64, 128, 160, 60048, 60128], [(some 160, 1, 60128, 143)]⟩), (3, ⟨[1, 2, 4, 5, 6], [64, 128, 160, 60048], [(some 160, 0, 60048, 139)]⟩)], false, false⟩
def h184 : Hints := ⟨true, [], [(4, ⟨[0, 3], [60064], [(none, 3, 60064, 5)]⟩)], false, false⟩
def h185 : Hints := ⟨true, [], [(4, ⟨[0, 1, 5], [], []⟩)], false, false⟩
def h186 : Hints := ⟨true, [], [(7, ⟨[3, 7, 8, 9, 17], [], []⟩), (3, ⟨[3, 7, 8, 9], [], []⟩)], false, false⟩
def h187 : Hints := ⟨true, [], [(12, ⟨[3, 55, 56, 57], [60192], [(none, 3, 60192, 5)]⟩), (5, ⟨[1, 3, 17, 18, 19], [32, 60080], [(none, 3, 60080, 5)]⟩)], false, false⟩
def h188 : Hints := ⟨true, [], [(11, ⟨[1, 4, 5, 35, 36, 37], [128, 160, 60080, 60176], [(some 160, 1, 60176, 143)]⟩), (5, ⟨[1, 2, 4, 5, 16, 17, 18], [64, 128, 160, 60080], [(some 160, 0, 60080, 139)]⟩)], false, false⟩
def h189 : Hints := ⟨true, [], [(4, ⟨[0, 3], [60064], [(none, 3, 60064, 5)]⟩)], false, false⟩
def h190 : Hints := ⟨true, [], [(4, ⟨[0, 1, 12, 13], [], []⟩)], false, false⟩
def h191 : Hints := ⟨true, [], [], false, false⟩
def h192 : Hints := ⟨true, [], [(2, ⟨[1, 2, 10, 11, 12], [], []⟩)], false, false⟩
def h193 : Hints := ⟨true, [], [(4, ⟨[0, 1, 5], [], []⟩)], false, false⟩
def h194 : Hints := ⟨true, [], [], false, false⟩
def h195 : Hints := ⟨true, [], [], false, false⟩
def h196 : Hints := ⟨true, [], [(5, ⟨[0, 1, 5], [], []⟩)], false, false⟩
def h197 : Hints := ⟨true, [], [(3, ⟨[0, 3, 4], [224], []⟩)], false, false⟩
def h198 : Hints := ⟨true, [], [], false, false⟩
def h199 : Hints := ⟨true, [], [], false, false⟩
def h200 : Hints := ⟨true, [], [(3, ⟨[3, 6, 7, 8], [], []⟩)], false, false⟩
def h201 : Hints := ⟨true, [], [], false, false⟩
def h202 : Hints := ⟨true, [], [], false, false⟩
def h203 : Hints := ⟨true, [], [], false, false⟩
def h204 : Hints := ⟨true, [], [(2, ⟨[0, 1, 5], [], []⟩)], false, false⟩
def h205 : Hints := ⟨true, [], [], false, false⟩
def h206 : Hints := ⟨true, [], [], false, false⟩
def h207 : Hints := ⟨true, [], [], false, false⟩
def h208 : Hints := ⟨true, [], [], false, false⟩
def h209 : Hints := ⟨true, [], [], false, false⟩
def h211 : Hints := ⟨true, [], [(2, ⟨[0, 1, 7, 8], [], []⟩)], false, false⟩
set_option maxRecDepth 100000 in
noncomputable def fnTab : List (Nat × Func) := [(7, Tryz.f7), (11, Tryz.f11), (12, Tryz.f12), (14, Tryz.f14), (15, Tryz.f15), (17, Tryz.f17), (18, Tryz.f18), (20, Tryz.f20), (21, Tryz.f21), (22, Tryz.f22), (23, Tryz.f23), (27, Tryz.f27), (29, Tryz.f29), (31, Tryz.f31), (32, Tryz.f32), (36, Tryz.f36), (38, Tryz.f38), (39, Tryz.f39), (40, Tryz.f40), (41, Tryz.f41), (42, Tryz.f42), (43, Tryz.f43), (44, Tryz.f44), (48, Tryz.f48), (49, Tryz.f49), (50, Tryz.f50), (51, Tryz.f51), (52, Tryz.f52), (53, Tryz.f53), (55, Tryz.f55), (56, Tryz.f56), (57, Tryz.f57), (58, Tryz.f58), (59, Tryz.f59), (60, Tryz.f60), (62, Tryz.f62), (63, Tryz.f63), (64, Tryz.f64), (65, Tryz.f65), (66, Tryz.f66), (67, Tryz.f67), (68, Tryz.f68), (69, Tryz.f69), (70, Tryz.f70), (71, Tryz.f71), (76, Tryz.f76), (78, Tryz.f78), (79, Tryz.f79), (81, Tryz.f81), (82, Tryz.f82), (83, Tryz.f83), (84, Tryz.f84), (85, Tryz.f85), (86, Tryz.f86), (87, Tryz.f87), (88, Tryz.f88), (89, Tryz.f89), (90, Tryz.f90), (96, Tryz.f96), (97, Tryz.f97), (98, Tryz.f98), (99, Tryz.f99), (100, Tryz.f100), (101, Tryz.f101), (102, Tryz.f102), (104, Tryz.f104), (105, Tryz.f105), (106, Tryz.f106), (107, Tryz.f107), (108, Tryz.f108), (109, Tryz.f109), (110, Tryz.f110), (111, Tryz.f111), (114, Tryz.f114), (115, Tryz.f115), (116, Tryz.f116), (117, Tryz.f117), (118, Tryz.f118), (119, Tryz.f119), (120, Tryz.f120), (121, Tryz.f121), (128, Tryz.f128), (129, Tryz.f129), (130, Tryz.f130), (131, Tryz.f131), (132, Tryz.f132), (133, Tryz.f133), (134, Tryz.f134), (135, Tryz.f135), (136, Tryz.f136), (137, Tryz.f137), (138, Tryz.f138), (139, Tryz.f139), (140, Tryz.f140), (141, Tryz.f141), (142, Tryz.f142), (143, Tryz.f143), (144, Tryz.f144), (145, Tryz.f145), (146, Tryz.f146), (147, Tryz.f147), (148, Tryz.f148), (149, Tryz.f149), (150, Tryz.f150), (151, Tryz.f151), (152, Tryz.f152), (153, Tryz.f153), (154, Tryz.f154), (155, Tryz.f155), (156, Tryz.f156), (157, Tryz.f157), (158, Tryz.f158), (159, Tryz.f159), (160, Tryz.f160), (161, Tryz.f161), (162, Tryz.f162), (163, Tryz.f163), (164, Tryz.f164), (165, Tryz.f165), (166, Tryz.f166), (169, Tryz.f169), (170, Tryz.f170), (171, Tryz.f171), (172, Tryz.f172), (180, Tryz.f180), (181, Tryz.f181), (182, Tryz.f182), (183, Tryz.f183), (184, Tryz.f184), (185, Tryz.f185), (186, Tryz.f186), (187, Tryz.f187), (188, Tryz.f188), (189, Tryz.f189), (190, Tryz.f190), (191, Tryz.f191), (192, Tryz.f192), (193, Tryz.f193), (194, Tryz.f194), (195, Tryz.f195), (196, Tryz.f196), (197, Tryz.f197), (198, Tryz.f198), (199, Tryz.f199), (200, Tryz.f200), (201, Tryz.f201), (202, Tryz.f202), (203, Tryz.f203), (204, Tryz.f204), (205, Tryz.f205), (206, Tryz.f206), (207, Tryz.f207), (208, Tryz.f208), (209, Tryz.f209), (211, Tryz.f211)]
set_option maxRecDepth 100000 in
noncomputable def htab : List (Nat × List (Nat × Norm)) := [(7, h7.loops), (11, h11.loops), (12, h12.loops), (14, h14.loops), (15, h15.loops), (17, h17.loops), (18, h18.loops), (20, h20.loops), (21, h21.loops), (22, h22.loops), (23, h23.loops), (27, h27.loops), (29, h29.loops), (31, h31.loops), (32, h32.loops), (36, h36.loops), (38, h38.loops), (39, h39.loops), (40, h40.loops), (41, h41.loops), (42, h42.loops), (43, h43.loops), (44, h44.loops), (48, h48.loops), (49, h49.loops), (50, h50.loops), (51, h51.loops), (52, h52.loops), (53, h53.loops), (55, h55.loops), (56, h56.loops), (57, h57.loops), (58, h58.loops), (59, h59.loops), (60, h60.loops), (62, h62.loops), (63, h63.loops), (64, h64.loops), (65, h65.loops), (66, h66.loops), (67, h67.loops), (68, h68.loops), (69, h69.loops), (70, h70.loops), (71, h71.loops), (76, h76.loops), (78, h78.loops), (79, h79.loops), (81, h81.loops), (82, h82.loops), (83, h83.loops), (84, h84.loops), (85, h85.loops), (86, h86.loops), (87, h87.loops), (88, h88.loops), (89, h89.loops), (90, h90.loops), (96, h96.loops), (97, h97.loops), (98, h98.loops), (99, h99.loops), (100, h100.loops), (101, h101.loops), (102, h102.loops), (104, h104.loops), (105, h105.loops), (106, h106.loops), (107, h107.loops), (108, h108.loops), (109, h109.loops), (110, h110.loops), (111, h111.loops), (114, h114.loops), (115, h115.loops), (116, h116.loops), (117, h117.loops), (118, h118.loops), (119, h119.loops), (120, h120.loops), (121, h121.loops), (128, h128.loops), (129, h129.loops), (130, h130.loops), (131, h131.loops), (132, h132.loops), (133, h133.loops), (134, h134.loops), (135, h135.loops), (136, h136.loops), (137, h137.loops), (138, h138.loops), (139, h139.loops), (140, h140.loops), (141, h141.loops), (142, h142.loops), (143, h143.loops), (144, h144.loops), (145, h145.loops), (146, h146.loops), (147, h147.loops), (148, h148.loops), (149, h149.loops), (150, h150.loops), (151, h151.loops), (152, h152.loops), (153, h153.loops), (154, h154.loops), (155, h155.loops), (156, h156.loops), (157, h157.loops), (158, h158.loops), (159, h159.loops), (160, h160.loops), (161, h161.loops), (162, h162.loops), (163, h163.loops), (164, h164.loops), (165, h165.loops), (166, h166.loops), (169, h169.loops), (170, h170.loops), (171, h171.loops), (172, h172.loops), (180, h180.loops), (181, h181.loops), (182, h182.loops), (183, h183.loops), (184, h184.loops), (185, h185.loops), (186, h186.loops), (187, h187.loops), (188, h188.loops), (189, h189.loops), (190, h190.loops), (191, h191.loops), (192, h192.loops), (193, h193.loops), (194, h194.loops), (195, h195.loops), (196, h196.loops), (197, h197.loops), (198, h198.loops), (199, h199.loops), (200, h200.loops), (201, h201.loops), (202, h202.loops), (203, h203.loops), (204, h204.loops), (205, h205.loops), (206, h206.loops), (207, h207.loops), (208, h208.loops), (209, h209.loops), (211, h211.loops)]
def ownTab : List (Nat × (List Abs.Arg → Option Out)) := [(202, cmpF)]
noncomputable def p : Prg := { ti := ti, fn := fun g => look? g fnTab, hint := fun g => ⟨true, [], (look? g htab).getD [], memN g pinL, memN g ownL⟩, own := fun g => look? g ownTab }
set_option maxRecDepth 100000 in
theorem rts_eq : p.rts = rts := by
  funext g
  unfold Prg.rts rts p
  rw [look_map]; rfl
theorem ran_of {g : Nat} {fn : Func} {nt : Nat} {h : Hints} {lvl : Nat} {xs : List Abs.Arg} {out : Out} (ho : p.own g = none) (hf : p.fn g = some fn) (hn : fn.ntmps = nt) (hh : p.hint g = h)
    (H : ∀ n, lvl ≤ n → Ev (fun fuel => frun (E1 (arun p n) nt h) rts fuel fn xs) out) : Ran p (lvl + 1) g xs out := by
  subst hn; subst hh
  refine Ran.of ho hf fun n hl => ?_
  rw [rts_eq]
  exact (H n hl).get
set_option maxRecDepth 100000 in
theorem fnTab_ok : ∀ q ∈ fnTab, FnOk Tryz.prog q.1 q.2 := all_of (⟨⟨Tryz.func7, by kernel_rfl, by kernel_rfl⟩, ⟨⟨Tryz.func11, by kernel_rfl, by kernel_rfl⟩, ⟨⟨Tryz.func12, by kernel_rfl, by kernel_rfl⟩, ⟨⟨Tryz.func14, by kernel_rfl, by kernel_rfl⟩, ⟨⟨Tryz.func15, by kernel_rfl, by kernel_rfl⟩, ⟨⟨Tryz.func17, by kernel_rfl, by kernel_rfl⟩, ⟨⟨Tryz.func18, by kernel_rfl, by kernel_rfl⟩, ⟨⟨Tryz.func20, by kernel_rfl, by kernel_rfl⟩, ⟨⟨Tryz.func21, by kernel_rfl, by kernel_rfl⟩, ⟨⟨Tryz.func22, by kernel_rfl, by kernel_rfl⟩, ⟨⟨Tryz.func23, by kernel_rfl, by kernel_rfl⟩, ⟨⟨Tryz.func27, by kernel_rfl, by kernel_rfl⟩, ⟨⟨Tryz.func29, by kernel_rfl, by kernel_rfl⟩, ⟨⟨Tryz.func31, by kernel_rfl, by kernel_rfl⟩, ⟨⟨Tryz.func32, by kernel_rfl, by kernel_rfl⟩, ⟨⟨Tryz.func36, by kernel_rfl, by kernel_rfl⟩, ⟨⟨Tryz.func38, by kernel_rfl, by kernel_rfl⟩, ⟨⟨Tryz.func39, by kernel_rfl, by kernel_rfl⟩, ⟨⟨Tryz.func40, by kernel_rfl, by kernel_rfl⟩, ⟨⟨Tryz.func41, by kernel_rfl, by kernel_rfl⟩, ⟨⟨Tryz.func42, by kernel_rfl, by kernel_rfl⟩, ⟨⟨Tryz.func43, by kernel_rfl, by kernel_rfl⟩, ⟨⟨Tryz.func44, by kernel_rfl, by kernel_rfl⟩, ⟨⟨Tryz.func48, by kernel_rfl, by kernel_rfl⟩, ⟨⟨Tryz.func49, by kernel_rfl, by kernel_rfl⟩, ⟨⟨Tryz.func50, by kernel_rfl, by kernel_rfl⟩, ⟨⟨Tryz.func51, by kernel_rfl, by kernel_rfl⟩, ⟨⟨Tryz.func52, by kernel_rfl, by kernel_rfl⟩, ⟨⟨Tryz.func53, by kernel_rfl, by kernel_rfl⟩, ⟨⟨Tryz.func55, by kernel_rfl, by kernel_rfl⟩, ⟨⟨Tryz.func56, by kernel_rfl, by kernel_rfl⟩, ⟨⟨Tryz.func57, by kernel_rfl, by kernel_rfl⟩, ⟨⟨Tryz.func58, by kernel_rfl, by kernel_rfl⟩, ⟨⟨Tryz.func59, by kernel_rfl, by kernel_rfl⟩, ⟨⟨Tryz.func60, by kernel_rfl, by kernel_rfl⟩, ⟨⟨Tryz.func62, by kernel_rfl, by kernel_rfl⟩, ⟨⟨Tryz.func63, by kernel_rfl, by kernel_rfl⟩, ⟨⟨Tryz.func64, by kernel_rfl, by kernel_rfl⟩, ⟨⟨Tryz.func65, by kernel_rfl, by kernel_rfl⟩, ⟨⟨Tryz.func66, by kernel_rfl, by kernel_rfl⟩, ⟨⟨Tryz.func67, by kernel_rfl, by kernel_rfl⟩, ⟨⟨Tryz.func68, by kernel_rfl, by kernel_rfl⟩, ⟨⟨Tryz.func69, by kernel_rfl, by kernel_rfl⟩, ⟨⟨Tryz.func70, by kernel_rfl, by kernel_rfl⟩, ⟨⟨Tryz.func71, by kernel_rfl, by kernel_rfl⟩, ⟨⟨Tryz.func76, by kernel_rfl, by kernel_rfl⟩, ⟨⟨Tryz.func78, by kernel_rfl, by kernel_rfl⟩, ⟨⟨Tryz.func79, by kernel_rfl, by kernel_rfl⟩, ⟨⟨Tryz.func81, by kernel_rfl, by kernel_rfl⟩, ⟨⟨Tryz.func82, by kernel_rfl, by kernel_rfl⟩, ⟨⟨Tryz.func83, by kernel_rfl, by kernel_rfl⟩, ⟨⟨Tryz.func84, by kernel_rfl, by kernel_rfl⟩, ⟨⟨Tryz.func85, by kernel_rfl, by kernel_rfl⟩, ⟨⟨Tryz.func86, by kernel_rfl, by kernel_rfl⟩, ⟨⟨Tryz.func87, by kernel_rfl, by kernel_rfl⟩, ⟨⟨Tryz.func88, by kernel_rfl, by kernel_rfl⟩, ⟨⟨Tryz.func89, by kernel_rfl, by kernel_rfl⟩, ⟨⟨Tryz.func90, by kernel_rfl, by kernel_rfl⟩, ⟨⟨Tryz.func96, by kernel_rfl, by kernel_rfl⟩, ⟨⟨Tryz.func97, by kernel_rfl, by kernel_rfl⟩, ⟨⟨Tryz.func98, by kernel_rfl, by kernel_rfl⟩, ⟨⟨Tryz.func99, by kernel_rfl, by kernel_rfl⟩, ⟨⟨Tryz.func100, by kernel_rfl, by kernel_rfl⟩, ⟨⟨Tryz.func101, by kernel_rfl, by kernel_rfl⟩, ⟨⟨Tryz.func102, by kernel_rfl, by kernel_rfl⟩, ⟨⟨Tryz.func104, by kernel_rfl, by kernel_rfl⟩, ⟨⟨Tryz.func105, by kernel_rfl, by kernel_rfl⟩, ⟨⟨Tryz.func106, by kernel_rfl, by kernel_rfl⟩, ⟨⟨Tryz.func107, by kernel_rfl, by kernel_rfl⟩, ⟨⟨Tryz.func108, by kernel_rfl, by kernel_rfl⟩, ⟨⟨Tryz.func109, by kernel_rfl, by kernel_rfl⟩, ⟨⟨Tryz.func110, by kernel_rfl, by kernel_rfl⟩, ⟨⟨Tryz.func111, by kernel_rfl, by kernel_rfl⟩, ⟨⟨Tryz.func114, by kernel_rfl, by kernel_rfl⟩, ⟨⟨Tryz.func115, by kernel_rfl, by kernel_rfl⟩, ⟨⟨Tryz.func116, by kernel_rfl, by kernel_rfl⟩, ⟨⟨Tryz.func117, by kernel_rfl, by kernel_rfl⟩, ⟨⟨Tryz.func118, by kernel_rfl, by kernel_rfl⟩, ⟨⟨Tryz.func119, by kernel_rfl, by kernel_rfl⟩, ⟨⟨Tryz.func120, by kernel_rfl, by kernel_rfl⟩, ⟨⟨Tryz.func121, by kernel_rfl, by kernel_rfl⟩, ⟨⟨Tryz.func128, by kernel_rfl, by kernel_rfl⟩, ⟨⟨Tryz.func129, by kernel_rfl, by kernel_rfl⟩, ⟨⟨Tryz.func130, by kernel_rfl, by kernel_rfl⟩, ⟨⟨Tryz.func131, by kernel_rfl, by kernel_rfl⟩, ⟨⟨Tryz.func132, by kernel_rfl, by kernel_rfl⟩, ⟨⟨Tryz.func133, by kernel_rfl, by kernel_rfl⟩, ⟨⟨Tryz.func134, by kernel_rfl, by kernel_rfl⟩, ⟨⟨Tryz.func135, by kernel_rfl, by kernel_rfl⟩, ⟨⟨Tryz.func136, by kernel_rfl, by kernel_rfl⟩, ⟨⟨Tryz.func137, by kernel_rfl, by kernel_rfl⟩, ⟨⟨Tryz.func138, by kernel_rfl, by kernel_rfl⟩, ⟨⟨Tryz.func139, by kernel_rfl, by kernel_rfl⟩, ⟨⟨Tryz.func140, by kernel_rfl, by kernel_rfl⟩, ⟨⟨Tryz.func141, by kernel_rfl, by kernel_rfl⟩, ⟨⟨Tryz.func142, by kernel_rfl, by kernel_rfl⟩, ⟨⟨Tryz.func143, by kernel_rfl, by kernel_rfl⟩, ⟨⟨Tryz.func144, by kernel_rfl, by kernel_rfl⟩, ⟨⟨Tryz.func145, by kernel_rfl, by kernel_rfl⟩, ⟨⟨Tryz.func146, by kernel_rfl, by kernel_rfl⟩, ⟨⟨Tryz.func147, by kernel_rfl, by kernel_rfl⟩, ⟨⟨Tryz.func148, by kernel_rfl, by kernel_rfl⟩, ⟨⟨Tryz.func149, by kernel_rfl, by kernel_rfl⟩, ⟨⟨Tryz.func150, by kernel_rfl, by kernel_rfl⟩, ⟨⟨Tryz.func151, by kernel_rfl, by kernel_rfl⟩, ⟨⟨Tryz.func152, by kernel_rfl, by kernel_rfl⟩, ⟨⟨Tryz.func153, by kernel_rfl, by kernel_rfl⟩, ⟨⟨Tryz.func154, by kernel_rfl, by kernel_rfl⟩, ⟨⟨Tryz.func155, by kernel_rfl, by kernel_rfl⟩, ⟨⟨Tryz.func156, by kernel_rfl, by kernel_rfl⟩, ⟨⟨Tryz.func157, by kernel_rfl, by kernel_rfl⟩, ⟨⟨Tryz.func158, by kernel_rfl, by kernel_rfl⟩, ⟨⟨Tryz.func159, by kernel_rfl, by kernel_rfl⟩, ⟨⟨Tryz.func160, by kernel_rfl, by kernel_rfl⟩, ⟨⟨Tryz.func161, by kernel_rfl, by kernel_rfl⟩, ⟨⟨Tryz.func162, by kernel_rfl, by kernel_rfl⟩, ⟨⟨Tryz.func163, by kernel_rfl, by kernel_rfl⟩, ⟨⟨Tryz.func164, by kernel_rfl, by kernel_rfl⟩, ⟨⟨Tryz.func165, by kernel_rfl, by kernel_rfl⟩, ⟨⟨Tryz.func166, by kernel_rfl, by kernel_rfl⟩, ⟨⟨Tryz.func169, by kernel_rfl, by kernel_rfl⟩, ⟨⟨Tryz.func170, by kernel_rfl, by kernel_rfl⟩, ⟨⟨Tryz.func171, by kernel_rfl, by kernel_rfl⟩, ⟨⟨Tryz.func172, by kernel_rfl, by kernel_rfl⟩, ⟨⟨Tryz.func180, by kernel_rfl, by kernel_rfl⟩, ⟨⟨Tryz.func181, by kernel_rfl, by kernel_rfl⟩, ⟨⟨Tryz.func182, by kernel_rfl, by kernel_rfl⟩, ⟨⟨Tryz.func183, by kernel_rfl, by kernel_rfl⟩, ⟨⟨Tryz.func184, by kernel_rfl, by kernel_rfl⟩, ⟨⟨Tryz.func185, by kernel_rfl, by kernel_rfl⟩, ⟨⟨Tryz.func186, by kernel_rfl, by kernel_rfl⟩, ⟨⟨Tryz.func187, by kernel_rfl, by kernel_rfl⟩, ⟨⟨Tryz.func188, by kernel_rfl, by kernel_rfl⟩, ⟨⟨Tryz.func189, by kernel_rfl, by kernel_rfl⟩, ⟨⟨Tryz.func190, by kernel_rfl, by kernel_rfl⟩, ⟨⟨Tryz.func191, by kernel_rfl, by kernel_rfl⟩, ⟨⟨Tryz.func192, by kernel_rfl, by kernel_rfl⟩, ⟨⟨Tryz.func193, by kernel_rfl, by kernel_rfl⟩, ⟨⟨Tryz.func194, by kernel_rfl, by kernel_rfl⟩, ⟨⟨Tryz.func195, by kernel_rfl, by kernel_rfl⟩, ⟨⟨Tryz.func196, by kernel_rfl, by kernel_rfl⟩, ⟨⟨Tryz.func197, by kernel_rfl, by kernel_rfl⟩, ⟨⟨Tryz.func198, by kernel_rfl, by kernel_rfl⟩, ⟨⟨Tryz.func199, by kernel_rfl, by kernel_rfl⟩, ⟨⟨Tryz.func200, by kernel_rfl, by kernel_rfl⟩, ⟨⟨Tryz.func201, by kernel_rfl, by kernel_rfl⟩, ⟨⟨Tryz.func202, by kernel_rfl, by kernel_rfl⟩, ⟨⟨Tryz.func203, by kernel_rfl, by kernel_rfl⟩, ⟨⟨Tryz.func204, by kernel_rfl, by kernel_rfl⟩, ⟨⟨Tryz.func205, by kernel_rfl, by kernel_rfl⟩, ⟨⟨Tryz.func206, by kernel_rfl, by kernel_rfl⟩, ⟨⟨Tryz.func207, by kernel_rfl, by kernel_rfl⟩, ⟨⟨Tryz.func208, by kernel_rfl, by kernel_rfl⟩, ⟨⟨Tryz.func209, by kernel_rfl, by kernel_rfl⟩, ⟨⟨Tryz.func211, by kernel_rfl, by kernel_rfl⟩, trivial⟩⟩⟩⟩⟩⟩⟩⟩⟩⟩⟩⟩⟩⟩⟩⟩⟩⟩⟩⟩⟩⟩⟩⟩⟩⟩⟩⟩⟩⟩⟩⟩⟩⟩⟩⟩⟩⟩⟩⟩⟩⟩⟩⟩⟩⟩⟩⟩⟩⟩⟩⟩⟩⟩⟩⟩⟩⟩⟩⟩⟩⟩⟩⟩⟩⟩⟩⟩⟩⟩⟩⟩⟩⟩⟩⟩⟩⟩⟩⟩⟩⟩⟩⟩⟩⟩⟩⟩⟩⟩⟩⟩⟩⟩⟩⟩⟩⟩⟩⟩⟩⟩⟩⟩⟩⟩⟩⟩⟩⟩⟩⟩⟩⟩⟩⟩⟩⟩⟩⟩⟩⟩⟩⟩⟩⟩⟩⟩⟩⟩⟩⟩⟩⟩⟩⟩⟩⟩⟩⟩⟩⟩⟩⟩⟩⟩⟩⟩⟩⟩⟩⟩⟩⟩⟩)
theorem prg_ok : PrgOk Tryz.prog p where
  ti := tabB_ok (by kernel_rfl)
  depth := Nat.le_of_ble_eq_true (by kernel_rfl)
  mixed := by kernel_rfl
  fn := fun g fn h => (fnTab_ok _ (look_mem fnTab h)).out
  own := fun g F h xs out ho => by
    have hm := look_mem ownTab h
    rcases List.mem_singleton.1 hm with e
    cases e
    exact cmpF_fits ⟨Tryz.f202, FnOk.out (P := Tryz.prog) (g := 202) ⟨Tryz.func202, by kernel_rfl, by kernel_rfl⟩⟩ (by kernel_rfl) Tryz.strings_Compare xs out ho
theorem k_ok : KOk p.ti := kindsB_ok (by kernel_rfl)
end Go.Abs.Gz
