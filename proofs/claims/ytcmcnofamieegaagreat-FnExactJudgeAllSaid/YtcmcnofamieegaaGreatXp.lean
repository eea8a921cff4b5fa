/- What the functions of this program answer, part p. -/
import Derived.Test.YtcmcnofamieegaaGreatXz
import Derived.Test.YtcmcnofamieegaaGreatW1
import Derived.KernelRfl
import Derived.Test.YtcmcnofamieegaaGreatW2
import Derived.Test.YtcmcnofamieegaaGreatXt
set_option linter.unusedVariables false
namespace Go.Abs.Vz
open Go Go.Abs Go.Proofs
def rts : Nat → Option (List Nat) := fun g => look? g [(3, [4]), (4, [4]), (5, [4]), (6, [4]), (7, [4]), (8, [4]), (9, [4]), (10, [4]), (11, [4]), (12, [3]), (13, [3]), (14, [33]), (15, [3]), (16, [4]), (17, [4]), (18, [4]), (19, [4]), (20, [4]), (21, [4]), (22, [4]), (23, [4]), (24, [4]), (25, [3]), (26, [4]), (27, [48]), (28, [4]), (29, [4]), (30, [4]), (31, [4]), (32, [4]), (33, [4]), (34, [4]), (35, [4]), (36, [3]), (37, [3]), (38, [3]), (39, [4]), (40, [57, 4]), (41, [3]), (42, [29]), (43, [30]), (44, [31]), (45, [4]), (46, [57, 4]), (47, [4]), (48, [4]), (49, [4]), (50, [3]), (51, [3]), (52, [3]), (53, [45]), (54, [48]), (55, [4]), (56, [48]), (57, [4]), (58, [3]), (59, [4]), (60, [48]), (61, [3]), (62, [4]), (63, [48]), (64, [3]), (65, [3]), (66, [3]), (67, [3]), (68, [4]), (69, [48]), (70, [60]), (71, [45]), (72, [46]), (73, [4]), (74, [48]), (75, [60]), (76, [4]), (77, [4]), (78, [45]), (79, [4]), (80, [4]), (81, [3]), (82, [3]), (83, [3]), (84, [4]), (85, [4]), (86, [57, 4]), (87, [70]), (88, [115]), (89, [117]), (90, [4]), (91, [4]), (92, [4]), (93, [57, 4]), (94, [4]), (95, [4]), (96, [4]), (97, [3]), (98, [48]), (99, [4]), (100, [48]), (101, [4]), (102, [4]), (103, [4]), (104, [48, 4]), (105, [4]), (106, [3]), (107, [4]), (108, [4]), (109, [95]), (110, [80]), (111, [4]), (112, [4]), (113, [4]), (114, [4]), (115, [3]), (116, [3]), (117, [3]), (118, [3]), (119, [3]), (120, [3]), (121, [3]), (122, [4]), (123, [62]), (124, [4]), (125, [4]), (126, [4]), (127, [62]), (128, [65]), (129, [60]), (130, [66]), (131, [67]), (132, [68]), (133, [107]), (134, [4]), (135, [62]), (136, [4]), (137, [3]), (138, [4]), (139, [4]), (140, [4]), (141, [4]), (142, [4]), (143, [4]), (144, [4]), (145, [4]), (146, [4]), (147, [4]), (148, [3]), (149, [3]), (150, [57]), (151, [4]), (152, [3]), (153, [57]), (154, [4]), (155, [3]), (156, [3]), (157, [3]), (158, [63]), (159, [174]), (160, [152]), (161, [3]), (162, [3]), (163, [4]), (164, [3]), (165, [4]), (166, [4]), (167, [4]), (168, [3]), (169, [3]), (170, [3]), (171, [107]), (172, [48]), (173, [107]), (174, [3]), (175, [107]), (176, [48]), (177, [107]), (178, [107]), (179, [3]), (180, [3]), (181, [3]), (182, [107]), (183, [4]), (184, [3]), (185, [107]), (186, [4]), (187, [3]), (188, [4]), (190, [3])]
def E1 (call : Nat → List Abs.Arg → Option Out) (n : Nat) (h : Hints) : Env := { ti := ti, n := n, call := call, fresh := fun _ => true, h := h }
def h3 : Hints := ⟨true, [], []⟩
def h4 : Hints := ⟨true, [], []⟩
def h5 : Hints := ⟨true, [], []⟩
def h6 : Hints := ⟨true, [], []⟩
def h7 : Hints := ⟨true, [], []⟩
def h8 : Hints := ⟨true, [], []⟩
def h9 : Hints := ⟨true, [], []⟩
def h10 : Hints := ⟨true, [], []⟩
def h11 : Hints := ⟨true, [], []⟩
def h12 : Hints := ⟨true, [], []⟩
def h13 : Hints := ⟨true, [], [(5, ⟨[1, 2, 5, 6], [64], []⟩)]⟩
def h14 : Hints := ⟨true, [], []⟩
def h15 : Hints := ⟨true, [], [(5, ⟨[1, 5, 15, 16, 17], [], []⟩)]⟩
def h16 : Hints := ⟨true, [], []⟩
def h17 : Hints := ⟨true, [], [(11, ⟨[1, 3, 4, 5, 6], [32, 160], []⟩), (7, ⟨[1, 3, 4], [32], []⟩), (4, ⟨[1, 3], [32], []⟩)]⟩
def h18 : Hints := ⟨true, [], [(15, ⟨[1, 4, 6, 14, 15, 16, 21, 22, 23, 47, 48, 49], [32, 128, 192], []⟩), (10, ⟨[1, 4, 5, 6, 7, 14, 15, 16, 21, 22, 23], [32, 128, 192], []⟩), (7, ⟨[1, 4, 14, 15, 16, 21, 22, 23], [32, 128], []⟩), (4, ⟨[1, 14, 15, 16], [32], []⟩)]⟩
def h19 : Hints := ⟨true, [], [(5, ⟨[1, 3, 4], [32, 320], []⟩)]⟩
def h20 : Hints := ⟨true, [], [(3, ⟨[1, 3, 9, 10, 11], [32, 96, 224, 225], []⟩)]⟩
def h21 : Hints := ⟨true, [], [(7, ⟨[1, 3, 4], [32], []⟩), (4, ⟨[1, 3], [32], []⟩)]⟩
def h22 : Hints := ⟨true, [], [(7, ⟨[1, 3, 4, 11, 12, 13, 19, 20, 21], [32, 128], []⟩), (4, ⟨[1, 11, 12, 13], [32], []⟩)]⟩
def h23 : Hints := ⟨true, [], [(4, ⟨[1, 3], [32], []⟩)]⟩
def h24 : Hints := ⟨true, [], [(2, ⟨[1, 6, 7, 8], [32], []⟩)]⟩
def h25 : Hints := ⟨true, [], []⟩
def h26 : Hints := ⟨true, [], []⟩
def h27 : Hints := ⟨true, [], []⟩
def h28 : Hints := ⟨true, [], []⟩
def h29 : Hints := ⟨true, [], []⟩
def h30 : Hints := ⟨true, [], [(11, ⟨[2, 3, 5, 6, 7, 8], [64, 96, 192, 224], []⟩), (4, ⟨[2, 3, 5], [64, 96], []⟩)]⟩
def h31 : Hints := ⟨true, [], [(15, ⟨[3, 6, 29, 30, 31, 60, 61, 62], [96, 192, 1920], []⟩), (10, ⟨[3, 6, 7, 8, 29, 30, 31], [96, 192, 224], []⟩), (4, ⟨[3, 29, 30, 31], [96], []⟩)]⟩
def h32 : Hints := ⟨true, [], [(10, ⟨[1, 3, 4, 5], [32, 128], []⟩), (4, ⟨[1, 3], [32], []⟩)]⟩
def h33 : Hints := ⟨true, [], [(9, ⟨[1, 4, 11, 12, 13, 26, 27, 28], [32, 128], []⟩), (4, ⟨[1, 11, 12, 13], [32], []⟩)]⟩
def h34 : Hints := ⟨true, [], []⟩
def h35 : Hints := ⟨true, [], []⟩
def h36 : Hints := ⟨true, [], [(5, ⟨[0, 1, 5], [], []⟩)]⟩
def h37 : Hints := ⟨true, [], [(5, ⟨[0, 1, 5], [], []⟩)]⟩
def h38 : Hints := ⟨true, [], [(5, ⟨[0, 1, 5], [], []⟩)]⟩
def h39 : Hints := ⟨true, [], [(15, ⟨[1, 3, 6], [32], []⟩), (10, ⟨[1, 3, 5], [32], []⟩), (5, ⟨[1, 3, 4], [32], []⟩)]⟩
def h40 : Hints := ⟨true, [], []⟩
def h41 : Hints := ⟨true, [], []⟩
def h42 : Hints := ⟨true, [], [(3, ⟨[0, 3, 4], [224], []⟩)]⟩
def h43 : Hints := ⟨true, [], [(3, ⟨[0, 3, 4], [224], []⟩)]⟩
def h44 : Hints := ⟨true, [], [(3, ⟨[0, 3, 4], [224], []⟩)]⟩
def h45 : Hints := ⟨true, [], [(16, ⟨[1, 66, 67, 68], [32], []⟩), (10, ⟨[1, 53, 54, 55], [32], []⟩), (4, ⟨[1, 27, 28, 29], [32], []⟩)]⟩
def h46 : Hints := ⟨true, [], []⟩
def h47 : Hints := ⟨true, [], [(4, ⟨[0, 1, 5], [], []⟩)]⟩
def h48 : Hints := ⟨true, [], [(4, ⟨[0, 1, 5], [], []⟩)]⟩
def h49 : Hints := ⟨true, [], [(4, ⟨[0, 1, 5], [], []⟩)]⟩
def h50 : Hints := ⟨true, [], []⟩
def h51 : Hints := ⟨true, [], [(2, ⟨[1, 2, 5], [64], []⟩)]⟩
def h52 : Hints := ⟨true, [], []⟩
def h53 : Hints := ⟨true, [], [(5, ⟨[1, 3, 4], [32, 60080], [(none, 3, 60080, 95)]⟩)]⟩
def h54 : Hints := ⟨true, [], [(5, ⟨[1, 2, 3, 4], [32, 64, 96, 60080, 60081], [(some 96, 0, 60080, 95), (some 96, 1, 60081, 80)]⟩)]⟩
def h55 : Hints := ⟨true, [], []⟩
def h56 : Hints := ⟨true, [], [(5, ⟨[2, 3, 12, 13, 14], [64, 96, 60080, 60081], [(some 96, 0, 60080, 95), (some 96, 1, 60081, 80)]⟩)]⟩
def h57 : Hints := ⟨true, [], []⟩
def h58 : Hints := ⟨true, [], []⟩
def h59 : Hints := ⟨true, [], []⟩
def h60 : Hints := ⟨true, [], [(6, ⟨[1, 2, 3, 6, 7, 8, 9], [96, 192, 224, 60096, 60097], [(some 224, 0, 60096, 95), (some 224, 1, 60097, 80)]⟩)]⟩
def h61 : Hints := ⟨true, [], []⟩
def h62 : Hints := ⟨true, [], []⟩
def h63 : Hints := ⟨true, [], [(6, ⟨[1, 2, 6, 7, 8, 17, 18, 19], [192, 224, 60096, 60097], [(some 224, 0, 60096, 95), (some 224, 1, 60097, 80)]⟩)]⟩
def h64 : Hints := ⟨true, [], [(3, ⟨[1, 2, 5, 6], [64], []⟩)]⟩
def h65 : Hints := ⟨true, [], [(3, ⟨[1, 5, 9, 10, 11], [], []⟩)]⟩
def h66 : Hints := ⟨true, [], [(5, ⟨[0, 1, 5], [], []⟩)]⟩
def h67 : Hints := ⟨true, [], []⟩
def h68 : Hints := ⟨true, [], [(8, ⟨[1, 5], [32], []⟩), (2, ⟨[1, 3], [32], []⟩)]⟩
def h69 : Hints := ⟨true, [], [(5, ⟨[1, 2, 4, 5, 6], [64, 128, 160, 60080, 60081], [(some 160, 0, 60080, 95), (some 160, 1, 60081, 80)]⟩)]⟩
def h70 : Hints := ⟨true, [], [(5, ⟨[2, 3, 5, 6], [64, 96, 60080], [(none, 5, 60080, 3)]⟩)]⟩
def h71 : Hints := ⟨true, [], [(3, ⟨[0, 3, 4], [224], []⟩)]⟩
def h72 : Hints := ⟨true, [], [(3, ⟨[0, 3, 4], [224], []⟩)]⟩
def h73 : Hints := ⟨true, [], [(8, ⟨[1, 43, 44, 45], [32], []⟩), (2, ⟨[1, 8, 9, 10], [32], []⟩)]⟩
def h74 : Hints := ⟨true, [], [(5, ⟨[2, 4, 5, 13, 14, 15], [64, 128, 160, 60080, 60081], [(some 160, 0, 60080, 95), (some 160, 1, 60081, 80)]⟩)]⟩
def h75 : Hints := ⟨true, [], [(5, ⟨[3, 5, 19, 20, 21], [96, 60080], [(none, 5, 60080, 3)]⟩)]⟩
def h76 : Hints := ⟨true, [], [(4, ⟨[0, 1, 5], [], []⟩)]⟩
def h77 : Hints := ⟨true, [], [(4, ⟨[0, 1, 5], [], []⟩)]⟩
def h78 : Hints := ⟨true, [], [(5, ⟨[3, 12, 13, 14], [60080], [(none, 3, 60080, 95)]⟩)]⟩
def h79 : Hints := ⟨true, [], [(4, ⟨[0, 1, 5], [], []⟩)]⟩
def h80 : Hints := ⟨true, [], [(4, ⟨[0, 1, 12, 13], [], []⟩)]⟩
def h81 : Hints := ⟨true, [], []⟩
def h82 : Hints := ⟨true, [], []⟩
def h83 : Hints := ⟨true, [], []⟩
def h84 : Hints := ⟨true, [], []⟩
def h85 : Hints := ⟨true, [], [(13, ⟨[1, 4], [32], []⟩), (6, ⟨[1, 3], [32], []⟩)]⟩
def h86 : Hints := ⟨true, [], [(2, ⟨[1, 2, 4, 6], [64, 128], []⟩)]⟩
def h87 : Hints := ⟨true, [], []⟩
def h88 : Hints := ⟨true, [], []⟩
def h89 : Hints := ⟨true, [], []⟩
def h90 : Hints := ⟨true, [], []⟩
def h91 : Hints := ⟨true, [], []⟩
def h92 : Hints := ⟨true, [], []⟩
def h93 : Hints := ⟨true, [], [(2, ⟨[1, 4, 9, 10, 11], [128], []⟩)]⟩
def h94 : Hints := ⟨true, [], []⟩
def h95 : Hints := ⟨true, [], []⟩
def h96 : Hints := ⟨true, [], []⟩
def h97 : Hints := ⟨true, [], [(2, ⟨[1, 8, 9, 10], [], []⟩)]⟩
def h98 : Hints := ⟨true, [], [(3, ⟨[2, 3, 4, 5, 6], [64, 96, 128, 160, 60048, 60049], [(some 160, 1, 60048, 80), (some 160, 0, 60049, 95)]⟩)]⟩
def h99 : Hints := ⟨true, [], [(9, ⟨[2, 3, 6], [64, 96], []⟩), (4, ⟨[2, 3, 5], [64, 96], []⟩)]⟩
def h100 : Hints := ⟨true, [], [(3, ⟨[2, 3, 4, 5, 6], [64, 96, 128, 160, 60048, 60049], [(some 160, 0, 60048, 95), (some 160, 1, 60049, 80)]⟩)]⟩
def h101 : Hints := ⟨true, [], [(4, ⟨[0, 1, 12, 13], [], []⟩)]⟩
def h102 : Hints := ⟨true, [], [(4, ⟨[1, 3], [32], []⟩)]⟩
def h103 : Hints := ⟨true, [], [(2, ⟨[1, 6, 7, 8], [32], []⟩)]⟩
def h104 : Hints := ⟨true, [], []⟩
def h105 : Hints := ⟨true, [], []⟩
def h106 : Hints := ⟨true, [], []⟩
def h107 : Hints := ⟨true, [], []⟩
def h108 : Hints := ⟨true, [], []⟩
def h109 : Hints := ⟨true, [], []⟩
def h110 : Hints := ⟨true, [], []⟩
def h111 : Hints := ⟨true, [], []⟩
def h112 : Hints := ⟨true, [], []⟩
def h113 : Hints := ⟨true, [], []⟩
def h114 : Hints := ⟨true, [], []⟩
def h115 : Hints := ⟨true, [], []⟩
def h116 : Hints := ⟨true, [], []⟩
def h117 : Hints := ⟨true, [], []⟩
def h118 : Hints := ⟨true, [], [(5, ⟨[0, 1, 5], [], []⟩)]⟩
def h119 : Hints := ⟨true, [], []⟩
def h120 : Hints := ⟨true, [], []⟩
def h121 : Hints := ⟨true, [], []⟩
def h122 : Hints := ⟨true, [], []⟩
def h123 : Hints := ⟨true, [], [(5, ⟨[1, 2, 3, 4], [32, 64, 96, 60080], [(some 96, 0, 60080, 3)]⟩)]⟩
def h124 : Hints := ⟨true, [], [(4, ⟨[0, 1, 5], [], []⟩)]⟩
def h125 : Hints := ⟨true, [], [(9, ⟨[0, 1, 5, 6], [], []⟩), (4, ⟨[0, 1, 5], [], []⟩)]⟩
def h126 : Hints := ⟨true, [], [(10, ⟨[1, 3, 4, 5, 32, 33, 34, 35, 36, 39, 40, 41, 42, 45, 46, 47, 48, 49, 50], [32, 128], []⟩), (4, ⟨[1, 3], [32], []⟩)]⟩
def h127 : Hints := ⟨true, [], []⟩
def h128 : Hints := ⟨true, [], []⟩
def h129 : Hints := ⟨true, [], [(3, ⟨[0, 3, 4], [224], []⟩)]⟩
def h130 : Hints := ⟨true, [], [(3, ⟨[0, 3, 4], [224], []⟩)]⟩
def h131 : Hints := ⟨true, [], [(3, ⟨[0, 3, 4], [224], []⟩)]⟩
def h132 : Hints := ⟨true, [], [(3, ⟨[0, 3, 4], [224], []⟩)]⟩
def h133 : Hints := ⟨true, [], [(3, ⟨[0, 3, 4], [224], []⟩)]⟩
def h134 : Hints := ⟨true, [], []⟩
def h135 : Hints := ⟨true, [], [(5, ⟨[1, 2, 3, 4], [32, 64, 96, 60080], [(some 96, 0, 60080, 3)]⟩)]⟩
def h136 : Hints := ⟨true, [], [(2, ⟨[0, 1, 7, 8, 9], [], []⟩)]⟩
def h137 : Hints := ⟨true, [], [(5, ⟨[0, 3, 4], [], []⟩)]⟩
def h138 : Hints := ⟨true, [], [(5, ⟨[0, 1, 6, 9, 10, 11, 15, 16, 17], [], []⟩), (2, ⟨[0, 1, 9, 10, 11], [], []⟩)]⟩
def h139 : Hints := ⟨true, [], [(2, ⟨[1, 6, 7, 8], [32], []⟩)]⟩
def h140 : Hints := ⟨true, [], [(2, ⟨[1, 6, 7, 8], [32], []⟩)]⟩
def h141 : Hints := ⟨true, [], []⟩
def h142 : Hints := ⟨true, [], []⟩
def h143 : Hints := ⟨true, [], [(4, ⟨[0, 1, 5], [], []⟩)]⟩
def h144 : Hints := ⟨true, [], [(4, ⟨[0, 1, 5], [], []⟩)]⟩
def h145 : Hints := ⟨true, [], [(4, ⟨[0, 1, 5], [], []⟩)]⟩
def h146 : Hints := ⟨true, [], [(4, ⟨[0, 1, 5], [], []⟩)]⟩
def h147 : Hints := ⟨true, [], [(4, ⟨[0, 1, 5], [], []⟩)]⟩
def h148 : Hints := ⟨true, [], []⟩
def h149 : Hints := ⟨true, [], [(3, ⟨[2, 3, 5, 6], [64, 96, 864], []⟩)]⟩
def h150 : Hints := ⟨true, [], []⟩
def h151 : Hints := ⟨true, [], [(4, ⟨[0, 1, 12, 13], [], []⟩)]⟩
def h152 : Hints := ⟨true, [], []⟩
def h153 : Hints := ⟨true, [], []⟩
def h154 : Hints := ⟨true, [], []⟩
def h155 : Hints := ⟨true, [], [(5, ⟨[0, 1, 5], [], []⟩)]⟩
def h156 : Hints := ⟨true, [], []⟩
def h157 : Hints := ⟨true, [], [(3, ⟨[0, 3, 4], [60048], [(none, 3, 60048, 5)]⟩)]⟩
def h158 : Hints := ⟨true, [], [(3, ⟨[0, 3, 4], [224], []⟩)]⟩
def h159 : Hints := ⟨true, [], []⟩
def h160 : Hints := ⟨true, [], []⟩
def h161 : Hints := ⟨true, [], []⟩
def h162 : Hints := ⟨true, [], [(3, ⟨[3, 7, 8, 9], [60048], [(none, 3, 60048, 5)]⟩)]⟩
def h163 : Hints := ⟨true, [], []⟩
def h164 : Hints := ⟨true, [], [(2, ⟨[1, 2, 10, 11, 12], [], []⟩)]⟩
def h165 : Hints := ⟨true, [], [(4, ⟨[0, 1, 5], [], []⟩)]⟩
def h166 : Hints := ⟨true, [], []⟩
def h167 : Hints := ⟨true, [], []⟩
def h168 : Hints := ⟨true, [], []⟩
def h169 : Hints := ⟨true, [], []⟩
def h170 : Hints := ⟨true, [], [(7, ⟨[0, 3, 4, 5], [], []⟩), (3, ⟨[0, 3, 4], [], []⟩)]⟩
def h171 : Hints := ⟨true, [], [(8, ⟨[1, 3, 4, 5, 6, 7], [32, 160, 1280, 60128], [(none, 3, 60128, 5)]⟩), (14, ⟨[1, 3, 8], [32, 60224], [(none, 3, 60224, 5)]⟩), (3, ⟨[1, 3, 4], [32, 60048], [(none, 3, 60048, 5)]⟩)]⟩
def h172 : Hints := ⟨true, [], [(8, ⟨[1, 2, 4, 5, 7], [64, 128, 160, 60048, 60128], [(some 160, 1, 60128, 80)]⟩), (3, ⟨[1, 2, 4, 5, 6], [64, 128, 160, 60048], [(some 160, 0, 60048, 95)]⟩)]⟩
def h173 : Hints := ⟨true, [], [(4, ⟨[0, 3], [60064], [(none, 3, 60064, 5)]⟩)]⟩
def h174 : Hints := ⟨true, [], [(7, ⟨[3, 7, 8, 9, 17], [], []⟩), (3, ⟨[3, 7, 8, 9], [], []⟩)]⟩
def h175 : Hints := ⟨true, [], [(12, ⟨[3, 55, 56, 57], [60192], [(none, 3, 60192, 5)]⟩), (5, ⟨[1, 3, 17, 18, 19], [32, 60080], [(none, 3, 60080, 5)]⟩)]⟩
def h176 : Hints := ⟨true, [], [(11, ⟨[1, 4, 5, 35, 36, 37], [128, 160, 60080, 60176], [(some 160, 1, 60176, 80)]⟩), (5, ⟨[1, 2, 4, 5, 16, 17, 18], [64, 128, 160, 60080], [(some 160, 0, 60080, 95)]⟩)]⟩
def h177 : Hints := ⟨true, [], [(3, ⟨[3, 7, 8, 9], [60048], [(none, 3, 60048, 5)]⟩)]⟩
def h178 : Hints := ⟨true, [], [(4, ⟨[0, 3], [60064], [(none, 3, 60064, 5)]⟩)]⟩
def h179 : Hints := ⟨true, [], [(3, ⟨[3, 6, 7, 8], [], []⟩)]⟩
def h180 : Hints := ⟨true, [], []⟩
def h181 : Hints := ⟨true, [], []⟩
def h182 : Hints := ⟨true, [], []⟩
def h183 : Hints := ⟨true, [], [(2, ⟨[0, 1, 5], [], []⟩)]⟩
def h184 : Hints := ⟨true, [], []⟩
def h185 : Hints := ⟨true, [], []⟩
def h186 : Hints := ⟨true, [], []⟩
def h187 : Hints := ⟨true, [], []⟩
def h188 : Hints := ⟨true, [], []⟩
def h190 : Hints := ⟨true, [], [(2, ⟨[0, 1, 7, 8], [], []⟩)]⟩
noncomputable def fnTab : List (Nat × Func) := [(3, Tryz.f3), (4, Tryz.f4), (5, Tryz.f5), (6, Tryz.f6), (7, Tryz.f7), (8, Tryz.f8), (9, Tryz.f9), (10, Tryz.f10), (11, Tryz.f11), (12, Tryz.f12), (13, Tryz.f13), (14, Tryz.f14), (15, Tryz.f15), (16, Tryz.f16), (17, Tryz.f17), (18, Tryz.f18), (19, Tryz.f19), (20, Tryz.f20), (21, Tryz.f21), (22, Tryz.f22), (23, Tryz.f23), (24, Tryz.f24), (25, Tryz.f25), (26, Tryz.f26), (27, Tryz.f27), (28, Tryz.f28), (29, Tryz.f29), (30, Tryz.f30), (31, Tryz.f31), (32, Tryz.f32), (33, Tryz.f33), (34, Tryz.f34), (35, Tryz.f35), (36, Tryz.f36), (37, Tryz.f37), (38, Tryz.f38), (39, Tryz.f39), (40, Tryz.f40), (41, Tryz.f41), (42, Tryz.f42), (43, Tryz.f43), (44, Tryz.f44), (45, Tryz.f45), (46, Tryz.f46), (47, Tryz.f47), (48, Tryz.f48), (49, Tryz.f49), (50, Tryz.f50), (51, Tryz.f51), (52, Tryz.f52), (53, Tryz.f53), (54, Tryz.f54), (55, Tryz.f55), (56, Tryz.f56), (57, Tryz.f57), (58, Tryz.f58), (59, Tryz.f59), (60, Tryz.f60), (61, Tryz.f61), (62, Tryz.f62), (63, Tryz.f63), (64, Tryz.f64), (65, Tryz.f65), (66, Tryz.f66), (67, Tryz.f67), (68, Tryz.f68), (69, Tryz.f69), (70, Tryz.f70), (71, Tryz.f71), (72, Tryz.f72), (73, Tryz.f73), (74, Tryz.f74), (75, Tryz.f75), (76, Tryz.f76), (77, Tryz.f77), (78, Tryz.f78), (79, Tryz.f79), (80, Tryz.f80), (81, Tryz.f81), (82, Tryz.f82), (83, Tryz.f83), (84, Tryz.f84), (85, Tryz.f85), (86, Tryz.f86), (87, Tryz.f87), (88, Tryz.f88), (89, Tryz.f89), (90, Tryz.f90), (91, Tryz.f91), (92, Tryz.f92), (93, Tryz.f93), (94, Tryz.f94), (95, Tryz.f95), (96, Tryz.f96), (97, Tryz.f97), (98, Tryz.f98), (99, Tryz.f99), (100, Tryz.f100), (101, Tryz.f101), (102, Tryz.f102), (103, Tryz.f103), (104, Tryz.f104), (105, Tryz.f105), (106, Tryz.f106), (107, Tryz.f107), (108, Tryz.f108), (109, Tryz.f109), (110, Tryz.f110), (111, Tryz.f111), (112, Tryz.f112), (113, Tryz.f113), (114, Tryz.f114), (115, Tryz.f115), (116, Tryz.f116), (117, Tryz.f117), (118, Tryz.f118), (119, Tryz.f119), (120, Tryz.f120), (121, Tryz.f121), (122, Tryz.f122), (123, Tryz.f123), (124, Tryz.f124), (125, Tryz.f125), (126, Tryz.f126), (127, Tryz.f127), (128, Tryz.f128), (129, Tryz.f129), (130, Tryz.f130), (131, Tryz.f131), (132, Tryz.f132), (133, Tryz.f133), (134, Tryz.f134), (135, Tryz.f135), (136, Tryz.f136), (137, Tryz.f137), (138, Tryz.f138), (139, Tryz.f139), (140, Tryz.f140), (141, Tryz.f141), (142, Tryz.f142), (143, Tryz.f143), (144, Tryz.f144), (145, Tryz.f145), (146, Tryz.f146), (147, Tryz.f147), (148, Tryz.f148), (149, Tryz.f149), (150, Tryz.f150), (151, Tryz.f151), (152, Tryz.f152), (153, Tryz.f153), (154, Tryz.f154), (155, Tryz.f155), (156, Tryz.f156), (157, Tryz.f157), (158, Tryz.f158), (159, Tryz.f159), (160, Tryz.f160), (161, Tryz.f161), (162, Tryz.f162), (163, Tryz.f163), (164, Tryz.f164), (165, Tryz.f165), (166, Tryz.f166), (167, Tryz.f167), (168, Tryz.f168), (169, Tryz.f169), (170, Tryz.f170), (171, Tryz.f171), (172, Tryz.f172), (173, Tryz.f173), (174, Tryz.f174), (175, Tryz.f175), (176, Tryz.f176), (177, Tryz.f177), (178, Tryz.f178), (179, Tryz.f179), (180, Tryz.f180), (181, Tryz.f181), (182, Tryz.f182), (183, Tryz.f183), (184, Tryz.f184), (185, Tryz.f185), (186, Tryz.f186), (187, Tryz.f187), (188, Tryz.f188), (190, Tryz.f190)]
noncomputable def htab : List (Nat × List (Nat × Norm)) := [(3, h3.loops), (4, h4.loops), (5, h5.loops), (6, h6.loops), (7, h7.loops), (8, h8.loops), (9, h9.loops), (10, h10.loops), (11, h11.loops), (12, h12.loops), (13, h13.loops), (14, h14.loops), (15, h15.loops), (16, h16.loops), (17, h17.loops), (18, h18.loops), (19, h19.loops), (20, h20.loops), (21, h21.loops), (22, h22.loops), (23, h23.loops), (24, h24.loops), (25, h25.loops), (26, h26.loops), (27, h27.loops), (28, h28.loops), (29, h29.loops), (30, h30.loops), (31, h31.loops), (32, h32.loops), (33, h33.loops), (34, h34.loops), (35, h35.loops), (36, h36.loops), (37, h37.loops), (38, h38.loops), (39, h39.loops), (40, h40.loops), (41, h41.loops), (42, h42.loops), (43, h43.loops), (44, h44.loops), (45, h45.loops), (46, h46.loops), (47, h47.loops), (48, h48.loops), (49, h49.loops), (50, h50.loops), (51, h51.loops), (52, h52.loops), (53, h53.loops), (54, h54.loops), (55, h55.loops), (56, h56.loops), (57, h57.loops), (58, h58.loops), (59, h59.loops), (60, h60.loops), (61, h61.loops), (62, h62.loops), (63, h63.loops), (64, h64.loops), (65, h65.loops), (66, h66.loops), (67, h67.loops), (68, h68.loops), (69, h69.loops), (70, h70.loops), (71, h71.loops), (72, h72.loops), (73, h73.loops), (74, h74.loops), (75, h75.loops), (76, h76.loops), (77, h77.loops), (78, h78.loops), (79, h79.loops), (80, h80.loops), (81, h81.loops), (82, h82.loops), (83, h83.loops), (84, h84.loops), (85, h85.loops), (86, h86.loops), (87, h87.loops), (88, h88.loops), (89, h89.loops), (90, h90.loops), (91, h91.loops), (92, h92.loops), (93, h93.loops), (94, h94.loops), (95, h95.loops), (96, h96.loops), (97, h97.loops), (98, h98.loops), (99, h99.loops), (100, h100.loops), (101, h101.loops), (102, h102.loops), (103, h103.loops), (104, h104.loops), (105, h105.loops), (106, h106.loops), (107, h107.loops), (108, h108.loops), (109, h109.loops), (110, h110.loops), (111, h111.loops), (112, h112.loops), (113, h113.loops), (114, h114.loops), (115, h115.loops), (116, h116.loops), (117, h117.loops), (118, h118.loops), (119, h119.loops), (120, h120.loops), (121, h121.loops), (122, h122.loops), (123, h123.loops), (124, h124.loops), (125, h125.loops), (126, h126.loops), (127, h127.loops), (128, h128.loops), (129, h129.loops), (130, h130.loops), (131, h131.loops), (132, h132.loops), (133, h133.loops), (134, h134.loops), (135, h135.loops), (136, h136.loops), (137, h137.loops), (138, h138.loops), (139, h139.loops), (140, h140.loops), (141, h141.loops), (142, h142.loops), (143, h143.loops), (144, h144.loops), (145, h145.loops), (146, h146.loops), (147, h147.loops), (148, h148.loops), (149, h149.loops), (150, h150.loops), (151, h151.loops), (152, h152.loops), (153, h153.loops), (154, h154.loops), (155, h155.loops), (156, h156.loops), (157, h157.loops), (158, h158.loops), (159, h159.loops), (160, h160.loops), (161, h161.loops), (162, h162.loops), (163, h163.loops), (164, h164.loops), (165, h165.loops), (166, h166.loops), (167, h167.loops), (168, h168.loops), (169, h169.loops), (170, h170.loops), (171, h171.loops), (172, h172.loops), (173, h173.loops), (174, h174.loops), (175, h175.loops), (176, h176.loops), (177, h177.loops), (178, h178.loops), (179, h179.loops), (180, h180.loops), (181, h181.loops), (182, h182.loops), (183, h183.loops), (184, h184.loops), (185, h185.loops), (186, h186.loops), (187, h187.loops), (188, h188.loops), (190, h190.loops)]
def ownTab : List (Nat × (List Abs.Arg → Option Out)) := [(181, cmpF)]
noncomputable def p : Prg := { ti := ti, fn := fun g => look? g fnTab, hint := fun g => ⟨true, [], (look? g htab).getD []⟩, own := fun g => look? g ownTab }
theorem rts_eq : p.rts = rts := by
  funext g
  unfold Prg.rts rts p
  rw [look_map]; rfl
theorem ran_of {g : Nat} {fn : Func} {nt : Nat} {h : Hints} {lvl : Nat} {xs : List Abs.Arg} {out : Out} (ho : p.own g = none) (hf : p.fn g = some fn) (hn : fn.ntmps = nt) (hh : p.hint g = h)
    (H : ∀ n, lvl ≤ n → Ev (fun fuel => frun (E1 (arun p n) nt h) rts fuel fn xs) out) : Ran p (lvl + 1) g xs out := by
  subst hn; subst hh
  refine Ran.of ho hf fun n hl => ?_
  rw [rts_eq]
  exact (H n hl).get
theorem fn3 : p.fn 3 = some Tryz.f3 := by kernel_rfl
theorem nt3 : Tryz.f3.ntmps = 31 := by kernel_rfl
theorem hh3 : p.hint 3 = h3 := by kernel_rfl
theorem fn4 : p.fn 4 = some Tryz.f4 := by kernel_rfl
theorem nt4 : Tryz.f4.ntmps = 27 := by kernel_rfl
theorem hh4 : p.hint 4 = h4 := by kernel_rfl
theorem fn5 : p.fn 5 = some Tryz.f5 := by kernel_rfl
theorem nt5 : Tryz.f5.ntmps = 27 := by kernel_rfl
theorem hh5 : p.hint 5 = h5 := by kernel_rfl
theorem fn6 : p.fn 6 = some Tryz.f6 := by kernel_rfl
theorem nt6 : Tryz.f6.ntmps = 27 := by kernel_rfl
theorem hh6 : p.hint 6 = h6 := by kernel_rfl
theorem fn7 : p.fn 7 = some Tryz.f7 := by kernel_rfl
theorem nt7 : Tryz.f7.ntmps = 27 := by kernel_rfl
theorem hh7 : p.hint 7 = h7 := by kernel_rfl
theorem fn8 : p.fn 8 = some Tryz.f8 := by kernel_rfl
theorem nt8 : Tryz.f8.ntmps = 45 := by kernel_rfl
theorem hh8 : p.hint 8 = h8 := by kernel_rfl
theorem fn9 : p.fn 9 = some Tryz.f9 := by kernel_rfl
theorem nt9 : Tryz.f9.ntmps = 45 := by kernel_rfl
theorem hh9 : p.hint 9 = h9 := by kernel_rfl
theorem fn10 : p.fn 10 = some Tryz.f10 := by kernel_rfl
theorem nt10 : Tryz.f10.ntmps = 27 := by kernel_rfl
theorem hh10 : p.hint 10 = h10 := by kernel_rfl
theorem fn11 : p.fn 11 = some Tryz.f11 := by kernel_rfl
theorem nt11 : Tryz.f11.ntmps = 27 := by kernel_rfl
theorem hh11 : p.hint 11 = h11 := by kernel_rfl
theorem fn12 : p.fn 12 = some Tryz.f12 := by kernel_rfl
theorem nt12 : Tryz.f12.ntmps = 24 := by kernel_rfl
theorem hh12 : p.hint 12 = h12 := by kernel_rfl
theorem fn13 : p.fn 13 = some Tryz.f13 := by kernel_rfl
theorem nt13 : Tryz.f13.ntmps = 36 := by kernel_rfl
theorem hh13 : p.hint 13 = h13 := by kernel_rfl
theorem fn14 : p.fn 14 = some Tryz.f14 := by kernel_rfl
theorem nt14 : Tryz.f14.ntmps = 17 := by kernel_rfl
theorem hh14 : p.hint 14 = h14 := by kernel_rfl
theorem fn15 : p.fn 15 = some Tryz.f15 := by kernel_rfl
theorem nt15 : Tryz.f15.ntmps = 33 := by kernel_rfl
theorem hh15 : p.hint 15 = h15 := by kernel_rfl
theorem fn16 : p.fn 16 = some Tryz.f16 := by kernel_rfl
theorem nt16 : Tryz.f16.ntmps = 23 := by kernel_rfl
theorem hh16 : p.hint 16 = h16 := by kernel_rfl
theorem fn17 : p.fn 17 = some Tryz.f17 := by kernel_rfl
theorem nt17 : Tryz.f17.ntmps = 64 := by kernel_rfl
theorem hh17 : p.hint 17 = h17 := by kernel_rfl
theorem fn18 : p.fn 18 = some Tryz.f18 := by kernel_rfl
theorem nt18 : Tryz.f18.ntmps = 64 := by kernel_rfl
theorem hh18 : p.hint 18 = h18 := by kernel_rfl
theorem fn19 : p.fn 19 = some Tryz.f19 := by kernel_rfl
theorem nt19 : Tryz.f19.ntmps = 28 := by kernel_rfl
theorem hh19 : p.hint 19 = h19 := by kernel_rfl
theorem fn20 : p.fn 20 = some Tryz.f20 := by kernel_rfl
theorem nt20 : Tryz.f20.ntmps = 23 := by kernel_rfl
theorem hh20 : p.hint 20 = h20 := by kernel_rfl
theorem fn21 : p.fn 21 = some Tryz.f21 := by kernel_rfl
theorem nt21 : Tryz.f21.ntmps = 73 := by kernel_rfl
theorem hh21 : p.hint 21 = h21 := by kernel_rfl
theorem fn22 : p.fn 22 = some Tryz.f22 := by kernel_rfl
theorem nt22 : Tryz.f22.ntmps = 67 := by kernel_rfl
theorem hh22 : p.hint 22 = h22 := by kernel_rfl
theorem fn23 : p.fn 23 = some Tryz.f23 := by kernel_rfl
theorem nt23 : Tryz.f23.ntmps = 36 := by kernel_rfl
theorem hh23 : p.hint 23 = h23 := by kernel_rfl
theorem fn24 : p.fn 24 = some Tryz.f24 := by kernel_rfl
theorem nt24 : Tryz.f24.ntmps = 35 := by kernel_rfl
theorem hh24 : p.hint 24 = h24 := by kernel_rfl
theorem fn25 : p.fn 25 = some Tryz.f25 := by kernel_rfl
theorem nt25 : Tryz.f25.ntmps = 18 := by kernel_rfl
theorem hh25 : p.hint 25 = h25 := by kernel_rfl
theorem fn26 : p.fn 26 = some Tryz.f26 := by kernel_rfl
theorem nt26 : Tryz.f26.ntmps = 22 := by kernel_rfl
theorem hh26 : p.hint 26 = h26 := by kernel_rfl
theorem fn27 : p.fn 27 = some Tryz.f27 := by kernel_rfl
theorem nt27 : Tryz.f27.ntmps = 13 := by kernel_rfl
theorem hh27 : p.hint 27 = h27 := by kernel_rfl
theorem fn28 : p.fn 28 = some Tryz.f28 := by kernel_rfl
theorem nt28 : Tryz.f28.ntmps = 20 := by kernel_rfl
theorem hh28 : p.hint 28 = h28 := by kernel_rfl
theorem fn29 : p.fn 29 = some Tryz.f29 := by kernel_rfl
theorem nt29 : Tryz.f29.ntmps = 17 := by kernel_rfl
theorem hh29 : p.hint 29 = h29 := by kernel_rfl
theorem fn30 : p.fn 30 = some Tryz.f30 := by kernel_rfl
theorem nt30 : Tryz.f30.ntmps = 79 := by kernel_rfl
theorem hh30 : p.hint 30 = h30 := by kernel_rfl
theorem fn31 : p.fn 31 = some Tryz.f31 := by kernel_rfl
theorem nt31 : Tryz.f31.ntmps = 77 := by kernel_rfl
theorem hh31 : p.hint 31 = h31 := by kernel_rfl
theorem fn32 : p.fn 32 = some Tryz.f32 := by kernel_rfl
theorem nt32 : Tryz.f32.ntmps = 53 := by kernel_rfl
theorem hh32 : p.hint 32 = h32 := by kernel_rfl
theorem fn33 : p.fn 33 = some Tryz.f33 := by kernel_rfl
theorem nt33 : Tryz.f33.ntmps = 51 := by kernel_rfl
theorem hh33 : p.hint 33 = h33 := by kernel_rfl
theorem fn34 : p.fn 34 = some Tryz.f34 := by kernel_rfl
theorem nt34 : Tryz.f34.ntmps = 17 := by kernel_rfl
theorem hh34 : p.hint 34 = h34 := by kernel_rfl
theorem fn35 : p.fn 35 = some Tryz.f35 := by kernel_rfl
theorem nt35 : Tryz.f35.ntmps = 17 := by kernel_rfl
theorem hh35 : p.hint 35 = h35 := by kernel_rfl
theorem fn36 : p.fn 36 = some Tryz.f36 := by kernel_rfl
theorem nt36 : Tryz.f36.ntmps = 27 := by kernel_rfl
theorem hh36 : p.hint 36 = h36 := by kernel_rfl
theorem fn37 : p.fn 37 = some Tryz.f37 := by kernel_rfl
theorem nt37 : Tryz.f37.ntmps = 27 := by kernel_rfl
theorem hh37 : p.hint 37 = h37 := by kernel_rfl
theorem fn38 : p.fn 38 = some Tryz.f38 := by kernel_rfl
theorem nt38 : Tryz.f38.ntmps = 27 := by kernel_rfl
theorem hh38 : p.hint 38 = h38 := by kernel_rfl
theorem fn39 : p.fn 39 = some Tryz.f39 := by kernel_rfl
theorem nt39 : Tryz.f39.ntmps = 101 := by kernel_rfl
theorem hh39 : p.hint 39 = h39 := by kernel_rfl
theorem fn40 : p.fn 40 = some Tryz.f40 := by kernel_rfl
theorem nt40 : Tryz.f40.ntmps = 13 := by kernel_rfl
theorem hh40 : p.hint 40 = h40 := by kernel_rfl
theorem fn41 : p.fn 41 = some Tryz.f41 := by kernel_rfl
theorem nt41 : Tryz.f41.ntmps = 4 := by kernel_rfl
theorem hh41 : p.hint 41 = h41 := by kernel_rfl
theorem fn42 : p.fn 42 = some Tryz.f42 := by kernel_rfl
theorem nt42 : Tryz.f42.ntmps = 23 := by kernel_rfl
theorem hh42 : p.hint 42 = h42 := by kernel_rfl
theorem fn43 : p.fn 43 = some Tryz.f43 := by kernel_rfl
theorem nt43 : Tryz.f43.ntmps = 23 := by kernel_rfl
theorem hh43 : p.hint 43 = h43 := by kernel_rfl
theorem fn44 : p.fn 44 = some Tryz.f44 := by kernel_rfl
theorem nt44 : Tryz.f44.ntmps = 23 := by kernel_rfl
theorem hh44 : p.hint 44 = h44 := by kernel_rfl
theorem fn45 : p.fn 45 = some Tryz.f45 := by kernel_rfl
theorem nt45 : Tryz.f45.ntmps = 84 := by kernel_rfl
theorem hh45 : p.hint 45 = h45 := by kernel_rfl
theorem fn46 : p.fn 46 = some Tryz.f46 := by kernel_rfl
theorem nt46 : Tryz.f46.ntmps = 13 := by kernel_rfl
theorem hh46 : p.hint 46 = h46 := by kernel_rfl
theorem fn47 : p.fn 47 = some Tryz.f47 := by kernel_rfl
theorem nt47 : Tryz.f47.ntmps = 27 := by kernel_rfl
theorem hh47 : p.hint 47 = h47 := by kernel_rfl
theorem fn48 : p.fn 48 = some Tryz.f48 := by kernel_rfl
theorem nt48 : Tryz.f48.ntmps = 27 := by kernel_rfl
theorem hh48 : p.hint 48 = h48 := by kernel_rfl
theorem fn49 : p.fn 49 = some Tryz.f49 := by kernel_rfl
theorem nt49 : Tryz.f49.ntmps = 27 := by kernel_rfl
theorem hh49 : p.hint 49 = h49 := by kernel_rfl
theorem fn50 : p.fn 50 = some Tryz.f50 := by kernel_rfl
theorem nt50 : Tryz.f50.ntmps = 29 := by kernel_rfl
theorem hh50 : p.hint 50 = h50 := by kernel_rfl
theorem fn51 : p.fn 51 = some Tryz.f51 := by kernel_rfl
theorem nt51 : Tryz.f51.ntmps = 27 := by kernel_rfl
theorem hh51 : p.hint 51 = h51 := by kernel_rfl
theorem fn52 : p.fn 52 = some Tryz.f52 := by kernel_rfl
theorem nt52 : Tryz.f52.ntmps = 31 := by kernel_rfl
theorem hh52 : p.hint 52 = h52 := by kernel_rfl
theorem fn53 : p.fn 53 = some Tryz.f53 := by kernel_rfl
theorem nt53 : Tryz.f53.ntmps = 34 := by kernel_rfl
theorem hh53 : p.hint 53 = h53 := by kernel_rfl
theorem fn54 : p.fn 54 = some Tryz.f54 := by kernel_rfl
theorem nt54 : Tryz.f54.ntmps = 26 := by kernel_rfl
theorem hh54 : p.hint 54 = h54 := by kernel_rfl
theorem fn55 : p.fn 55 = some Tryz.f55 := by kernel_rfl
theorem nt55 : Tryz.f55.ntmps = 10 := by kernel_rfl
theorem hh55 : p.hint 55 = h55 := by kernel_rfl
theorem fn56 : p.fn 56 = some Tryz.f56 := by kernel_rfl
theorem nt56 : Tryz.f56.ntmps = 24 := by kernel_rfl
theorem hh56 : p.hint 56 = h56 := by kernel_rfl
theorem fn57 : p.fn 57 = some Tryz.f57 := by kernel_rfl
theorem nt57 : Tryz.f57.ntmps = 10 := by kernel_rfl
theorem hh57 : p.hint 57 = h57 := by kernel_rfl
theorem fn58 : p.fn 58 = some Tryz.f58 := by kernel_rfl
theorem nt58 : Tryz.f58.ntmps = 12 := by kernel_rfl
theorem hh58 : p.hint 58 = h58 := by kernel_rfl
theorem fn59 : p.fn 59 = some Tryz.f59 := by kernel_rfl
theorem nt59 : Tryz.f59.ntmps = 18 := by kernel_rfl
theorem hh59 : p.hint 59 = h59 := by kernel_rfl
theorem fn60 : p.fn 60 = some Tryz.f60 := by kernel_rfl
theorem nt60 : Tryz.f60.ntmps = 46 := by kernel_rfl
theorem hh60 : p.hint 60 = h60 := by kernel_rfl
theorem fn61 : p.fn 61 = some Tryz.f61 := by kernel_rfl
theorem nt61 : Tryz.f61.ntmps = 12 := by kernel_rfl
theorem hh61 : p.hint 61 = h61 := by kernel_rfl
theorem fn62 : p.fn 62 = some Tryz.f62 := by kernel_rfl
theorem nt62 : Tryz.f62.ntmps = 19 := by kernel_rfl
theorem hh62 : p.hint 62 = h62 := by kernel_rfl
theorem fn63 : p.fn 63 = some Tryz.f63 := by kernel_rfl
theorem nt63 : Tryz.f63.ntmps = 40 := by kernel_rfl
theorem hh63 : p.hint 63 = h63 := by kernel_rfl
theorem fn64 : p.fn 64 = some Tryz.f64 := by kernel_rfl
theorem nt64 : Tryz.f64.ntmps = 26 := by kernel_rfl
theorem hh64 : p.hint 64 = h64 := by kernel_rfl
theorem fn65 : p.fn 65 = some Tryz.f65 := by kernel_rfl
theorem nt65 : Tryz.f65.ntmps = 23 := by kernel_rfl
theorem hh65 : p.hint 65 = h65 := by kernel_rfl
theorem fn66 : p.fn 66 = some Tryz.f66 := by kernel_rfl
theorem nt66 : Tryz.f66.ntmps = 27 := by kernel_rfl
theorem hh66 : p.hint 66 = h66 := by kernel_rfl
theorem fn67 : p.fn 67 = some Tryz.f67 := by kernel_rfl
theorem nt67 : Tryz.f67.ntmps = 12 := by kernel_rfl
theorem hh67 : p.hint 67 = h67 := by kernel_rfl
theorem fn68 : p.fn 68 = some Tryz.f68 := by kernel_rfl
theorem nt68 : Tryz.f68.ntmps = 93 := by kernel_rfl
theorem hh68 : p.hint 68 = h68 := by kernel_rfl
theorem fn69 : p.fn 69 = some Tryz.f69 := by kernel_rfl
theorem nt69 : Tryz.f69.ntmps = 39 := by kernel_rfl
theorem hh69 : p.hint 69 = h69 := by kernel_rfl
theorem fn70 : p.fn 70 = some Tryz.f70 := by kernel_rfl
theorem nt70 : Tryz.f70.ntmps = 37 := by kernel_rfl
theorem hh70 : p.hint 70 = h70 := by kernel_rfl
theorem fn71 : p.fn 71 = some Tryz.f71 := by kernel_rfl
theorem nt71 : Tryz.f71.ntmps = 23 := by kernel_rfl
theorem hh71 : p.hint 71 = h71 := by kernel_rfl
theorem fn72 : p.fn 72 = some Tryz.f72 := by kernel_rfl
theorem nt72 : Tryz.f72.ntmps = 23 := by kernel_rfl
theorem hh72 : p.hint 72 = h72 := by kernel_rfl
theorem fn73 : p.fn 73 = some Tryz.f73 := by kernel_rfl
theorem nt73 : Tryz.f73.ntmps = 87 := by kernel_rfl
theorem hh73 : p.hint 73 = h73 := by kernel_rfl
theorem fn74 : p.fn 74 = some Tryz.f74 := by kernel_rfl
theorem nt74 : Tryz.f74.ntmps = 35 := by kernel_rfl
theorem hh74 : p.hint 74 = h74 := by kernel_rfl
theorem fn75 : p.fn 75 = some Tryz.f75 := by kernel_rfl
theorem nt75 : Tryz.f75.ntmps = 36 := by kernel_rfl
theorem hh75 : p.hint 75 = h75 := by kernel_rfl
theorem fn76 : p.fn 76 = some Tryz.f76 := by kernel_rfl
theorem nt76 : Tryz.f76.ntmps = 27 := by kernel_rfl
theorem hh76 : p.hint 76 = h76 := by kernel_rfl
theorem fn77 : p.fn 77 = some Tryz.f77 := by kernel_rfl
theorem nt77 : Tryz.f77.ntmps = 27 := by kernel_rfl
theorem hh77 : p.hint 77 = h77 := by kernel_rfl
theorem fn78 : p.fn 78 = some Tryz.f78 := by kernel_rfl
theorem nt78 : Tryz.f78.ntmps = 28 := by kernel_rfl
theorem hh78 : p.hint 78 = h78 := by kernel_rfl
theorem fn79 : p.fn 79 = some Tryz.f79 := by kernel_rfl
theorem nt79 : Tryz.f79.ntmps = 26 := by kernel_rfl
theorem hh79 : p.hint 79 = h79 := by kernel_rfl
theorem fn80 : p.fn 80 = some Tryz.f80 := by kernel_rfl
theorem nt80 : Tryz.f80.ntmps = 26 := by kernel_rfl
theorem hh80 : p.hint 80 = h80 := by kernel_rfl
theorem fn81 : p.fn 81 = some Tryz.f81 := by kernel_rfl
theorem nt81 : Tryz.f81.ntmps = 54 := by kernel_rfl
theorem hh81 : p.hint 81 = h81 := by kernel_rfl
theorem fn82 : p.fn 82 = some Tryz.f82 := by kernel_rfl
theorem nt82 : Tryz.f82.ntmps = 12 := by kernel_rfl
theorem hh82 : p.hint 82 = h82 := by kernel_rfl
theorem fn83 : p.fn 83 = some Tryz.f83 := by kernel_rfl
theorem nt83 : Tryz.f83.ntmps = 12 := by kernel_rfl
theorem hh83 : p.hint 83 = h83 := by kernel_rfl
theorem fn84 : p.fn 84 = some Tryz.f84 := by kernel_rfl
theorem nt84 : Tryz.f84.ntmps = 15 := by kernel_rfl
theorem hh84 : p.hint 84 = h84 := by kernel_rfl
theorem fn85 : p.fn 85 = some Tryz.f85 := by kernel_rfl
theorem nt85 : Tryz.f85.ntmps = 152 := by kernel_rfl
theorem hh85 : p.hint 85 = h85 := by kernel_rfl
theorem fn86 : p.fn 86 = some Tryz.f86 := by kernel_rfl
theorem nt86 : Tryz.f86.ntmps = 29 := by kernel_rfl
theorem hh86 : p.hint 86 = h86 := by kernel_rfl
theorem fn87 : p.fn 87 = some Tryz.f87 := by kernel_rfl
theorem nt87 : Tryz.f87.ntmps = 58 := by kernel_rfl
theorem hh87 : p.hint 87 = h87 := by kernel_rfl
theorem fn88 : p.fn 88 = some Tryz.f88 := by kernel_rfl
theorem nt88 : Tryz.f88.ntmps = 15 := by kernel_rfl
theorem hh88 : p.hint 88 = h88 := by kernel_rfl
theorem fn89 : p.fn 89 = some Tryz.f89 := by kernel_rfl
theorem nt89 : Tryz.f89.ntmps = 12 := by kernel_rfl
theorem hh89 : p.hint 89 = h89 := by kernel_rfl
theorem fn90 : p.fn 90 = some Tryz.f90 := by kernel_rfl
theorem nt90 : Tryz.f90.ntmps = 15 := by kernel_rfl
theorem hh90 : p.hint 90 = h90 := by kernel_rfl
theorem fn91 : p.fn 91 = some Tryz.f91 := by kernel_rfl
theorem nt91 : Tryz.f91.ntmps = 106 := by kernel_rfl
theorem hh91 : p.hint 91 = h91 := by kernel_rfl
theorem fn92 : p.fn 92 = some Tryz.f92 := by kernel_rfl
theorem nt92 : Tryz.f92.ntmps = 11 := by kernel_rfl
theorem hh92 : p.hint 92 = h92 := by kernel_rfl
theorem fn93 : p.fn 93 = some Tryz.f93 := by kernel_rfl
theorem nt93 : Tryz.f93.ntmps = 23 := by kernel_rfl
theorem hh93 : p.hint 93 = h93 := by kernel_rfl
theorem fn94 : p.fn 94 = some Tryz.f94 := by kernel_rfl
theorem nt94 : Tryz.f94.ntmps = 88 := by kernel_rfl
theorem hh94 : p.hint 94 = h94 := by kernel_rfl
theorem fn95 : p.fn 95 = some Tryz.f95 := by kernel_rfl
theorem nt95 : Tryz.f95.ntmps = 21 := by kernel_rfl
theorem hh95 : p.hint 95 = h95 := by kernel_rfl
theorem fn96 : p.fn 96 = some Tryz.f96 := by kernel_rfl
theorem nt96 : Tryz.f96.ntmps = 16 := by kernel_rfl
theorem hh96 : p.hint 96 = h96 := by kernel_rfl
theorem fn97 : p.fn 97 = some Tryz.f97 := by kernel_rfl
theorem nt97 : Tryz.f97.ntmps = 21 := by kernel_rfl
theorem hh97 : p.hint 97 = h97 := by kernel_rfl
theorem fn98 : p.fn 98 = some Tryz.f98 := by kernel_rfl
theorem nt98 : Tryz.f98.ntmps = 79 := by kernel_rfl
theorem hh98 : p.hint 98 = h98 := by kernel_rfl
theorem fn99 : p.fn 99 = some Tryz.f99 := by kernel_rfl
theorem nt99 : Tryz.f99.ntmps = 59 := by kernel_rfl
theorem hh99 : p.hint 99 = h99 := by kernel_rfl
theorem fn100 : p.fn 100 = some Tryz.f100 := by kernel_rfl
theorem nt100 : Tryz.f100.ntmps = 63 := by kernel_rfl
theorem hh100 : p.hint 100 = h100 := by kernel_rfl
theorem fn101 : p.fn 101 = some Tryz.f101 := by kernel_rfl
theorem nt101 : Tryz.f101.ntmps = 26 := by kernel_rfl
theorem hh101 : p.hint 101 = h101 := by kernel_rfl
theorem fn102 : p.fn 102 = some Tryz.f102 := by kernel_rfl
theorem nt102 : Tryz.f102.ntmps = 45 := by kernel_rfl
theorem hh102 : p.hint 102 = h102 := by kernel_rfl
theorem fn103 : p.fn 103 = some Tryz.f103 := by kernel_rfl
theorem nt103 : Tryz.f103.ntmps = 41 := by kernel_rfl
theorem hh103 : p.hint 103 = h103 := by kernel_rfl
theorem fn104 : p.fn 104 = some Tryz.f104 := by kernel_rfl
theorem nt104 : Tryz.f104.ntmps = 18 := by kernel_rfl
theorem hh104 : p.hint 104 = h104 := by kernel_rfl
theorem fn105 : p.fn 105 = some Tryz.f105 := by kernel_rfl
theorem nt105 : Tryz.f105.ntmps = 17 := by kernel_rfl
theorem hh105 : p.hint 105 = h105 := by kernel_rfl
theorem fn106 : p.fn 106 = some Tryz.f106 := by kernel_rfl
theorem nt106 : Tryz.f106.ntmps = 12 := by kernel_rfl
theorem hh106 : p.hint 106 = h106 := by kernel_rfl
theorem fn107 : p.fn 107 = some Tryz.f107 := by kernel_rfl
theorem nt107 : Tryz.f107.ntmps = 5 := by kernel_rfl
theorem hh107 : p.hint 107 = h107 := by kernel_rfl
theorem fn108 : p.fn 108 = some Tryz.f108 := by kernel_rfl
theorem nt108 : Tryz.f108.ntmps = 27 := by kernel_rfl
theorem hh108 : p.hint 108 = h108 := by kernel_rfl
theorem fn109 : p.fn 109 = some Tryz.f109 := by kernel_rfl
theorem nt109 : Tryz.f109.ntmps = 12 := by kernel_rfl
theorem hh109 : p.hint 109 = h109 := by kernel_rfl
theorem fn110 : p.fn 110 = some Tryz.f110 := by kernel_rfl
theorem nt110 : Tryz.f110.ntmps = 11 := by kernel_rfl
theorem hh110 : p.hint 110 = h110 := by kernel_rfl
theorem fn111 : p.fn 111 = some Tryz.f111 := by kernel_rfl
theorem nt111 : Tryz.f111.ntmps = 5 := by kernel_rfl
theorem hh111 : p.hint 111 = h111 := by kernel_rfl
theorem fn112 : p.fn 112 = some Tryz.f112 := by kernel_rfl
theorem nt112 : Tryz.f112.ntmps = 27 := by kernel_rfl
theorem hh112 : p.hint 112 = h112 := by kernel_rfl
theorem fn113 : p.fn 113 = some Tryz.f113 := by kernel_rfl
theorem nt113 : Tryz.f113.ntmps = 16 := by kernel_rfl
theorem hh113 : p.hint 113 = h113 := by kernel_rfl
theorem fn114 : p.fn 114 = some Tryz.f114 := by kernel_rfl
theorem nt114 : Tryz.f114.ntmps = 15 := by kernel_rfl
theorem hh114 : p.hint 114 = h114 := by kernel_rfl
theorem fn115 : p.fn 115 = some Tryz.f115 := by kernel_rfl
theorem nt115 : Tryz.f115.ntmps = 12 := by kernel_rfl
theorem hh115 : p.hint 115 = h115 := by kernel_rfl
theorem fn116 : p.fn 116 = some Tryz.f116 := by kernel_rfl
theorem nt116 : Tryz.f116.ntmps = 12 := by kernel_rfl
theorem hh116 : p.hint 116 = h116 := by kernel_rfl
theorem fn117 : p.fn 117 = some Tryz.f117 := by kernel_rfl
theorem nt117 : Tryz.f117.ntmps = 12 := by kernel_rfl
theorem hh117 : p.hint 117 = h117 := by kernel_rfl
theorem fn118 : p.fn 118 = some Tryz.f118 := by kernel_rfl
theorem nt118 : Tryz.f118.ntmps = 27 := by kernel_rfl
theorem hh118 : p.hint 118 = h118 := by kernel_rfl
theorem fn119 : p.fn 119 = some Tryz.f119 := by kernel_rfl
theorem nt119 : Tryz.f119.ntmps = 12 := by kernel_rfl
theorem hh119 : p.hint 119 = h119 := by kernel_rfl
theorem fn120 : p.fn 120 = some Tryz.f120 := by kernel_rfl
theorem nt120 : Tryz.f120.ntmps = 12 := by kernel_rfl
theorem hh120 : p.hint 120 = h120 := by kernel_rfl
theorem fn121 : p.fn 121 = some Tryz.f121 := by kernel_rfl
theorem nt121 : Tryz.f121.ntmps = 12 := by kernel_rfl
theorem hh121 : p.hint 121 = h121 := by kernel_rfl
theorem fn122 : p.fn 122 = some Tryz.f122 := by kernel_rfl
theorem nt122 : Tryz.f122.ntmps = 17 := by kernel_rfl
theorem hh122 : p.hint 122 = h122 := by kernel_rfl
theorem fn123 : p.fn 123 = some Tryz.f123 := by kernel_rfl
theorem nt123 : Tryz.f123.ntmps = 27 := by kernel_rfl
theorem hh123 : p.hint 123 = h123 := by kernel_rfl
theorem fn124 : p.fn 124 = some Tryz.f124 := by kernel_rfl
theorem nt124 : Tryz.f124.ntmps = 26 := by kernel_rfl
theorem hh124 : p.hint 124 = h124 := by kernel_rfl
theorem fn125 : p.fn 125 = some Tryz.f125 := by kernel_rfl
theorem nt125 : Tryz.f125.ntmps = 45 := by kernel_rfl
theorem hh125 : p.hint 125 = h125 := by kernel_rfl
theorem fn126 : p.fn 126 = some Tryz.f126 := by kernel_rfl
theorem nt126 : Tryz.f126.ntmps = 77 := by kernel_rfl
theorem hh126 : p.hint 126 = h126 := by kernel_rfl
theorem fn127 : p.fn 127 = some Tryz.f127 := by kernel_rfl
theorem nt127 : Tryz.f127.ntmps = 12 := by kernel_rfl
theorem hh127 : p.hint 127 = h127 := by kernel_rfl
theorem fn128 : p.fn 128 = some Tryz.f128 := by kernel_rfl
theorem nt128 : Tryz.f128.ntmps = 15 := by kernel_rfl
theorem hh128 : p.hint 128 = h128 := by kernel_rfl
theorem fn129 : p.fn 129 = some Tryz.f129 := by kernel_rfl
theorem nt129 : Tryz.f129.ntmps = 22 := by kernel_rfl
theorem hh129 : p.hint 129 = h129 := by kernel_rfl
theorem fn130 : p.fn 130 = some Tryz.f130 := by kernel_rfl
theorem nt130 : Tryz.f130.ntmps = 23 := by kernel_rfl
theorem hh130 : p.hint 130 = h130 := by kernel_rfl
theorem fn131 : p.fn 131 = some Tryz.f131 := by kernel_rfl
theorem nt131 : Tryz.f131.ntmps = 23 := by kernel_rfl
theorem hh131 : p.hint 131 = h131 := by kernel_rfl
theorem fn132 : p.fn 132 = some Tryz.f132 := by kernel_rfl
theorem nt132 : Tryz.f132.ntmps = 23 := by kernel_rfl
theorem hh132 : p.hint 132 = h132 := by kernel_rfl
theorem fn133 : p.fn 133 = some Tryz.f133 := by kernel_rfl
theorem nt133 : Tryz.f133.ntmps = 22 := by kernel_rfl
theorem hh133 : p.hint 133 = h133 := by kernel_rfl
theorem fn134 : p.fn 134 = some Tryz.f134 := by kernel_rfl
theorem nt134 : Tryz.f134.ntmps = 17 := by kernel_rfl
theorem hh134 : p.hint 134 = h134 := by kernel_rfl
theorem fn135 : p.fn 135 = some Tryz.f135 := by kernel_rfl
theorem nt135 : Tryz.f135.ntmps = 27 := by kernel_rfl
theorem hh135 : p.hint 135 = h135 := by kernel_rfl
theorem fn136 : p.fn 136 = some Tryz.f136 := by kernel_rfl
theorem nt136 : Tryz.f136.ntmps = 25 := by kernel_rfl
theorem hh136 : p.hint 136 = h136 := by kernel_rfl
theorem fn137 : p.fn 137 = some Tryz.f137 := by kernel_rfl
theorem nt137 : Tryz.f137.ntmps = 25 := by kernel_rfl
theorem hh137 : p.hint 137 = h137 := by kernel_rfl
theorem fn138 : p.fn 138 = some Tryz.f138 := by kernel_rfl
theorem nt138 : Tryz.f138.ntmps = 37 := by kernel_rfl
theorem hh138 : p.hint 138 = h138 := by kernel_rfl
theorem fn139 : p.fn 139 = some Tryz.f139 := by kernel_rfl
theorem nt139 : Tryz.f139.ntmps = 54 := by kernel_rfl
theorem hh139 : p.hint 139 = h139 := by kernel_rfl
theorem fn140 : p.fn 140 = some Tryz.f140 := by kernel_rfl
theorem nt140 : Tryz.f140.ntmps = 35 := by kernel_rfl
theorem hh140 : p.hint 140 = h140 := by kernel_rfl
theorem fn141 : p.fn 141 = some Tryz.f141 := by kernel_rfl
theorem nt141 : Tryz.f141.ntmps = 16 := by kernel_rfl
theorem hh141 : p.hint 141 = h141 := by kernel_rfl
theorem fn142 : p.fn 142 = some Tryz.f142 := by kernel_rfl
theorem nt142 : Tryz.f142.ntmps = 21 := by kernel_rfl
theorem hh142 : p.hint 142 = h142 := by kernel_rfl
theorem fn143 : p.fn 143 = some Tryz.f143 := by kernel_rfl
theorem nt143 : Tryz.f143.ntmps = 26 := by kernel_rfl
theorem hh143 : p.hint 143 = h143 := by kernel_rfl
theorem fn144 : p.fn 144 = some Tryz.f144 := by kernel_rfl
theorem nt144 : Tryz.f144.ntmps = 27 := by kernel_rfl
theorem hh144 : p.hint 144 = h144 := by kernel_rfl
theorem fn145 : p.fn 145 = some Tryz.f145 := by kernel_rfl
theorem nt145 : Tryz.f145.ntmps = 27 := by kernel_rfl
theorem hh145 : p.hint 145 = h145 := by kernel_rfl
theorem fn146 : p.fn 146 = some Tryz.f146 := by kernel_rfl
theorem nt146 : Tryz.f146.ntmps = 27 := by kernel_rfl
theorem hh146 : p.hint 146 = h146 := by kernel_rfl
theorem fn147 : p.fn 147 = some Tryz.f147 := by kernel_rfl
theorem nt147 : Tryz.f147.ntmps = 26 := by kernel_rfl
theorem hh147 : p.hint 147 = h147 := by kernel_rfl
theorem fn148 : p.fn 148 = some Tryz.f148 := by kernel_rfl
theorem nt148 : Tryz.f148.ntmps = 10 := by kernel_rfl
theorem hh148 : p.hint 148 = h148 := by kernel_rfl
theorem fn149 : p.fn 149 = some Tryz.f149 := by kernel_rfl
theorem nt149 : Tryz.f149.ntmps = 54 := by kernel_rfl
theorem hh149 : p.hint 149 = h149 := by kernel_rfl
theorem fn150 : p.fn 150 = some Tryz.f150 := by kernel_rfl
theorem nt150 : Tryz.f150.ntmps = 11 := by kernel_rfl
theorem hh150 : p.hint 150 = h150 := by kernel_rfl
theorem fn151 : p.fn 151 = some Tryz.f151 := by kernel_rfl
theorem nt151 : Tryz.f151.ntmps = 26 := by kernel_rfl
theorem hh151 : p.hint 151 = h151 := by kernel_rfl
theorem fn152 : p.fn 152 = some Tryz.f152 := by kernel_rfl
theorem nt152 : Tryz.f152.ntmps = 13 := by kernel_rfl
theorem hh152 : p.hint 152 = h152 := by kernel_rfl
theorem fn153 : p.fn 153 = some Tryz.f153 := by kernel_rfl
theorem nt153 : Tryz.f153.ntmps = 20 := by kernel_rfl
theorem hh153 : p.hint 153 = h153 := by kernel_rfl
theorem fn154 : p.fn 154 = some Tryz.f154 := by kernel_rfl
theorem nt154 : Tryz.f154.ntmps = 30 := by kernel_rfl
theorem hh154 : p.hint 154 = h154 := by kernel_rfl
theorem fn155 : p.fn 155 = some Tryz.f155 := by kernel_rfl
theorem nt155 : Tryz.f155.ntmps = 27 := by kernel_rfl
theorem hh155 : p.hint 155 = h155 := by kernel_rfl
theorem fn156 : p.fn 156 = some Tryz.f156 := by kernel_rfl
theorem nt156 : Tryz.f156.ntmps = 20 := by kernel_rfl
theorem hh156 : p.hint 156 = h156 := by kernel_rfl
theorem fn157 : p.fn 157 = some Tryz.f157 := by kernel_rfl
theorem nt157 : Tryz.f157.ntmps = 22 := by kernel_rfl
theorem hh157 : p.hint 157 = h157 := by kernel_rfl
theorem fn158 : p.fn 158 = some Tryz.f158 := by kernel_rfl
theorem nt158 : Tryz.f158.ntmps = 23 := by kernel_rfl
theorem hh158 : p.hint 158 = h158 := by kernel_rfl
theorem fn159 : p.fn 159 = some Tryz.f159 := by kernel_rfl
theorem nt159 : Tryz.f159.ntmps = 17 := by kernel_rfl
theorem hh159 : p.hint 159 = h159 := by kernel_rfl
theorem fn160 : p.fn 160 = some Tryz.f160 := by kernel_rfl
theorem nt160 : Tryz.f160.ntmps = 14 := by kernel_rfl
theorem hh160 : p.hint 160 = h160 := by kernel_rfl
theorem fn161 : p.fn 161 = some Tryz.f161 := by kernel_rfl
theorem nt161 : Tryz.f161.ntmps = 20 := by kernel_rfl
theorem hh161 : p.hint 161 = h161 := by kernel_rfl
theorem fn162 : p.fn 162 = some Tryz.f162 := by kernel_rfl
theorem nt162 : Tryz.f162.ntmps = 22 := by kernel_rfl
theorem hh162 : p.hint 162 = h162 := by kernel_rfl
theorem fn163 : p.fn 163 = some Tryz.f163 := by kernel_rfl
theorem nt163 : Tryz.f163.ntmps = 16 := by kernel_rfl
theorem hh163 : p.hint 163 = h163 := by kernel_rfl
theorem fn164 : p.fn 164 = some Tryz.f164 := by kernel_rfl
theorem nt164 : Tryz.f164.ntmps = 29 := by kernel_rfl
theorem hh164 : p.hint 164 = h164 := by kernel_rfl
theorem fn165 : p.fn 165 = some Tryz.f165 := by kernel_rfl
theorem nt165 : Tryz.f165.ntmps = 27 := by kernel_rfl
theorem hh165 : p.hint 165 = h165 := by kernel_rfl
theorem fn166 : p.fn 166 = some Tryz.f166 := by kernel_rfl
theorem nt166 : Tryz.f166.ntmps = 25 := by kernel_rfl
theorem hh166 : p.hint 166 = h166 := by kernel_rfl
theorem fn167 : p.fn 167 = some Tryz.f167 := by kernel_rfl
theorem nt167 : Tryz.f167.ntmps = 20 := by kernel_rfl
theorem hh167 : p.hint 167 = h167 := by kernel_rfl
theorem fn168 : p.fn 168 = some Tryz.f168 := by kernel_rfl
theorem nt168 : Tryz.f168.ntmps = 12 := by kernel_rfl
theorem hh168 : p.hint 168 = h168 := by kernel_rfl
theorem fn169 : p.fn 169 = some Tryz.f169 := by kernel_rfl
theorem nt169 : Tryz.f169.ntmps = 32 := by kernel_rfl
theorem hh169 : p.hint 169 = h169 := by kernel_rfl
theorem fn170 : p.fn 170 = some Tryz.f170 := by kernel_rfl
theorem nt170 : Tryz.f170.ntmps = 34 := by kernel_rfl
theorem hh170 : p.hint 170 = h170 := by kernel_rfl
theorem fn171 : p.fn 171 = some Tryz.f171 := by kernel_rfl
theorem nt171 : Tryz.f171.ntmps = 91 := by kernel_rfl
theorem hh171 : p.hint 171 = h171 := by kernel_rfl
theorem fn172 : p.fn 172 = some Tryz.f172 := by kernel_rfl
theorem nt172 : Tryz.f172.ntmps = 62 := by kernel_rfl
theorem hh172 : p.hint 172 = h172 := by kernel_rfl
theorem fn173 : p.fn 173 = some Tryz.f173 := by kernel_rfl
theorem nt173 : Tryz.f173.ntmps = 25 := by kernel_rfl
theorem hh173 : p.hint 173 = h173 := by kernel_rfl
theorem fn174 : p.fn 174 = some Tryz.f174 := by kernel_rfl
theorem nt174 : Tryz.f174.ntmps = 31 := by kernel_rfl
theorem hh174 : p.hint 174 = h174 := by kernel_rfl
theorem fn175 : p.fn 175 = some Tryz.f175 := by kernel_rfl
theorem nt175 : Tryz.f175.ntmps = 72 := by kernel_rfl
theorem hh175 : p.hint 175 = h175 := by kernel_rfl
theorem fn176 : p.fn 176 = some Tryz.f176 := by kernel_rfl
theorem nt176 : Tryz.f176.ntmps = 54 := by kernel_rfl
theorem hh176 : p.hint 176 = h176 := by kernel_rfl
theorem fn177 : p.fn 177 = some Tryz.f177 := by kernel_rfl
theorem nt177 : Tryz.f177.ntmps = 18 := by kernel_rfl
theorem hh177 : p.hint 177 = h177 := by kernel_rfl
theorem fn178 : p.fn 178 = some Tryz.f178 := by kernel_rfl
theorem nt178 : Tryz.f178.ntmps = 24 := by kernel_rfl
theorem hh178 : p.hint 178 = h178 := by kernel_rfl
theorem fn179 : p.fn 179 = some Tryz.f179 := by kernel_rfl
theorem nt179 : Tryz.f179.ntmps = 18 := by kernel_rfl
theorem hh179 : p.hint 179 = h179 := by kernel_rfl
theorem fn180 : p.fn 180 = some Tryz.f180 := by kernel_rfl
theorem nt180 : Tryz.f180.ntmps = 20 := by kernel_rfl
theorem hh180 : p.hint 180 = h180 := by kernel_rfl
theorem fn181 : p.fn 181 = some Tryz.f181 := by kernel_rfl
theorem nt181 : Tryz.f181.ntmps = 8 := by kernel_rfl
theorem hh181 : p.hint 181 = h181 := by kernel_rfl
theorem fn182 : p.fn 182 = some Tryz.f182 := by kernel_rfl
theorem nt182 : Tryz.f182.ntmps = 9 := by kernel_rfl
theorem hh182 : p.hint 182 = h182 := by kernel_rfl
theorem fn183 : p.fn 183 = some Tryz.f183 := by kernel_rfl
theorem nt183 : Tryz.f183.ntmps = 18 := by kernel_rfl
theorem hh183 : p.hint 183 = h183 := by kernel_rfl
theorem fn184 : p.fn 184 = some Tryz.f184 := by kernel_rfl
theorem nt184 : Tryz.f184.ntmps = 10 := by kernel_rfl
theorem hh184 : p.hint 184 = h184 := by kernel_rfl
theorem fn185 : p.fn 185 = some Tryz.f185 := by kernel_rfl
theorem nt185 : Tryz.f185.ntmps = 10 := by kernel_rfl
theorem hh185 : p.hint 185 = h185 := by kernel_rfl
theorem fn186 : p.fn 186 = some Tryz.f186 := by kernel_rfl
theorem nt186 : Tryz.f186.ntmps = 9 := by kernel_rfl
theorem hh186 : p.hint 186 = h186 := by kernel_rfl
theorem fn187 : p.fn 187 = some Tryz.f187 := by kernel_rfl
theorem nt187 : Tryz.f187.ntmps = 10 := by kernel_rfl
theorem hh187 : p.hint 187 = h187 := by kernel_rfl
theorem fn188 : p.fn 188 = some Tryz.f188 := by kernel_rfl
theorem nt188 : Tryz.f188.ntmps = 6 := by kernel_rfl
theorem hh188 : p.hint 188 = h188 := by kernel_rfl
theorem fn190 : p.fn 190 = some Tryz.f190 := by kernel_rfl
theorem nt190 : Tryz.f190.ntmps = 19 := by kernel_rfl
theorem hh190 : p.hint 190 = h190 := by kernel_rfl
set_option maxRecDepth 100000 in
theorem fnTab_ok : ∀ q ∈ fnTab, FnOk Tryz.prog q.1 q.2 := all_of (⟨⟨Tryz.func3, by kernel_rfl, by kernel_rfl⟩, ⟨⟨Tryz.func4, by kernel_rfl, by kernel_rfl⟩, ⟨⟨Tryz.func5, by kernel_rfl, by kernel_rfl⟩, ⟨⟨Tryz.func6, by kernel_rfl, by kernel_rfl⟩, ⟨⟨Tryz.func7, by kernel_rfl, by kernel_rfl⟩, ⟨⟨Tryz.func8, by kernel_rfl, by kernel_rfl⟩, ⟨⟨Tryz.func9, by kernel_rfl, by kernel_rfl⟩, ⟨⟨Tryz.func10, by kernel_rfl, by kernel_rfl⟩, ⟨⟨Tryz.func11, by kernel_rfl, by kernel_rfl⟩, ⟨⟨Tryz.func12, by kernel_rfl, by kernel_rfl⟩, ⟨⟨Tryz.func13, by kernel_rfl, by kernel_rfl⟩, ⟨⟨Tryz.func14, by kernel_rfl, by kernel_rfl⟩, ⟨⟨Tryz.func15, by kernel_rfl, by kernel_rfl⟩, ⟨⟨Tryz.func16, by kernel_rfl, by kernel_rfl⟩, ⟨⟨Tryz.func17, by kernel_rfl, by kernel_rfl⟩, ⟨⟨Tryz.func18, by kernel_rfl, by kernel_rfl⟩, ⟨⟨Tryz.func19, by kernel_rfl, by kernel_rfl⟩, ⟨⟨Tryz.func20, by kernel_rfl, by kernel_rfl⟩, ⟨⟨Tryz.func21, by kernel_rfl, by kernel_rfl⟩, ⟨⟨Tryz.func22, by kernel_rfl, by kernel_rfl⟩, ⟨⟨Tryz.func23, by kernel_rfl, by kernel_rfl⟩, ⟨⟨Tryz.func24, by kernel_rfl, by kernel_rfl⟩, ⟨⟨Tryz.func25, by kernel_rfl, by kernel_rfl⟩, ⟨⟨Tryz.func26, by kernel_rfl, by kernel_rfl⟩, ⟨⟨Tryz.func27, by kernel_rfl, by kernel_rfl⟩, ⟨⟨Tryz.func28, by kernel_rfl, by kernel_rfl⟩, ⟨⟨Tryz.func29, by kernel_rfl, by kernel_rfl⟩, ⟨⟨Tryz.func30, by kernel_rfl, by kernel_rfl⟩, ⟨⟨Tryz.func31, by kernel_rfl, by kernel_rfl⟩, ⟨⟨Tryz.func32, by kernel_rfl, by kernel_rfl⟩, ⟨⟨Tryz.func33, by kernel_rfl, by kernel_rfl⟩, ⟨⟨Tryz.func34, by kernel_rfl, by kernel_rfl⟩, ⟨⟨Tryz.func35, by kernel_rfl, by kernel_rfl⟩, ⟨⟨Tryz.func36, by kernel_rfl, by kernel_rfl⟩, ⟨⟨Tryz.func37, by kernel_rfl, by kernel_rfl⟩, ⟨⟨Tryz.func38, by kernel_rfl, by kernel_rfl⟩, ⟨⟨Tryz.func39, by kernel_rfl, by kernel_rfl⟩, ⟨⟨Tryz.func40, by kernel_rfl, by kernel_rfl⟩, ⟨⟨Tryz.func41, by kernel_rfl, by kernel_rfl⟩, ⟨⟨Tryz.func42, by kernel_rfl, by kernel_rfl⟩, ⟨⟨Tryz.func43, by kernel_rfl, by kernel_rfl⟩, ⟨⟨Tryz.func44, by kernel_rfl, by kernel_rfl⟩, ⟨⟨Tryz.func45, by kernel_rfl, by kernel_rfl⟩, ⟨⟨Tryz.func46, by kernel_rfl, by kernel_rfl⟩, ⟨⟨Tryz.func47, by kernel_rfl, by kernel_rfl⟩, ⟨⟨Tryz.func48, by kernel_rfl, by kernel_rfl⟩, ⟨⟨Tryz.func49, by kernel_rfl, by kernel_rfl⟩, ⟨⟨Tryz.func50, by kernel_rfl, by kernel_rfl⟩, ⟨⟨Tryz.func51, by kernel_rfl, by kernel_rfl⟩, ⟨⟨Tryz.func52, by kernel_rfl, by kernel_rfl⟩, ⟨⟨Tryz.func53, by kernel_rfl, by kernel_rfl⟩, ⟨⟨Tryz.func54, by kernel_rfl, by kernel_rfl⟩, ⟨⟨Tryz.func55, by kernel_rfl, by kernel_rfl⟩, ⟨⟨Tryz.func56, by kernel_rfl, by kernel_rfl⟩, ⟨⟨Tryz.func57, by kernel_rfl, by kernel_rfl⟩, ⟨⟨Tryz.func58, by kernel_rfl, by kernel_rfl⟩, ⟨⟨Tryz.func59, by kernel_rfl, by kernel_rfl⟩, ⟨⟨Tryz.func60, by kernel_rfl, by kernel_rfl⟩, ⟨⟨Tryz.func61, by kernel_rfl, by kernel_rfl⟩, ⟨⟨Tryz.func62, by kernel_rfl, by kernel_rfl⟩, ⟨⟨Tryz.func63, by kernel_rfl, by kernel_rfl⟩, ⟨⟨Tryz.func64, by kernel_rfl, by kernel_rfl⟩, ⟨⟨Tryz.func65, by kernel_rfl, by kernel_rfl⟩, ⟨⟨Tryz.func66, by kernel_rfl, by kernel_rfl⟩, ⟨⟨Tryz.func67, by kernel_rfl, by kernel_rfl⟩, ⟨⟨Tryz.func68, by kernel_rfl, by kernel_rfl⟩, ⟨⟨Tryz.func69, by kernel_rfl, by kernel_rfl⟩, ⟨⟨Tryz.func70, by kernel_rfl, by kernel_rfl⟩, ⟨⟨Tryz.func71, by kernel_rfl, by kernel_rfl⟩, ⟨⟨Tryz.func72, by kernel_rfl, by kernel_rfl⟩, ⟨⟨Tryz.func73, by kernel_rfl, by kernel_rfl⟩, ⟨⟨Tryz.func74, by kernel_rfl, by kernel_rfl⟩, ⟨⟨Tryz.func75, by kernel_rfl, by kernel_rfl⟩, ⟨⟨Tryz.func76, by kernel_rfl, by kernel_rfl⟩, ⟨⟨Tryz.func77, by kernel_rfl, by kernel_rfl⟩, ⟨⟨Tryz.func78, by kernel_rfl, by kernel_rfl⟩, ⟨⟨Tryz.func79, by kernel_rfl, by kernel_rfl⟩, ⟨⟨Tryz.func80, by kernel_rfl, by kernel_rfl⟩, ⟨⟨Tryz.func81, by kernel_rfl, by kernel_rfl⟩, ⟨⟨Tryz.func82, by kernel_rfl, by kernel_rfl⟩, ⟨⟨Tryz.func83, by kernel_rfl, by kernel_rfl⟩, ⟨⟨Tryz.func84, by kernel_rfl, by kernel_rfl⟩, ⟨⟨Tryz.func85, by kernel_rfl, by kernel_rfl⟩, ⟨⟨Tryz.func86, by kernel_rfl, by kernel_rfl⟩, ⟨⟨Tryz.func87, by kernel_rfl, by kernel_rfl⟩, ⟨⟨Tryz.func88, by kernel_rfl, by kernel_rfl⟩, ⟨⟨Tryz.func89, by kernel_rfl, by kernel_rfl⟩, ⟨⟨Tryz.func90, by kernel_rfl, by kernel_rfl⟩, ⟨⟨Tryz.func91, by kernel_rfl, by kernel_rfl⟩, ⟨⟨Tryz.func92, by kernel_rfl, by kernel_rfl⟩, ⟨⟨Tryz.func93, by kernel_rfl, by kernel_rfl⟩, ⟨⟨Tryz.func94, by kernel_rfl, by kernel_rfl⟩, ⟨⟨Tryz.func95, by kernel_rfl, by kernel_rfl⟩, ⟨⟨Tryz.func96, by kernel_rfl, by kernel_rfl⟩, ⟨⟨Tryz.func97, by kernel_rfl, by kernel_rfl⟩, ⟨⟨Tryz.func98, by kernel_rfl, by kernel_rfl⟩, ⟨⟨Tryz.func99, by kernel_rfl, by kernel_rfl⟩, ⟨⟨Tryz.func100, by kernel_rfl, by kernel_rfl⟩, ⟨⟨Tryz.func101, by kernel_rfl, by kernel_rfl⟩, ⟨⟨Tryz.func102, by kernel_rfl, by kernel_rfl⟩, ⟨⟨Tryz.func103, by kernel_rfl, by kernel_rfl⟩, ⟨⟨Tryz.func104, by kernel_rfl, by kernel_rfl⟩, ⟨⟨Tryz.func105, by kernel_rfl, by kernel_rfl⟩, ⟨⟨Tryz.func106, by kernel_rfl, by kernel_rfl⟩, ⟨⟨Tryz.func107, by kernel_rfl, by kernel_rfl⟩, ⟨⟨Tryz.func108, by kernel_rfl, by kernel_rfl⟩, ⟨⟨Tryz.func109, by kernel_rfl, by kernel_rfl⟩, ⟨⟨Tryz.func110, by kernel_rfl, by kernel_rfl⟩, ⟨⟨Tryz.func111, by kernel_rfl, by kernel_rfl⟩, ⟨⟨Tryz.func112, by kernel_rfl, by kernel_rfl⟩, ⟨⟨Tryz.func113, by kernel_rfl, by kernel_rfl⟩, ⟨⟨Tryz.func114, by kernel_rfl, by kernel_rfl⟩, ⟨⟨Tryz.func115, by kernel_rfl, by kernel_rfl⟩, ⟨⟨Tryz.func116, by kernel_rfl, by kernel_rfl⟩, ⟨⟨Tryz.func117, by kernel_rfl, by kernel_rfl⟩, ⟨⟨Tryz.func118, by kernel_rfl, by kernel_rfl⟩, ⟨⟨Tryz.func119, by kernel_rfl, by kernel_rfl⟩, ⟨⟨Tryz.func120, by kernel_rfl, by kernel_rfl⟩, ⟨⟨Tryz.func121, by kernel_rfl, by kernel_rfl⟩, ⟨⟨Tryz.func122, by kernel_rfl, by kernel_rfl⟩, ⟨⟨Tryz.func123, by kernel_rfl, by kernel_rfl⟩, ⟨⟨Tryz.func124, by kernel_rfl, by kernel_rfl⟩, ⟨⟨Tryz.func125, by kernel_rfl, by kernel_rfl⟩, ⟨⟨Tryz.func126, by kernel_rfl, by kernel_rfl⟩, ⟨⟨Tryz.func127, by kernel_rfl, by kernel_rfl⟩, ⟨⟨Tryz.func128, by kernel_rfl, by kernel_rfl⟩, ⟨⟨Tryz.func129, by kernel_rfl, by kernel_rfl⟩, ⟨⟨Tryz.func130, by kernel_rfl, by kernel_rfl⟩, ⟨⟨Tryz.func131, by kernel_rfl, by kernel_rfl⟩, ⟨⟨Tryz.func132, by kernel_rfl, by kernel_rfl⟩, ⟨⟨Tryz.func133, by kernel_rfl, by kernel_rfl⟩, ⟨⟨Tryz.func134, by kernel_rfl, by kernel_rfl⟩, ⟨⟨Tryz.func135, by kernel_rfl, by kernel_rfl⟩, ⟨⟨Tryz.func136, by kernel_rfl, by kernel_rfl⟩, ⟨⟨Tryz.func137, by kernel_rfl, by kernel_rfl⟩, ⟨⟨Tryz.func138, by kernel_rfl, by kernel_rfl⟩, ⟨⟨Tryz.func139, by kernel_rfl, by kernel_rfl⟩, ⟨⟨Tryz.func140, by kernel_rfl, by kernel_rfl⟩, ⟨⟨Tryz.func141, by kernel_rfl, by kernel_rfl⟩, ⟨⟨Tryz.func142, by kernel_rfl, by kernel_rfl⟩, ⟨⟨Tryz.func143, by kernel_rfl, by kernel_rfl⟩, ⟨⟨Tryz.func144, by kernel_rfl, by kernel_rfl⟩, ⟨⟨Tryz.func145, by kernel_rfl, by kernel_rfl⟩, ⟨⟨Tryz.func146, by kernel_rfl, by kernel_rfl⟩, ⟨⟨Tryz.func147, by kernel_rfl, by kernel_rfl⟩, ⟨⟨Tryz.func148, by kernel_rfl, by kernel_rfl⟩, ⟨⟨Tryz.func149, by kernel_rfl, by kernel_rfl⟩, ⟨⟨Tryz.func150, by kernel_rfl, by kernel_rfl⟩, ⟨⟨Tryz.func151, by kernel_rfl, by kernel_rfl⟩, ⟨⟨Tryz.func152, by kernel_rfl, by kernel_rfl⟩, ⟨⟨Tryz.func153, by kernel_rfl, by kernel_rfl⟩, ⟨⟨Tryz.func154, by kernel_rfl, by kernel_rfl⟩, ⟨⟨Tryz.func155, by kernel_rfl, by kernel_rfl⟩, ⟨⟨Tryz.func156, by kernel_rfl, by kernel_rfl⟩, ⟨⟨Tryz.func157, by kernel_rfl, by kernel_rfl⟩, ⟨⟨Tryz.func158, by kernel_rfl, by kernel_rfl⟩, ⟨⟨Tryz.func159, by kernel_rfl, by kernel_rfl⟩, ⟨⟨Tryz.func160, by kernel_rfl, by kernel_rfl⟩, ⟨⟨Tryz.func161, by kernel_rfl, by kernel_rfl⟩, ⟨⟨Tryz.func162, by kernel_rfl, by kernel_rfl⟩, ⟨⟨Tryz.func163, by kernel_rfl, by kernel_rfl⟩, ⟨⟨Tryz.func164, by kernel_rfl, by kernel_rfl⟩, ⟨⟨Tryz.func165, by kernel_rfl, by kernel_rfl⟩, ⟨⟨Tryz.func166, by kernel_rfl, by kernel_rfl⟩, ⟨⟨Tryz.func167, by kernel_rfl, by kernel_rfl⟩, ⟨⟨Tryz.func168, by kernel_rfl, by kernel_rfl⟩, ⟨⟨Tryz.func169, by kernel_rfl, by kernel_rfl⟩, ⟨⟨Tryz.func170, by kernel_rfl, by kernel_rfl⟩, ⟨⟨Tryz.func171, by kernel_rfl, by kernel_rfl⟩, ⟨⟨Tryz.func172, by kernel_rfl, by kernel_rfl⟩, ⟨⟨Tryz.func173, by kernel_rfl, by kernel_rfl⟩, ⟨⟨Tryz.func174, by kernel_rfl, by kernel_rfl⟩, ⟨⟨Tryz.func175, by kernel_rfl, by kernel_rfl⟩, ⟨⟨Tryz.func176, by kernel_rfl, by kernel_rfl⟩, ⟨⟨Tryz.func177, by kernel_rfl, by kernel_rfl⟩, ⟨⟨Tryz.func178, by kernel_rfl, by kernel_rfl⟩, ⟨⟨Tryz.func179, by kernel_rfl, by kernel_rfl⟩, ⟨⟨Tryz.func180, by kernel_rfl, by kernel_rfl⟩, ⟨⟨Tryz.func181, by kernel_rfl, by kernel_rfl⟩, ⟨⟨Tryz.func182, by kernel_rfl, by kernel_rfl⟩, ⟨⟨Tryz.func183, by kernel_rfl, by kernel_rfl⟩, ⟨⟨Tryz.func184, by kernel_rfl, by kernel_rfl⟩, ⟨⟨Tryz.func185, by kernel_rfl, by kernel_rfl⟩, ⟨⟨Tryz.func186, by kernel_rfl, by kernel_rfl⟩, ⟨⟨Tryz.func187, by kernel_rfl, by kernel_rfl⟩, ⟨⟨Tryz.func188, by kernel_rfl, by kernel_rfl⟩, ⟨⟨Tryz.func190, by kernel_rfl, by kernel_rfl⟩, trivial⟩⟩⟩⟩⟩⟩⟩⟩⟩⟩⟩⟩⟩⟩⟩⟩⟩⟩⟩⟩⟩⟩⟩⟩⟩⟩⟩⟩⟩⟩⟩⟩⟩⟩⟩⟩⟩⟩⟩⟩⟩⟩⟩⟩⟩⟩⟩⟩⟩⟩⟩⟩⟩⟩⟩⟩⟩⟩⟩⟩⟩⟩⟩⟩⟩⟩⟩⟩⟩⟩⟩⟩⟩⟩⟩⟩⟩⟩⟩⟩⟩⟩⟩⟩⟩⟩⟩⟩⟩⟩⟩⟩⟩⟩⟩⟩⟩⟩⟩⟩⟩⟩⟩⟩⟩⟩⟩⟩⟩⟩⟩⟩⟩⟩⟩⟩⟩⟩⟩⟩⟩⟩⟩⟩⟩⟩⟩⟩⟩⟩⟩⟩⟩⟩⟩⟩⟩⟩⟩⟩⟩⟩⟩⟩⟩⟩⟩⟩⟩⟩⟩⟩⟩⟩⟩⟩⟩⟩⟩⟩⟩⟩⟩⟩⟩⟩⟩⟩⟩⟩⟩⟩⟩⟩⟩⟩⟩⟩⟩⟩⟩⟩⟩⟩⟩⟩⟩)
theorem prg_ok : PrgOk Tryz.prog p where
  ti := tabB_ok (by kernel_rfl)
  depth := Nat.le_of_ble_eq_true (by kernel_rfl)
  mixed := by kernel_rfl
  fn := fun g fn h => (fnTab_ok _ (look_mem fnTab h)).out
  own := fun g F h xs out ho => by
    have hm := look_mem ownTab h
    rcases List.mem_singleton.1 hm with e
    cases e
    exact cmpF_fits ⟨Tryz.f181, FnOk.out (P := Tryz.prog) (g := 181) ⟨Tryz.func181, by kernel_rfl, by kernel_rfl⟩⟩ (by kernel_rfl) Tryz.strings_Compare xs out ho
theorem k_ok : KOk p.ti := kindsB_ok (by kernel_rfl)
end Go.Abs.Vz
