/- What the functions of this program answer, part p. -/
import Derived.Test.YthgbmlfjiagadaaGreatXz
import Derived.Test.YthgbmlfjiagadaaGreatW1
import Derived.KernelRfl
set_option linter.unusedVariables false
namespace Go.Abs.Tz
open Go Go.Abs Go.Proofs
def rts : Nat → Option (List Nat) := fun g => look? g [(4, [4]), (5, [4]), (6, [4]), (7, [4]), (13, [4]), (16, [4]), (19, [4]), (20, [3]), (21, [28]), (22, [4]), (23, [4]), (24, [41]), (25, [4]), (26, [4]), (27, [4]), (28, [4]), (29, [4]), (36, [4]), (39, [4]), (40, [4]), (41, [4]), (43, [4]), (48, [4]), (49, [4]), (50, [4]), (51, [4]), (58, [52]), (59, [3]), (60, [3]), (61, [3]), (62, [24]), (63, [25]), (64, [26]), (65, [4]), (66, [4]), (67, [4]), (68, [52]), (69, [4]), (76, [4]), (78, [4]), (84, [57]), (85, [4]), (86, [4]), (87, [3]), (88, [4]), (89, [4]), (90, [4]), (91, [4]), (92, [3]), (94, [4]), (101, [4]), (102, [57]), (103, [3]), (104, [4]), (105, [4]), (106, [3]), (107, [4]), (108, [4]), (109, [4]), (110, [4]), (111, [4]), (112, [3]), (116, [4]), (121, [3]), (122, [3]), (123, [3]), (124, [65]), (125, [67]), (126, [69]), (127, [4]), (128, [4]), (129, [4]), (157, [3]), (158, [3]), (164, [3]), (165, [3]), (166, [4]), (167, [3]), (170, [3]), (171, [3]), (172, [3]), (173, [3]), (174, [3]), (175, [3]), (176, [3]), (177, [3]), (178, [55]), (179, [57]), (180, [60]), (181, [61]), (182, [62]), (183, [63]), (184, [22]), (185, [4]), (186, [4]), (187, [4]), (188, [4]), (189, [4]), (190, [4]), (191, [4]), (211, [22]), (221, [55]), (222, [3]), (223, [22]), (224, [22]), (228, [3]), (229, [22]), (230, [55]), (231, [22]), (232, [3]), (233, [3]), (234, [3]), (235, [52]), (236, [53]), (237, [58]), (238, [102]), (239, [104]), (240, [4]), (241, [4]), (242, [4]), (243, [4]), (244, [4]), (261, [4]), (262, [3]), (263, [22]), (268, [22]), (269, [4]), (270, [3]), (271, [3]), (272, [83]), (273, [106]), (274, [4]), (275, [4]), (294, [3]), (295, [3]), (296, [81]), (297, [4])]
def E1 (call : Nat → List Abs.Arg → Option Out) (n : Nat) (h : Hints) : Env := { ti := ti, n := n, call := call, fresh := fun _ => true, h := h }
def h4 : Hints := ⟨true, [], []⟩
def h5 : Hints := ⟨true, [], []⟩
def h6 : Hints := ⟨true, [], []⟩
def h7 : Hints := ⟨true, [], []⟩
def h13 : Hints := ⟨true, [], [(15, ⟨[1, 3, 6], [32], []⟩), (10, ⟨[1, 3, 5], [32], []⟩), (5, ⟨[1, 3, 4], [32], []⟩)]⟩
def h16 : Hints := ⟨true, [], [(16, ⟨[1, 66, 67, 68], [32], []⟩), (10, ⟨[1, 53, 54, 55], [32], []⟩), (4, ⟨[1, 27, 28, 29], [32], []⟩)]⟩
def h19 : Hints := ⟨true, [], [(5, ⟨[1, 8, 9, 10, 16, 17, 18], [32], []⟩), (2, ⟨[1, 8, 9, 10], [32], []⟩)]⟩
def h20 : Hints := ⟨true, [], []⟩
def h21 : Hints := ⟨true, [], []⟩
def h22 : Hints := ⟨true, [], []⟩
def h23 : Hints := ⟨true, [], []⟩
def h24 : Hints := ⟨true, [], [(3, ⟨[0, 3, 4], [224], []⟩)]⟩
def h25 : Hints := ⟨true, [], []⟩
def h26 : Hints := ⟨true, [], [(4, ⟨[0, 1, 5], [], []⟩)]⟩
def h27 : Hints := ⟨true, [], [(4, ⟨[1, 3], [32], []⟩)]⟩
def h28 : Hints := ⟨true, [], [(7, ⟨[1, 2, 5, 6], [64], []⟩), (4, ⟨[1, 2, 5], [64], []⟩)]⟩
def h29 : Hints := ⟨true, [], [(7, ⟨[1, 2, 5, 6, 14, 15, 16, 22, 23, 24], [64, 192], []⟩), (4, ⟨[1, 2, 14, 15, 16], [64], []⟩)]⟩
def h36 : Hints := ⟨true, [], [(9, ⟨[2, 3, 6], [64, 96], []⟩), (4, ⟨[2, 3, 5], [64, 96], []⟩)]⟩
def h39 : Hints := ⟨true, [], []⟩
def h40 : Hints := ⟨true, [], [(13, ⟨[1, 4], [32], []⟩), (6, ⟨[1, 3], [32], []⟩)]⟩
def h41 : Hints := ⟨true, [], [(8, ⟨[1, 5], [32], []⟩), (2, ⟨[1, 3], [32], []⟩)]⟩
def h43 : Hints := ⟨true, [], []⟩
def h48 : Hints := ⟨true, [], []⟩
def h49 : Hints := ⟨true, [], []⟩
def h50 : Hints := ⟨true, [], []⟩
def h51 : Hints := ⟨true, [], [(8, ⟨[1, 43, 44, 45], [32], []⟩), (2, ⟨[1, 8, 9, 10], [32], []⟩)]⟩
def h58 : Hints := ⟨true, [], [(5, ⟨[3, 12, 13, 14], [60080], [(none, 3, 60080, 83)]⟩)]⟩
def h59 : Hints := ⟨true, [], [(5, ⟨[0, 1, 5], [], []⟩)]⟩
def h60 : Hints := ⟨true, [], [(5, ⟨[0, 1, 5], [], []⟩)]⟩
def h61 : Hints := ⟨true, [], [(5, ⟨[0, 1, 5], [], []⟩)]⟩
def h62 : Hints := ⟨true, [], [(3, ⟨[0, 3, 4], [224], []⟩)]⟩
def h63 : Hints := ⟨true, [], [(3, ⟨[0, 3, 4], [224], []⟩)]⟩
def h64 : Hints := ⟨true, [], [(3, ⟨[0, 3, 4], [224], []⟩)]⟩
def h65 : Hints := ⟨true, [], [(4, ⟨[0, 1, 5], [], []⟩)]⟩
def h66 : Hints := ⟨true, [], [(4, ⟨[0, 1, 5], [], []⟩)]⟩
def h67 : Hints := ⟨true, [], [(4, ⟨[0, 1, 5], [], []⟩)]⟩
def h68 : Hints := ⟨true, [], [(5, ⟨[1, 3, 4], [32, 60080], [(none, 3, 60080, 83)]⟩)]⟩
def h69 : Hints := ⟨true, [], []⟩
def h76 : Hints := ⟨true, [], []⟩
def h78 : Hints := ⟨true, [], [(4, ⟨[0, 1, 5], [], []⟩)]⟩
def h84 : Hints := ⟨true, [], [(5, ⟨[1, 2, 3, 4], [32, 64, 96, 60080], [(some 96, 0, 60080, 3)]⟩)]⟩
def h85 : Hints := ⟨true, [], [(4, ⟨[1, 3], [32], []⟩)]⟩
def h86 : Hints := ⟨true, [], [(4, ⟨[0, 1, 5], [], []⟩)]⟩
def h87 : Hints := ⟨true, [], []⟩
def h88 : Hints := ⟨true, [], [(9, ⟨[0, 1, 5, 6], [], []⟩), (4, ⟨[0, 1, 5], [], []⟩)]⟩
def h89 : Hints := ⟨true, [], [(10, ⟨[1, 3, 4, 5, 32, 33, 34, 35, 36, 39, 40, 41, 42, 45, 46, 47, 48, 49, 50], [32, 128], []⟩), (4, ⟨[1, 3], [32], []⟩)]⟩
def h90 : Hints := ⟨true, [], []⟩
def h91 : Hints := ⟨true, [], []⟩
def h92 : Hints := ⟨true, [], [(2, ⟨[1, 2, 5], [64], []⟩)]⟩
def h94 : Hints := ⟨true, [], [(4, ⟨[0, 1, 12, 13], [], []⟩)]⟩
def h101 : Hints := ⟨true, [], []⟩
def h102 : Hints := ⟨true, [], [(5, ⟨[1, 2, 3, 4], [32, 64, 96, 60080], [(some 96, 0, 60080, 3)]⟩)]⟩
def h103 : Hints := ⟨true, [], []⟩
def h104 : Hints := ⟨true, [], [(2, ⟨[1, 6, 7, 8], [32], []⟩)]⟩
def h105 : Hints := ⟨true, [], [(2, ⟨[0, 1, 7, 8, 9], [], []⟩)]⟩
def h106 : Hints := ⟨true, [], [(5, ⟨[0, 3, 4], [], []⟩)]⟩
def h107 : Hints := ⟨true, [], [(5, ⟨[0, 1, 6, 9, 10, 11, 15, 16, 17], [], []⟩), (2, ⟨[0, 1, 9, 10, 11], [], []⟩)]⟩
def h108 : Hints := ⟨true, [], [(2, ⟨[1, 6, 7, 8], [32], []⟩)]⟩
def h109 : Hints := ⟨true, [], [(2, ⟨[1, 6, 7, 8], [32], []⟩)]⟩
def h110 : Hints := ⟨true, [], []⟩
def h111 : Hints := ⟨true, [], []⟩
def h112 : Hints := ⟨true, [], [(2, ⟨[1, 8, 9, 10], [], []⟩)]⟩
def h116 : Hints := ⟨true, [], [(4, ⟨[0, 1, 12, 13], [], []⟩)]⟩
def h121 : Hints := ⟨true, [], []⟩
def h122 : Hints := ⟨true, [], []⟩
def h123 : Hints := ⟨true, [], []⟩
def h124 : Hints := ⟨true, [], []⟩
def h125 : Hints := ⟨true, [], []⟩
def h126 : Hints := ⟨true, [], []⟩
def h127 : Hints := ⟨true, [], []⟩
def h128 : Hints := ⟨true, [], []⟩
def h129 : Hints := ⟨true, [], []⟩
def h157 : Hints := ⟨true, [], []⟩
def h158 : Hints := ⟨true, [], [(3, ⟨[0, 3, 4], [60048], [(none, 3, 60048, 5)]⟩)]⟩
def h164 : Hints := ⟨true, [], []⟩
def h165 : Hints := ⟨true, [], [(3, ⟨[3, 7, 8, 9], [60048], [(none, 3, 60048, 5)]⟩)]⟩
def h166 : Hints := ⟨true, [], []⟩
def h167 : Hints := ⟨true, [], [(2, ⟨[1, 2, 10, 11, 12], [], []⟩)]⟩
def h170 : Hints := ⟨true, [], []⟩
def h171 : Hints := ⟨true, [], []⟩
def h172 : Hints := ⟨true, [], []⟩
def h173 : Hints := ⟨true, [], []⟩
def h174 : Hints := ⟨true, [], [(5, ⟨[0, 1, 5], [], []⟩)]⟩
def h175 : Hints := ⟨true, [], []⟩
def h176 : Hints := ⟨true, [], []⟩
def h177 : Hints := ⟨true, [], []⟩
def h178 : Hints := ⟨true, [], []⟩
def h179 : Hints := ⟨true, [], []⟩
def h180 : Hints := ⟨true, [], []⟩
def h181 : Hints := ⟨true, [], [(3, ⟨[0, 3, 4], [224], []⟩)]⟩
def h182 : Hints := ⟨true, [], [(3, ⟨[0, 3, 4], [224], []⟩)]⟩
def h183 : Hints := ⟨true, [], [(3, ⟨[0, 3, 4], [224], []⟩)]⟩
def h184 : Hints := ⟨true, [], [(3, ⟨[0, 3, 4], [224], []⟩)]⟩
def h185 : Hints := ⟨true, [], []⟩
def h186 : Hints := ⟨true, [], []⟩
def h187 : Hints := ⟨true, [], []⟩
def h188 : Hints := ⟨true, [], [(4, ⟨[0, 1, 5], [], []⟩)]⟩
def h189 : Hints := ⟨true, [], [(4, ⟨[0, 1, 5], [], []⟩)]⟩
def h190 : Hints := ⟨true, [], [(4, ⟨[0, 1, 5], [], []⟩)]⟩
def h191 : Hints := ⟨true, [], [(4, ⟨[0, 1, 5], [], []⟩)]⟩
def h211 : Hints := ⟨true, [], [(3, ⟨[3, 7, 8, 9], [60048], [(none, 3, 60048, 5)]⟩)]⟩
def h221 : Hints := ⟨true, [], [(8, ⟨[1, 2, 4, 5, 7], [64, 128, 160, 60048, 60128], [(some 160, 1, 60128, 106)]⟩), (3, ⟨[1, 2, 4, 5, 6], [64, 128, 160, 60048], [(some 160, 0, 60048, 83)]⟩)]⟩
def h222 : Hints := ⟨true, [], [(7, ⟨[0, 3, 4, 5], [], []⟩), (3, ⟨[0, 3, 4], [], []⟩)]⟩
def h223 : Hints := ⟨true, [], [(8, ⟨[1, 3, 4, 5, 6, 7], [32, 160, 1280, 60128], [(none, 3, 60128, 5)]⟩), (14, ⟨[1, 3, 8], [32, 60224], [(none, 3, 60224, 5)]⟩), (3, ⟨[1, 3, 4], [32, 60048], [(none, 3, 60048, 5)]⟩)]⟩
def h224 : Hints := ⟨true, [], [(4, ⟨[0, 3], [60064], [(none, 3, 60064, 5)]⟩)]⟩
def h228 : Hints := ⟨true, [], [(7, ⟨[3, 7, 8, 9, 17], [], []⟩), (3, ⟨[3, 7, 8, 9], [], []⟩)]⟩
def h229 : Hints := ⟨true, [], [(12, ⟨[3, 55, 56, 57], [60192], [(none, 3, 60192, 5)]⟩), (5, ⟨[1, 3, 17, 18, 19], [32, 60080], [(none, 3, 60080, 5)]⟩)]⟩
def h230 : Hints := ⟨true, [], [(11, ⟨[1, 4, 5, 35, 36, 37], [128, 160, 60080, 60176], [(some 160, 1, 60176, 106)]⟩), (5, ⟨[1, 2, 4, 5, 16, 17, 18], [64, 128, 160, 60080], [(some 160, 0, 60080, 83)]⟩)]⟩
def h231 : Hints := ⟨true, [], [(4, ⟨[0, 3], [60064], [(none, 3, 60064, 5)]⟩)]⟩
def h232 : Hints := ⟨true, [], [(5, ⟨[0, 1, 5], [], []⟩)]⟩
def h233 : Hints := ⟨true, [], []⟩
def h234 : Hints := ⟨true, [], [(5, ⟨[0, 1, 5], [], []⟩)]⟩
def h235 : Hints := ⟨true, [], [(3, ⟨[0, 3, 4], [224], []⟩)]⟩
def h236 : Hints := ⟨true, [], [(3, ⟨[0, 3, 4], [224], []⟩)]⟩
def h237 : Hints := ⟨true, [], [(3, ⟨[0, 3, 4], [224], []⟩)]⟩
def h238 : Hints := ⟨true, [], []⟩
def h239 : Hints := ⟨true, [], []⟩
def h240 : Hints := ⟨true, [], [(4, ⟨[0, 1, 5], [], []⟩)]⟩
def h241 : Hints := ⟨true, [], [(4, ⟨[0, 1, 5], [], []⟩)]⟩
def h242 : Hints := ⟨true, [], [(4, ⟨[0, 1, 5], [], []⟩)]⟩
def h243 : Hints := ⟨true, [], []⟩
def h244 : Hints := ⟨true, [], []⟩
def h261 : Hints := ⟨true, [], [(2, ⟨[0, 1, 5], [], []⟩)]⟩
def h262 : Hints := ⟨true, [], []⟩
def h263 : Hints := ⟨true, [], []⟩
def h268 : Hints := ⟨true, [], []⟩
def h269 : Hints := ⟨true, [], []⟩
def h270 : Hints := ⟨true, [], []⟩
def h271 : Hints := ⟨true, [], []⟩
def h272 : Hints := ⟨true, [], []⟩
def h273 : Hints := ⟨true, [], []⟩
def h274 : Hints := ⟨true, [], []⟩
def h275 : Hints := ⟨true, [], []⟩
def h294 : Hints := ⟨true, [], [(2, ⟨[0, 1, 7, 8], [], []⟩)]⟩
def h295 : Hints := ⟨true, [], []⟩
def h296 : Hints := ⟨true, [], []⟩
def h297 : Hints := ⟨true, [], []⟩
noncomputable def fnTab : List (Nat × Func) := [(4, Tryz.f4), (5, Tryz.f5), (6, Tryz.f6), (7, Tryz.f7), (13, Tryz.f13), (16, Tryz.f16), (19, Tryz.f19), (20, Tryz.f20), (21, Tryz.f21), (22, Tryz.f22), (23, Tryz.f23), (24, Tryz.f24), (25, Tryz.f25), (26, Tryz.f26), (27, Tryz.f27), (28, Tryz.f28), (29, Tryz.f29), (36, Tryz.f36), (39, Tryz.f39), (40, Tryz.f40), (41, Tryz.f41), (43, Tryz.f43), (48, Tryz.f48), (49, Tryz.f49), (50, Tryz.f50), (51, Tryz.f51), (58, Tryz.f58), (59, Tryz.f59), (60, Tryz.f60), (61, Tryz.f61), (62, Tryz.f62), (63, Tryz.f63), (64, Tryz.f64), (65, Tryz.f65), (66, Tryz.f66), (67, Tryz.f67), (68, Tryz.f68), (69, Tryz.f69), (76, Tryz.f76), (78, Tryz.f78), (84, Tryz.f84), (85, Tryz.f85), (86, Tryz.f86), (87, Tryz.f87), (88, Tryz.f88), (89, Tryz.f89), (90, Tryz.f90), (91, Tryz.f91), (92, Tryz.f92), (94, Tryz.f94), (101, Tryz.f101), (102, Tryz.f102), (103, Tryz.f103), (104, Tryz.f104), (105, Tryz.f105), (106, Tryz.f106), (107, Tryz.f107), (108, Tryz.f108), (109, Tryz.f109), (110, Tryz.f110), (111, Tryz.f111), (112, Tryz.f112), (116, Tryz.f116), (121, Tryz.f121), (122, Tryz.f122), (123, Tryz.f123), (124, Tryz.f124), (125, Tryz.f125), (126, Tryz.f126), (127, Tryz.f127), (128, Tryz.f128), (129, Tryz.f129), (157, Tryz.f157), (158, Tryz.f158), (164, Tryz.f164), (165, Tryz.f165), (166, Tryz.f166), (167, Tryz.f167), (170, Tryz.f170), (171, Tryz.f171), (172, Tryz.f172), (173, Tryz.f173), (174, Tryz.f174), (175, Tryz.f175), (176, Tryz.f176), (177, Tryz.f177), (178, Tryz.f178), (179, Tryz.f179), (180, Tryz.f180), (181, Tryz.f181), (182, Tryz.f182), (183, Tryz.f183), (184, Tryz.f184), (185, Tryz.f185), (186, Tryz.f186), (187, Tryz.f187), (188, Tryz.f188), (189, Tryz.f189), (190, Tryz.f190), (191, Tryz.f191), (211, Tryz.f211), (221, Tryz.f221), (222, Tryz.f222), (223, Tryz.f223), (224, Tryz.f224), (228, Tryz.f228), (229, Tryz.f229), (230, Tryz.f230), (231, Tryz.f231), (232, Tryz.f232), (233, Tryz.f233), (234, Tryz.f234), (235, Tryz.f235), (236, Tryz.f236), (237, Tryz.f237), (238, Tryz.f238), (239, Tryz.f239), (240, Tryz.f240), (241, Tryz.f241), (242, Tryz.f242), (243, Tryz.f243), (244, Tryz.f244), (261, Tryz.f261), (262, Tryz.f262), (263, Tryz.f263), (268, Tryz.f268), (269, Tryz.f269), (270, Tryz.f270), (271, Tryz.f271), (272, Tryz.f272), (273, Tryz.f273), (274, Tryz.f274), (275, Tryz.f275), (294, Tryz.f294), (295, Tryz.f295), (296, Tryz.f296), (297, Tryz.f297)]
noncomputable def htab : List (Nat × List (Nat × Norm)) := [(4, h4.loops), (5, h5.loops), (6, h6.loops), (7, h7.loops), (13, h13.loops), (16, h16.loops), (19, h19.loops), (20, h20.loops), (21, h21.loops), (22, h22.loops), (23, h23.loops), (24, h24.loops), (25, h25.loops), (26, h26.loops), (27, h27.loops), (28, h28.loops), (29, h29.loops), (36, h36.loops), (39, h39.loops), (40, h40.loops), (41, h41.loops), (43, h43.loops), (48, h48.loops), (49, h49.loops), (50, h50.loops), (51, h51.loops), (58, h58.loops), (59, h59.loops), (60, h60.loops), (61, h61.loops), (62, h62.loops), (63, h63.loops), (64, h64.loops), (65, h65.loops), (66, h66.loops), (67, h67.loops), (68, h68.loops), (69, h69.loops), (76, h76.loops), (78, h78.loops), (84, h84.loops), (85, h85.loops), (86, h86.loops), (87, h87.loops), (88, h88.loops), (89, h89.loops), (90, h90.loops), (91, h91.loops), (92, h92.loops), (94, h94.loops), (101, h101.loops), (102, h102.loops), (103, h103.loops), (104, h104.loops), (105, h105.loops), (106, h106.loops), (107, h107.loops), (108, h108.loops), (109, h109.loops), (110, h110.loops), (111, h111.loops), (112, h112.loops), (116, h116.loops), (121, h121.loops), (122, h122.loops), (123, h123.loops), (124, h124.loops), (125, h125.loops), (126, h126.loops), (127, h127.loops), (128, h128.loops), (129, h129.loops), (157, h157.loops), (158, h158.loops), (164, h164.loops), (165, h165.loops), (166, h166.loops), (167, h167.loops), (170, h170.loops), (171, h171.loops), (172, h172.loops), (173, h173.loops), (174, h174.loops), (175, h175.loops), (176, h176.loops), (177, h177.loops), (178, h178.loops), (179, h179.loops), (180, h180.loops), (181, h181.loops), (182, h182.loops), (183, h183.loops), (184, h184.loops), (185, h185.loops), (186, h186.loops), (187, h187.loops), (188, h188.loops), (189, h189.loops), (190, h190.loops), (191, h191.loops), (211, h211.loops), (221, h221.loops), (222, h222.loops), (223, h223.loops), (224, h224.loops), (228, h228.loops), (229, h229.loops), (230, h230.loops), (231, h231.loops), (232, h232.loops), (233, h233.loops), (234, h234.loops), (235, h235.loops), (236, h236.loops), (237, h237.loops), (238, h238.loops), (239, h239.loops), (240, h240.loops), (241, h241.loops), (242, h242.loops), (243, h243.loops), (244, h244.loops), (261, h261.loops), (262, h262.loops), (263, h263.loops), (268, h268.loops), (269, h269.loops), (270, h270.loops), (271, h271.loops), (272, h272.loops), (273, h273.loops), (274, h274.loops), (275, h275.loops), (294, h294.loops), (295, h295.loops), (296, h296.loops), (297, h297.loops)]
noncomputable def p : Prg := { ti := ti, fn := fun g => look? g fnTab, hint := fun g => ⟨true, [], (look? g htab).getD []⟩, own := fun _ => none }
theorem rts_eq : p.rts = rts := by
  funext g
  unfold Prg.rts rts p
  rw [look_map]; rfl
theorem ran_of {g : Nat} {fn : Func} {nt : Nat} {h : Hints} {lvl : Nat} {xs : List Abs.Arg} {out : Out} (hf : p.fn g = some fn) (hn : fn.ntmps = nt) (hh : p.hint g = h)
    (H : ∀ n, lvl ≤ n → Ev (fun fuel => frun (E1 (arun p n) nt h) rts fuel fn xs) out) : Ran p (lvl + 1) g xs out := by
  subst hn; subst hh
  refine Ran.of rfl hf fun n hl => ?_
  rw [rts_eq]
  exact (H n hl).get
theorem fn4 : p.fn 4 = some Tryz.f4 := by kernel_rfl
theorem nt4 : Tryz.f4.ntmps = 27 := by kernel_rfl
theorem hh4 : p.hint 4 = h4 := by kernel_rfl
theorem fn5 : p.fn 5 = some Tryz.f5 := by kernel_rfl
theorem nt5 : Tryz.f5.ntmps = 43 := by kernel_rfl
theorem hh5 : p.hint 5 = h5 := by kernel_rfl
theorem fn6 : p.fn 6 = some Tryz.f6 := by kernel_rfl
theorem nt6 : Tryz.f6.ntmps = 27 := by kernel_rfl
theorem hh6 : p.hint 6 = h6 := by kernel_rfl
theorem fn7 : p.fn 7 = some Tryz.f7 := by kernel_rfl
theorem nt7 : Tryz.f7.ntmps = 43 := by kernel_rfl
theorem hh7 : p.hint 7 = h7 := by kernel_rfl
theorem fn13 : p.fn 13 = some Tryz.f13 := by kernel_rfl
theorem nt13 : Tryz.f13.ntmps = 101 := by kernel_rfl
theorem hh13 : p.hint 13 = h13 := by kernel_rfl
theorem fn16 : p.fn 16 = some Tryz.f16 := by kernel_rfl
theorem nt16 : Tryz.f16.ntmps = 84 := by kernel_rfl
theorem hh16 : p.hint 16 = h16 := by kernel_rfl
theorem fn19 : p.fn 19 = some Tryz.f19 := by kernel_rfl
theorem nt19 : Tryz.f19.ntmps = 30 := by kernel_rfl
theorem hh19 : p.hint 19 = h19 := by kernel_rfl
theorem fn20 : p.fn 20 = some Tryz.f20 := by kernel_rfl
theorem nt20 : Tryz.f20.ntmps = 24 := by kernel_rfl
theorem hh20 : p.hint 20 = h20 := by kernel_rfl
theorem fn21 : p.fn 21 = some Tryz.f21 := by kernel_rfl
theorem nt21 : Tryz.f21.ntmps = 17 := by kernel_rfl
theorem hh21 : p.hint 21 = h21 := by kernel_rfl
theorem fn22 : p.fn 22 = some Tryz.f22 := by kernel_rfl
theorem nt22 : Tryz.f22.ntmps = 23 := by kernel_rfl
theorem hh22 : p.hint 22 = h22 := by kernel_rfl
theorem fn23 : p.fn 23 = some Tryz.f23 := by kernel_rfl
theorem nt23 : Tryz.f23.ntmps = 15 := by kernel_rfl
theorem hh23 : p.hint 23 = h23 := by kernel_rfl
theorem fn24 : p.fn 24 = some Tryz.f24 := by kernel_rfl
theorem nt24 : Tryz.f24.ntmps = 22 := by kernel_rfl
theorem hh24 : p.hint 24 = h24 := by kernel_rfl
theorem fn25 : p.fn 25 = some Tryz.f25 := by kernel_rfl
theorem nt25 : Tryz.f25.ntmps = 15 := by kernel_rfl
theorem hh25 : p.hint 25 = h25 := by kernel_rfl
theorem fn26 : p.fn 26 = some Tryz.f26 := by kernel_rfl
theorem nt26 : Tryz.f26.ntmps = 26 := by kernel_rfl
theorem hh26 : p.hint 26 = h26 := by kernel_rfl
theorem fn27 : p.fn 27 = some Tryz.f27 := by kernel_rfl
theorem nt27 : Tryz.f27.ntmps = 28 := by kernel_rfl
theorem hh27 : p.hint 27 = h27 := by kernel_rfl
theorem fn28 : p.fn 28 = some Tryz.f28 := by kernel_rfl
theorem nt28 : Tryz.f28.ntmps = 49 := by kernel_rfl
theorem hh28 : p.hint 28 = h28 := by kernel_rfl
theorem fn29 : p.fn 29 = some Tryz.f29 := by kernel_rfl
theorem nt29 : Tryz.f29.ntmps = 48 := by kernel_rfl
theorem hh29 : p.hint 29 = h29 := by kernel_rfl
theorem fn36 : p.fn 36 = some Tryz.f36 := by kernel_rfl
theorem nt36 : Tryz.f36.ntmps = 59 := by kernel_rfl
theorem hh36 : p.hint 36 = h36 := by kernel_rfl
theorem fn39 : p.fn 39 = some Tryz.f39 := by kernel_rfl
theorem nt39 : Tryz.f39.ntmps = 15 := by kernel_rfl
theorem hh39 : p.hint 39 = h39 := by kernel_rfl
theorem fn40 : p.fn 40 = some Tryz.f40 := by kernel_rfl
theorem nt40 : Tryz.f40.ntmps = 152 := by kernel_rfl
theorem hh40 : p.hint 40 = h40 := by kernel_rfl
theorem fn41 : p.fn 41 = some Tryz.f41 := by kernel_rfl
theorem nt41 : Tryz.f41.ntmps = 93 := by kernel_rfl
theorem hh41 : p.hint 41 = h41 := by kernel_rfl
theorem fn43 : p.fn 43 = some Tryz.f43 := by kernel_rfl
theorem nt43 : Tryz.f43.ntmps = 10 := by kernel_rfl
theorem hh43 : p.hint 43 = h43 := by kernel_rfl
theorem fn48 : p.fn 48 = some Tryz.f48 := by kernel_rfl
theorem nt48 : Tryz.f48.ntmps = 15 := by kernel_rfl
theorem hh48 : p.hint 48 = h48 := by kernel_rfl
theorem fn49 : p.fn 49 = some Tryz.f49 := by kernel_rfl
theorem nt49 : Tryz.f49.ntmps = 106 := by kernel_rfl
theorem hh49 : p.hint 49 = h49 := by kernel_rfl
theorem fn50 : p.fn 50 = some Tryz.f50 := by kernel_rfl
theorem nt50 : Tryz.f50.ntmps = 11 := by kernel_rfl
theorem hh50 : p.hint 50 = h50 := by kernel_rfl
theorem fn51 : p.fn 51 = some Tryz.f51 := by kernel_rfl
theorem nt51 : Tryz.f51.ntmps = 87 := by kernel_rfl
theorem hh51 : p.hint 51 = h51 := by kernel_rfl
theorem fn58 : p.fn 58 = some Tryz.f58 := by kernel_rfl
theorem nt58 : Tryz.f58.ntmps = 28 := by kernel_rfl
theorem hh58 : p.hint 58 = h58 := by kernel_rfl
theorem fn59 : p.fn 59 = some Tryz.f59 := by kernel_rfl
theorem nt59 : Tryz.f59.ntmps = 27 := by kernel_rfl
theorem hh59 : p.hint 59 = h59 := by kernel_rfl
theorem fn60 : p.fn 60 = some Tryz.f60 := by kernel_rfl
theorem nt60 : Tryz.f60.ntmps = 27 := by kernel_rfl
theorem hh60 : p.hint 60 = h60 := by kernel_rfl
theorem fn61 : p.fn 61 = some Tryz.f61 := by kernel_rfl
theorem nt61 : Tryz.f61.ntmps = 27 := by kernel_rfl
theorem hh61 : p.hint 61 = h61 := by kernel_rfl
theorem fn62 : p.fn 62 = some Tryz.f62 := by kernel_rfl
theorem nt62 : Tryz.f62.ntmps = 23 := by kernel_rfl
theorem hh62 : p.hint 62 = h62 := by kernel_rfl
theorem fn63 : p.fn 63 = some Tryz.f63 := by kernel_rfl
theorem nt63 : Tryz.f63.ntmps = 23 := by kernel_rfl
theorem hh63 : p.hint 63 = h63 := by kernel_rfl
theorem fn64 : p.fn 64 = some Tryz.f64 := by kernel_rfl
theorem nt64 : Tryz.f64.ntmps = 23 := by kernel_rfl
theorem hh64 : p.hint 64 = h64 := by kernel_rfl
theorem fn65 : p.fn 65 = some Tryz.f65 := by kernel_rfl
theorem nt65 : Tryz.f65.ntmps = 27 := by kernel_rfl
theorem hh65 : p.hint 65 = h65 := by kernel_rfl
theorem fn66 : p.fn 66 = some Tryz.f66 := by kernel_rfl
theorem nt66 : Tryz.f66.ntmps = 27 := by kernel_rfl
theorem hh66 : p.hint 66 = h66 := by kernel_rfl
theorem fn67 : p.fn 67 = some Tryz.f67 := by kernel_rfl
theorem nt67 : Tryz.f67.ntmps = 27 := by kernel_rfl
theorem hh67 : p.hint 67 = h67 := by kernel_rfl
theorem fn68 : p.fn 68 = some Tryz.f68 := by kernel_rfl
theorem nt68 : Tryz.f68.ntmps = 34 := by kernel_rfl
theorem hh68 : p.hint 68 = h68 := by kernel_rfl
theorem fn69 : p.fn 69 = some Tryz.f69 := by kernel_rfl
theorem nt69 : Tryz.f69.ntmps = 10 := by kernel_rfl
theorem hh69 : p.hint 69 = h69 := by kernel_rfl
theorem fn76 : p.fn 76 = some Tryz.f76 := by kernel_rfl
theorem nt76 : Tryz.f76.ntmps = 17 := by kernel_rfl
theorem hh76 : p.hint 76 = h76 := by kernel_rfl
theorem fn78 : p.fn 78 = some Tryz.f78 := by kernel_rfl
theorem nt78 : Tryz.f78.ntmps = 26 := by kernel_rfl
theorem hh78 : p.hint 78 = h78 := by kernel_rfl
theorem fn84 : p.fn 84 = some Tryz.f84 := by kernel_rfl
theorem nt84 : Tryz.f84.ntmps = 27 := by kernel_rfl
theorem hh84 : p.hint 84 = h84 := by kernel_rfl
theorem fn85 : p.fn 85 = some Tryz.f85 := by kernel_rfl
theorem nt85 : Tryz.f85.ntmps = 45 := by kernel_rfl
theorem hh85 : p.hint 85 = h85 := by kernel_rfl
theorem fn86 : p.fn 86 = some Tryz.f86 := by kernel_rfl
theorem nt86 : Tryz.f86.ntmps = 26 := by kernel_rfl
theorem hh86 : p.hint 86 = h86 := by kernel_rfl
theorem fn87 : p.fn 87 = some Tryz.f87 := by kernel_rfl
theorem nt87 : Tryz.f87.ntmps = 12 := by kernel_rfl
theorem hh87 : p.hint 87 = h87 := by kernel_rfl
theorem fn88 : p.fn 88 = some Tryz.f88 := by kernel_rfl
theorem nt88 : Tryz.f88.ntmps = 45 := by kernel_rfl
theorem hh88 : p.hint 88 = h88 := by kernel_rfl
theorem fn89 : p.fn 89 = some Tryz.f89 := by kernel_rfl
theorem nt89 : Tryz.f89.ntmps = 77 := by kernel_rfl
theorem hh89 : p.hint 89 = h89 := by kernel_rfl
theorem fn90 : p.fn 90 = some Tryz.f90 := by kernel_rfl
theorem nt90 : Tryz.f90.ntmps = 5 := by kernel_rfl
theorem hh90 : p.hint 90 = h90 := by kernel_rfl
theorem fn91 : p.fn 91 = some Tryz.f91 := by kernel_rfl
theorem nt91 : Tryz.f91.ntmps = 27 := by kernel_rfl
theorem hh91 : p.hint 91 = h91 := by kernel_rfl
theorem fn92 : p.fn 92 = some Tryz.f92 := by kernel_rfl
theorem nt92 : Tryz.f92.ntmps = 27 := by kernel_rfl
theorem hh92 : p.hint 92 = h92 := by kernel_rfl
theorem fn94 : p.fn 94 = some Tryz.f94 := by kernel_rfl
theorem nt94 : Tryz.f94.ntmps = 26 := by kernel_rfl
theorem hh94 : p.hint 94 = h94 := by kernel_rfl
theorem fn101 : p.fn 101 = some Tryz.f101 := by kernel_rfl
theorem nt101 : Tryz.f101.ntmps = 17 := by kernel_rfl
theorem hh101 : p.hint 101 = h101 := by kernel_rfl
theorem fn102 : p.fn 102 = some Tryz.f102 := by kernel_rfl
theorem nt102 : Tryz.f102.ntmps = 27 := by kernel_rfl
theorem hh102 : p.hint 102 = h102 := by kernel_rfl
theorem fn103 : p.fn 103 = some Tryz.f103 := by kernel_rfl
theorem nt103 : Tryz.f103.ntmps = 12 := by kernel_rfl
theorem hh103 : p.hint 103 = h103 := by kernel_rfl
theorem fn104 : p.fn 104 = some Tryz.f104 := by kernel_rfl
theorem nt104 : Tryz.f104.ntmps = 41 := by kernel_rfl
theorem hh104 : p.hint 104 = h104 := by kernel_rfl
theorem fn105 : p.fn 105 = some Tryz.f105 := by kernel_rfl
theorem nt105 : Tryz.f105.ntmps = 25 := by kernel_rfl
theorem hh105 : p.hint 105 = h105 := by kernel_rfl
theorem fn106 : p.fn 106 = some Tryz.f106 := by kernel_rfl
theorem nt106 : Tryz.f106.ntmps = 25 := by kernel_rfl
theorem hh106 : p.hint 106 = h106 := by kernel_rfl
theorem fn107 : p.fn 107 = some Tryz.f107 := by kernel_rfl
theorem nt107 : Tryz.f107.ntmps = 37 := by kernel_rfl
theorem hh107 : p.hint 107 = h107 := by kernel_rfl
theorem fn108 : p.fn 108 = some Tryz.f108 := by kernel_rfl
theorem nt108 : Tryz.f108.ntmps = 54 := by kernel_rfl
theorem hh108 : p.hint 108 = h108 := by kernel_rfl
theorem fn109 : p.fn 109 = some Tryz.f109 := by kernel_rfl
theorem nt109 : Tryz.f109.ntmps = 35 := by kernel_rfl
theorem hh109 : p.hint 109 = h109 := by kernel_rfl
theorem fn110 : p.fn 110 = some Tryz.f110 := by kernel_rfl
theorem nt110 : Tryz.f110.ntmps = 5 := by kernel_rfl
theorem hh110 : p.hint 110 = h110 := by kernel_rfl
theorem fn111 : p.fn 111 = some Tryz.f111 := by kernel_rfl
theorem nt111 : Tryz.f111.ntmps = 27 := by kernel_rfl
theorem hh111 : p.hint 111 = h111 := by kernel_rfl
theorem fn112 : p.fn 112 = some Tryz.f112 := by kernel_rfl
theorem nt112 : Tryz.f112.ntmps = 21 := by kernel_rfl
theorem hh112 : p.hint 112 = h112 := by kernel_rfl
theorem fn116 : p.fn 116 = some Tryz.f116 := by kernel_rfl
theorem nt116 : Tryz.f116.ntmps = 26 := by kernel_rfl
theorem hh116 : p.hint 116 = h116 := by kernel_rfl
theorem fn121 : p.fn 121 = some Tryz.f121 := by kernel_rfl
theorem nt121 : Tryz.f121.ntmps = 54 := by kernel_rfl
theorem hh121 : p.hint 121 = h121 := by kernel_rfl
theorem fn122 : p.fn 122 = some Tryz.f122 := by kernel_rfl
theorem nt122 : Tryz.f122.ntmps = 12 := by kernel_rfl
theorem hh122 : p.hint 122 = h122 := by kernel_rfl
theorem fn123 : p.fn 123 = some Tryz.f123 := by kernel_rfl
theorem nt123 : Tryz.f123.ntmps = 12 := by kernel_rfl
theorem hh123 : p.hint 123 = h123 := by kernel_rfl
theorem fn124 : p.fn 124 = some Tryz.f124 := by kernel_rfl
theorem nt124 : Tryz.f124.ntmps = 58 := by kernel_rfl
theorem hh124 : p.hint 124 = h124 := by kernel_rfl
theorem fn125 : p.fn 125 = some Tryz.f125 := by kernel_rfl
theorem nt125 : Tryz.f125.ntmps = 15 := by kernel_rfl
theorem hh125 : p.hint 125 = h125 := by kernel_rfl
theorem fn126 : p.fn 126 = some Tryz.f126 := by kernel_rfl
theorem nt126 : Tryz.f126.ntmps = 12 := by kernel_rfl
theorem hh126 : p.hint 126 = h126 := by kernel_rfl
theorem fn127 : p.fn 127 = some Tryz.f127 := by kernel_rfl
theorem nt127 : Tryz.f127.ntmps = 88 := by kernel_rfl
theorem hh127 : p.hint 127 = h127 := by kernel_rfl
theorem fn128 : p.fn 128 = some Tryz.f128 := by kernel_rfl
theorem nt128 : Tryz.f128.ntmps = 21 := by kernel_rfl
theorem hh128 : p.hint 128 = h128 := by kernel_rfl
theorem fn129 : p.fn 129 = some Tryz.f129 := by kernel_rfl
theorem nt129 : Tryz.f129.ntmps = 16 := by kernel_rfl
theorem hh129 : p.hint 129 = h129 := by kernel_rfl
theorem fn157 : p.fn 157 = some Tryz.f157 := by kernel_rfl
theorem nt157 : Tryz.f157.ntmps = 20 := by kernel_rfl
theorem hh157 : p.hint 157 = h157 := by kernel_rfl
theorem fn158 : p.fn 158 = some Tryz.f158 := by kernel_rfl
theorem nt158 : Tryz.f158.ntmps = 22 := by kernel_rfl
theorem hh158 : p.hint 158 = h158 := by kernel_rfl
theorem fn164 : p.fn 164 = some Tryz.f164 := by kernel_rfl
theorem nt164 : Tryz.f164.ntmps = 20 := by kernel_rfl
theorem hh164 : p.hint 164 = h164 := by kernel_rfl
theorem fn165 : p.fn 165 = some Tryz.f165 := by kernel_rfl
theorem nt165 : Tryz.f165.ntmps = 22 := by kernel_rfl
theorem hh165 : p.hint 165 = h165 := by kernel_rfl
theorem fn166 : p.fn 166 = some Tryz.f166 := by kernel_rfl
theorem nt166 : Tryz.f166.ntmps = 16 := by kernel_rfl
theorem hh166 : p.hint 166 = h166 := by kernel_rfl
theorem fn167 : p.fn 167 = some Tryz.f167 := by kernel_rfl
theorem nt167 : Tryz.f167.ntmps = 29 := by kernel_rfl
theorem hh167 : p.hint 167 = h167 := by kernel_rfl
theorem fn170 : p.fn 170 = some Tryz.f170 := by kernel_rfl
theorem nt170 : Tryz.f170.ntmps = 18 := by kernel_rfl
theorem hh170 : p.hint 170 = h170 := by kernel_rfl
theorem fn171 : p.fn 171 = some Tryz.f171 := by kernel_rfl
theorem nt171 : Tryz.f171.ntmps = 12 := by kernel_rfl
theorem hh171 : p.hint 171 = h171 := by kernel_rfl
theorem fn172 : p.fn 172 = some Tryz.f172 := by kernel_rfl
theorem nt172 : Tryz.f172.ntmps = 12 := by kernel_rfl
theorem hh172 : p.hint 172 = h172 := by kernel_rfl
theorem fn173 : p.fn 173 = some Tryz.f173 := by kernel_rfl
theorem nt173 : Tryz.f173.ntmps = 12 := by kernel_rfl
theorem hh173 : p.hint 173 = h173 := by kernel_rfl
theorem fn174 : p.fn 174 = some Tryz.f174 := by kernel_rfl
theorem nt174 : Tryz.f174.ntmps = 27 := by kernel_rfl
theorem hh174 : p.hint 174 = h174 := by kernel_rfl
theorem fn175 : p.fn 175 = some Tryz.f175 := by kernel_rfl
theorem nt175 : Tryz.f175.ntmps = 12 := by kernel_rfl
theorem hh175 : p.hint 175 = h175 := by kernel_rfl
theorem fn176 : p.fn 176 = some Tryz.f176 := by kernel_rfl
theorem nt176 : Tryz.f176.ntmps = 12 := by kernel_rfl
theorem hh176 : p.hint 176 = h176 := by kernel_rfl
theorem fn177 : p.fn 177 = some Tryz.f177 := by kernel_rfl
theorem nt177 : Tryz.f177.ntmps = 12 := by kernel_rfl
theorem hh177 : p.hint 177 = h177 := by kernel_rfl
theorem fn178 : p.fn 178 = some Tryz.f178 := by kernel_rfl
theorem nt178 : Tryz.f178.ntmps = 13 := by kernel_rfl
theorem hh178 : p.hint 178 = h178 := by kernel_rfl
theorem fn179 : p.fn 179 = some Tryz.f179 := by kernel_rfl
theorem nt179 : Tryz.f179.ntmps = 12 := by kernel_rfl
theorem hh179 : p.hint 179 = h179 := by kernel_rfl
theorem fn180 : p.fn 180 = some Tryz.f180 := by kernel_rfl
theorem nt180 : Tryz.f180.ntmps = 15 := by kernel_rfl
theorem hh180 : p.hint 180 = h180 := by kernel_rfl
theorem fn181 : p.fn 181 = some Tryz.f181 := by kernel_rfl
theorem nt181 : Tryz.f181.ntmps = 23 := by kernel_rfl
theorem hh181 : p.hint 181 = h181 := by kernel_rfl
theorem fn182 : p.fn 182 = some Tryz.f182 := by kernel_rfl
theorem nt182 : Tryz.f182.ntmps = 23 := by kernel_rfl
theorem hh182 : p.hint 182 = h182 := by kernel_rfl
theorem fn183 : p.fn 183 = some Tryz.f183 := by kernel_rfl
theorem nt183 : Tryz.f183.ntmps = 23 := by kernel_rfl
theorem hh183 : p.hint 183 = h183 := by kernel_rfl
theorem fn184 : p.fn 184 = some Tryz.f184 := by kernel_rfl
theorem nt184 : Tryz.f184.ntmps = 22 := by kernel_rfl
theorem hh184 : p.hint 184 = h184 := by kernel_rfl
theorem fn185 : p.fn 185 = some Tryz.f185 := by kernel_rfl
theorem nt185 : Tryz.f185.ntmps = 17 := by kernel_rfl
theorem hh185 : p.hint 185 = h185 := by kernel_rfl
theorem fn186 : p.fn 186 = some Tryz.f186 := by kernel_rfl
theorem nt186 : Tryz.f186.ntmps = 16 := by kernel_rfl
theorem hh186 : p.hint 186 = h186 := by kernel_rfl
theorem fn187 : p.fn 187 = some Tryz.f187 := by kernel_rfl
theorem nt187 : Tryz.f187.ntmps = 21 := by kernel_rfl
theorem hh187 : p.hint 187 = h187 := by kernel_rfl
theorem fn188 : p.fn 188 = some Tryz.f188 := by kernel_rfl
theorem nt188 : Tryz.f188.ntmps = 27 := by kernel_rfl
theorem hh188 : p.hint 188 = h188 := by kernel_rfl
theorem fn189 : p.fn 189 = some Tryz.f189 := by kernel_rfl
theorem nt189 : Tryz.f189.ntmps = 27 := by kernel_rfl
theorem hh189 : p.hint 189 = h189 := by kernel_rfl
theorem fn190 : p.fn 190 = some Tryz.f190 := by kernel_rfl
theorem nt190 : Tryz.f190.ntmps = 27 := by kernel_rfl
theorem hh190 : p.hint 190 = h190 := by kernel_rfl
theorem fn191 : p.fn 191 = some Tryz.f191 := by kernel_rfl
theorem nt191 : Tryz.f191.ntmps = 26 := by kernel_rfl
theorem hh191 : p.hint 191 = h191 := by kernel_rfl
theorem fn211 : p.fn 211 = some Tryz.f211 := by kernel_rfl
theorem nt211 : Tryz.f211.ntmps = 18 := by kernel_rfl
theorem hh211 : p.hint 211 = h211 := by kernel_rfl
theorem fn221 : p.fn 221 = some Tryz.f221 := by kernel_rfl
theorem nt221 : Tryz.f221.ntmps = 62 := by kernel_rfl
theorem hh221 : p.hint 221 = h221 := by kernel_rfl
theorem fn222 : p.fn 222 = some Tryz.f222 := by kernel_rfl
theorem nt222 : Tryz.f222.ntmps = 34 := by kernel_rfl
theorem hh222 : p.hint 222 = h222 := by kernel_rfl
theorem fn223 : p.fn 223 = some Tryz.f223 := by kernel_rfl
theorem nt223 : Tryz.f223.ntmps = 91 := by kernel_rfl
theorem hh223 : p.hint 223 = h223 := by kernel_rfl
theorem fn224 : p.fn 224 = some Tryz.f224 := by kernel_rfl
theorem nt224 : Tryz.f224.ntmps = 25 := by kernel_rfl
theorem hh224 : p.hint 224 = h224 := by kernel_rfl
theorem fn228 : p.fn 228 = some Tryz.f228 := by kernel_rfl
theorem nt228 : Tryz.f228.ntmps = 31 := by kernel_rfl
theorem hh228 : p.hint 228 = h228 := by kernel_rfl
theorem fn229 : p.fn 229 = some Tryz.f229 := by kernel_rfl
theorem nt229 : Tryz.f229.ntmps = 72 := by kernel_rfl
theorem hh229 : p.hint 229 = h229 := by kernel_rfl
theorem fn230 : p.fn 230 = some Tryz.f230 := by kernel_rfl
theorem nt230 : Tryz.f230.ntmps = 54 := by kernel_rfl
theorem hh230 : p.hint 230 = h230 := by kernel_rfl
theorem fn231 : p.fn 231 = some Tryz.f231 := by kernel_rfl
theorem nt231 : Tryz.f231.ntmps = 24 := by kernel_rfl
theorem hh231 : p.hint 231 = h231 := by kernel_rfl
theorem fn232 : p.fn 232 = some Tryz.f232 := by kernel_rfl
theorem nt232 : Tryz.f232.ntmps = 27 := by kernel_rfl
theorem hh232 : p.hint 232 = h232 := by kernel_rfl
theorem fn233 : p.fn 233 = some Tryz.f233 := by kernel_rfl
theorem nt233 : Tryz.f233.ntmps = 12 := by kernel_rfl
theorem hh233 : p.hint 233 = h233 := by kernel_rfl
theorem fn234 : p.fn 234 = some Tryz.f234 := by kernel_rfl
theorem nt234 : Tryz.f234.ntmps = 27 := by kernel_rfl
theorem hh234 : p.hint 234 = h234 := by kernel_rfl
theorem fn235 : p.fn 235 = some Tryz.f235 := by kernel_rfl
theorem nt235 : Tryz.f235.ntmps = 23 := by kernel_rfl
theorem hh235 : p.hint 235 = h235 := by kernel_rfl
theorem fn236 : p.fn 236 = some Tryz.f236 := by kernel_rfl
theorem nt236 : Tryz.f236.ntmps = 23 := by kernel_rfl
theorem hh236 : p.hint 236 = h236 := by kernel_rfl
theorem fn237 : p.fn 237 = some Tryz.f237 := by kernel_rfl
theorem nt237 : Tryz.f237.ntmps = 23 := by kernel_rfl
theorem hh237 : p.hint 237 = h237 := by kernel_rfl
theorem fn238 : p.fn 238 = some Tryz.f238 := by kernel_rfl
theorem nt238 : Tryz.f238.ntmps = 17 := by kernel_rfl
theorem hh238 : p.hint 238 = h238 := by kernel_rfl
theorem fn239 : p.fn 239 = some Tryz.f239 := by kernel_rfl
theorem nt239 : Tryz.f239.ntmps = 14 := by kernel_rfl
theorem hh239 : p.hint 239 = h239 := by kernel_rfl
theorem fn240 : p.fn 240 = some Tryz.f240 := by kernel_rfl
theorem nt240 : Tryz.f240.ntmps = 27 := by kernel_rfl
theorem hh240 : p.hint 240 = h240 := by kernel_rfl
theorem fn241 : p.fn 241 = some Tryz.f241 := by kernel_rfl
theorem nt241 : Tryz.f241.ntmps = 27 := by kernel_rfl
theorem hh241 : p.hint 241 = h241 := by kernel_rfl
theorem fn242 : p.fn 242 = some Tryz.f242 := by kernel_rfl
theorem nt242 : Tryz.f242.ntmps = 27 := by kernel_rfl
theorem hh242 : p.hint 242 = h242 := by kernel_rfl
theorem fn243 : p.fn 243 = some Tryz.f243 := by kernel_rfl
theorem nt243 : Tryz.f243.ntmps = 25 := by kernel_rfl
theorem hh243 : p.hint 243 = h243 := by kernel_rfl
theorem fn244 : p.fn 244 = some Tryz.f244 := by kernel_rfl
theorem nt244 : Tryz.f244.ntmps = 20 := by kernel_rfl
theorem hh244 : p.hint 244 = h244 := by kernel_rfl
theorem fn261 : p.fn 261 = some Tryz.f261 := by kernel_rfl
theorem nt261 : Tryz.f261.ntmps = 18 := by kernel_rfl
theorem hh261 : p.hint 261 = h261 := by kernel_rfl
theorem fn262 : p.fn 262 = some Tryz.f262 := by kernel_rfl
theorem nt262 : Tryz.f262.ntmps = 10 := by kernel_rfl
theorem hh262 : p.hint 262 = h262 := by kernel_rfl
theorem fn263 : p.fn 263 = some Tryz.f263 := by kernel_rfl
theorem nt263 : Tryz.f263.ntmps = 9 := by kernel_rfl
theorem hh263 : p.hint 263 = h263 := by kernel_rfl
theorem fn268 : p.fn 268 = some Tryz.f268 := by kernel_rfl
theorem nt268 : Tryz.f268.ntmps = 10 := by kernel_rfl
theorem hh268 : p.hint 268 = h268 := by kernel_rfl
theorem fn269 : p.fn 269 = some Tryz.f269 := by kernel_rfl
theorem nt269 : Tryz.f269.ntmps = 9 := by kernel_rfl
theorem hh269 : p.hint 269 = h269 := by kernel_rfl
theorem fn270 : p.fn 270 = some Tryz.f270 := by kernel_rfl
theorem nt270 : Tryz.f270.ntmps = 10 := by kernel_rfl
theorem hh270 : p.hint 270 = h270 := by kernel_rfl
theorem fn271 : p.fn 271 = some Tryz.f271 := by kernel_rfl
theorem nt271 : Tryz.f271.ntmps = 12 := by kernel_rfl
theorem hh271 : p.hint 271 = h271 := by kernel_rfl
theorem fn272 : p.fn 272 = some Tryz.f272 := by kernel_rfl
theorem nt272 : Tryz.f272.ntmps = 12 := by kernel_rfl
theorem hh272 : p.hint 272 = h272 := by kernel_rfl
theorem fn273 : p.fn 273 = some Tryz.f273 := by kernel_rfl
theorem nt273 : Tryz.f273.ntmps = 11 := by kernel_rfl
theorem hh273 : p.hint 273 = h273 := by kernel_rfl
theorem fn274 : p.fn 274 = some Tryz.f274 := by kernel_rfl
theorem nt274 : Tryz.f274.ntmps = 16 := by kernel_rfl
theorem hh274 : p.hint 274 = h274 := by kernel_rfl
theorem fn275 : p.fn 275 = some Tryz.f275 := by kernel_rfl
theorem nt275 : Tryz.f275.ntmps = 15 := by kernel_rfl
theorem hh275 : p.hint 275 = h275 := by kernel_rfl
theorem fn294 : p.fn 294 = some Tryz.f294 := by kernel_rfl
theorem nt294 : Tryz.f294.ntmps = 19 := by kernel_rfl
theorem hh294 : p.hint 294 = h294 := by kernel_rfl
theorem fn295 : p.fn 295 = some Tryz.f295 := by kernel_rfl
theorem nt295 : Tryz.f295.ntmps = 13 := by kernel_rfl
theorem hh295 : p.hint 295 = h295 := by kernel_rfl
theorem fn296 : p.fn 296 = some Tryz.f296 := by kernel_rfl
theorem nt296 : Tryz.f296.ntmps = 20 := by kernel_rfl
theorem hh296 : p.hint 296 = h296 := by kernel_rfl
theorem fn297 : p.fn 297 = some Tryz.f297 := by kernel_rfl
theorem nt297 : Tryz.f297.ntmps = 30 := by kernel_rfl
theorem hh297 : p.hint 297 = h297 := by kernel_rfl
set_option maxRecDepth 100000 in
theorem fnTab_ok : ∀ q ∈ fnTab, FnOk Tryz.prog q.1 q.2 := all_of (⟨⟨Tryz.func4, by kernel_rfl, by kernel_rfl⟩, ⟨⟨Tryz.func5, by kernel_rfl, by kernel_rfl⟩, ⟨⟨Tryz.func6, by kernel_rfl, by kernel_rfl⟩, ⟨⟨Tryz.func7, by kernel_rfl, by kernel_rfl⟩, ⟨⟨Tryz.func13, by kernel_rfl, by kernel_rfl⟩, ⟨⟨Tryz.func16, by kernel_rfl, by kernel_rfl⟩, ⟨⟨Tryz.func19, by kernel_rfl, by kernel_rfl⟩, ⟨⟨Tryz.func20, by kernel_rfl, by kernel_rfl⟩, ⟨⟨Tryz.func21, by kernel_rfl, by kernel_rfl⟩, ⟨⟨Tryz.func22, by kernel_rfl, by kernel_rfl⟩, ⟨⟨Tryz.func23, by kernel_rfl, by kernel_rfl⟩, ⟨⟨Tryz.func24, by kernel_rfl, by kernel_rfl⟩, ⟨⟨Tryz.func25, by kernel_rfl, by kernel_rfl⟩, ⟨⟨Tryz.func26, by kernel_rfl, by kernel_rfl⟩, ⟨⟨Tryz.func27, by kernel_rfl, by kernel_rfl⟩, ⟨⟨Tryz.func28, by kernel_rfl, by kernel_rfl⟩, ⟨⟨Tryz.func29, by kernel_rfl, by kernel_rfl⟩, ⟨⟨Tryz.func36, by kernel_rfl, by kernel_rfl⟩, ⟨⟨Tryz.func39, by kernel_rfl, by kernel_rfl⟩, ⟨⟨Tryz.func40, by kernel_rfl, by kernel_rfl⟩, ⟨⟨Tryz.func41, by kernel_rfl, by kernel_rfl⟩, ⟨⟨Tryz.func43, by kernel_rfl, by kernel_rfl⟩, ⟨⟨Tryz.func48, by kernel_rfl, by kernel_rfl⟩, ⟨⟨Tryz.func49, by kernel_rfl, by kernel_rfl⟩, ⟨⟨Tryz.func50, by kernel_rfl, by kernel_rfl⟩, ⟨⟨Tryz.func51, by kernel_rfl, by kernel_rfl⟩, ⟨⟨Tryz.func58, by kernel_rfl, by kernel_rfl⟩, ⟨⟨Tryz.func59, by kernel_rfl, by kernel_rfl⟩, ⟨⟨Tryz.func60, by kernel_rfl, by kernel_rfl⟩, ⟨⟨Tryz.func61, by kernel_rfl, by kernel_rfl⟩, ⟨⟨Tryz.func62, by kernel_rfl, by kernel_rfl⟩, ⟨⟨Tryz.func63, by kernel_rfl, by kernel_rfl⟩, ⟨⟨Tryz.func64, by kernel_rfl, by kernel_rfl⟩, ⟨⟨Tryz.func65, by kernel_rfl, by kernel_rfl⟩, ⟨⟨Tryz.func66, by kernel_rfl, by kernel_rfl⟩, ⟨⟨Tryz.func67, by kernel_rfl, by kernel_rfl⟩, ⟨⟨Tryz.func68, by kernel_rfl, by kernel_rfl⟩, ⟨⟨Tryz.func69, by kernel_rfl, by kernel_rfl⟩, ⟨⟨Tryz.func76, by kernel_rfl, by kernel_rfl⟩, ⟨⟨Tryz.func78, by kernel_rfl, by kernel_rfl⟩, ⟨⟨Tryz.func84, by kernel_rfl, by kernel_rfl⟩, ⟨⟨Tryz.func85, by kernel_rfl, by kernel_rfl⟩, ⟨⟨Tryz.func86, by kernel_rfl, by kernel_rfl⟩, ⟨⟨Tryz.func87, by kernel_rfl, by kernel_rfl⟩, ⟨⟨Tryz.func88, by kernel_rfl, by kernel_rfl⟩, ⟨⟨Tryz.func89, by kernel_rfl, by kernel_rfl⟩, ⟨⟨Tryz.func90, by kernel_rfl, by kernel_rfl⟩, ⟨⟨Tryz.func91, by kernel_rfl, by kernel_rfl⟩, ⟨⟨Tryz.func92, by kernel_rfl, by kernel_rfl⟩, ⟨⟨Tryz.func94, by kernel_rfl, by kernel_rfl⟩, ⟨⟨Tryz.func101, by kernel_rfl, by kernel_rfl⟩, ⟨⟨Tryz.func102, by kernel_rfl, by kernel_rfl⟩, ⟨⟨Tryz.func103, by kernel_rfl, by kernel_rfl⟩, ⟨⟨Tryz.func104, by kernel_rfl, by kernel_rfl⟩, ⟨⟨Tryz.func105, by kernel_rfl, by kernel_rfl⟩, ⟨⟨Tryz.func106, by kernel_rfl, by kernel_rfl⟩, ⟨⟨Tryz.func107, by kernel_rfl, by kernel_rfl⟩, ⟨⟨Tryz.func108, by kernel_rfl, by kernel_rfl⟩, ⟨⟨Tryz.func109, by kernel_rfl, by kernel_rfl⟩, ⟨⟨Tryz.func110, by kernel_rfl, by kernel_rfl⟩, ⟨⟨Tryz.func111, by kernel_rfl, by kernel_rfl⟩, ⟨⟨Tryz.func112, by kernel_rfl, by kernel_rfl⟩, ⟨⟨Tryz.func116, by kernel_rfl, by kernel_rfl⟩, ⟨⟨Tryz.func121, by kernel_rfl, by kernel_rfl⟩, ⟨⟨Tryz.func122, by kernel_rfl, by kernel_rfl⟩, ⟨⟨Tryz.func123, by kernel_rfl, by kernel_rfl⟩, ⟨⟨Tryz.func124, by kernel_rfl, by kernel_rfl⟩, ⟨⟨Tryz.func125, by kernel_rfl, by kernel_rfl⟩, ⟨⟨Tryz.func126, by kernel_rfl, by kernel_rfl⟩, ⟨⟨Tryz.func127, by kernel_rfl, by kernel_rfl⟩, ⟨⟨Tryz.func128, by kernel_rfl, by kernel_rfl⟩, ⟨⟨Tryz.func129, by kernel_rfl, by kernel_rfl⟩, ⟨⟨Tryz.func157, by kernel_rfl, by kernel_rfl⟩, ⟨⟨Tryz.func158, by kernel_rfl, by kernel_rfl⟩, ⟨⟨Tryz.func164, by kernel_rfl, by kernel_rfl⟩, ⟨⟨Tryz.func165, by kernel_rfl, by kernel_rfl⟩, ⟨⟨Tryz.func166, by kernel_rfl, by kernel_rfl⟩, ⟨⟨Tryz.func167, by kernel_rfl, by kernel_rfl⟩, ⟨⟨Tryz.func170, by kernel_rfl, by kernel_rfl⟩, ⟨⟨Tryz.func171, by kernel_rfl, by kernel_rfl⟩, ⟨⟨Tryz.func172, by kernel_rfl, by kernel_rfl⟩, ⟨⟨Tryz.func173, by kernel_rfl, by kernel_rfl⟩, ⟨⟨Tryz.func174, by kernel_rfl, by kernel_rfl⟩, ⟨⟨Tryz.func175, by kernel_rfl, by kernel_rfl⟩, ⟨⟨Tryz.func176, by kernel_rfl, by kernel_rfl⟩, ⟨⟨Tryz.func177, by kernel_rfl, by kernel_rfl⟩, ⟨⟨Tryz.func178, by kernel_rfl, by kernel_rfl⟩, ⟨⟨Tryz.func179, by kernel_rfl, by kernel_rfl⟩, ⟨⟨Tryz.func180, by kernel_rfl, by kernel_rfl⟩, ⟨⟨Tryz.func181, by kernel_rfl, by kernel_rfl⟩, ⟨⟨Tryz.func182, by kernel_rfl, by kernel_rfl⟩, ⟨⟨Tryz.func183, by kernel_rfl, by kernel_rfl⟩, ⟨⟨Tryz.func184, by kernel_rfl, by kernel_rfl⟩, ⟨⟨Tryz.func185, by kernel_rfl, by kernel_rfl⟩, ⟨⟨Tryz.func186, by kernel_rfl, by kernel_rfl⟩, ⟨⟨Tryz.func187, by kernel_rfl, by kernel_rfl⟩, ⟨⟨Tryz.func188, by kernel_rfl, by kernel_rfl⟩, ⟨⟨Tryz.func189, by kernel_rfl, by kernel_rfl⟩, ⟨⟨Tryz.func190, by kernel_rfl, by kernel_rfl⟩, ⟨⟨Tryz.func191, by kernel_rfl, by kernel_rfl⟩, ⟨⟨Tryz.func211, by kernel_rfl, by kernel_rfl⟩, ⟨⟨Tryz.func221, by kernel_rfl, by kernel_rfl⟩, ⟨⟨Tryz.func222, by kernel_rfl, by kernel_rfl⟩, ⟨⟨Tryz.func223, by kernel_rfl, by kernel_rfl⟩, ⟨⟨Tryz.func224, by kernel_rfl, by kernel_rfl⟩, ⟨⟨Tryz.func228, by kernel_rfl, by kernel_rfl⟩, ⟨⟨Tryz.func229, by kernel_rfl, by kernel_rfl⟩, ⟨⟨Tryz.func230, by kernel_rfl, by kernel_rfl⟩, ⟨⟨Tryz.func231, by kernel_rfl, by kernel_rfl⟩, ⟨⟨Tryz.func232, by kernel_rfl, by kernel_rfl⟩, ⟨⟨Tryz.func233, by kernel_rfl, by kernel_rfl⟩, ⟨⟨Tryz.func234, by kernel_rfl, by kernel_rfl⟩, ⟨⟨Tryz.func235, by kernel_rfl, by kernel_rfl⟩, ⟨⟨Tryz.func236, by kernel_rfl, by kernel_rfl⟩, ⟨⟨Tryz.func237, by kernel_rfl, by kernel_rfl⟩, ⟨⟨Tryz.func238, by kernel_rfl, by kernel_rfl⟩, ⟨⟨Tryz.func239, by kernel_rfl, by kernel_rfl⟩, ⟨⟨Tryz.func240, by kernel_rfl, by kernel_rfl⟩, ⟨⟨Tryz.func241, by kernel_rfl, by kernel_rfl⟩, ⟨⟨Tryz.func242, by kernel_rfl, by kernel_rfl⟩, ⟨⟨Tryz.func243, by kernel_rfl, by kernel_rfl⟩, ⟨⟨Tryz.func244, by kernel_rfl, by kernel_rfl⟩, ⟨⟨Tryz.func261, by kernel_rfl, by kernel_rfl⟩, ⟨⟨Tryz.func262, by kernel_rfl, by kernel_rfl⟩, ⟨⟨Tryz.func263, by kernel_rfl, by kernel_rfl⟩, ⟨⟨Tryz.func268, by kernel_rfl, by kernel_rfl⟩, ⟨⟨Tryz.func269, by kernel_rfl, by kernel_rfl⟩, ⟨⟨Tryz.func270, by kernel_rfl, by kernel_rfl⟩, ⟨⟨Tryz.func271, by kernel_rfl, by kernel_rfl⟩, ⟨⟨Tryz.func272, by kernel_rfl, by kernel_rfl⟩, ⟨⟨Tryz.func273, by kernel_rfl, by kernel_rfl⟩, ⟨⟨Tryz.func274, by kernel_rfl, by kernel_rfl⟩, ⟨⟨Tryz.func275, by kernel_rfl, by kernel_rfl⟩, ⟨⟨Tryz.func294, by kernel_rfl, by kernel_rfl⟩, ⟨⟨Tryz.func295, by kernel_rfl, by kernel_rfl⟩, ⟨⟨Tryz.func296, by kernel_rfl, by kernel_rfl⟩, ⟨⟨Tryz.func297, by kernel_rfl, by kernel_rfl⟩, trivial⟩⟩⟩⟩⟩⟩⟩⟩⟩⟩⟩⟩⟩⟩⟩⟩⟩⟩⟩⟩⟩⟩⟩⟩⟩⟩⟩⟩⟩⟩⟩⟩⟩⟩⟩⟩⟩⟩⟩⟩⟩⟩⟩⟩⟩⟩⟩⟩⟩⟩⟩⟩⟩⟩⟩⟩⟩⟩⟩⟩⟩⟩⟩⟩⟩⟩⟩⟩⟩⟩⟩⟩⟩⟩⟩⟩⟩⟩⟩⟩⟩⟩⟩⟩⟩⟩⟩⟩⟩⟩⟩⟩⟩⟩⟩⟩⟩⟩⟩⟩⟩⟩⟩⟩⟩⟩⟩⟩⟩⟩⟩⟩⟩⟩⟩⟩⟩⟩⟩⟩⟩⟩⟩⟩⟩⟩⟩⟩⟩⟩⟩⟩⟩⟩⟩⟩⟩)
theorem prg_ok : PrgOk Tryz.prog p where
  ti := tabB_ok (by kernel_rfl)
  depth := Nat.le_of_ble_eq_true (by kernel_rfl)
  mixed := by kernel_rfl
  fn := fun g fn h => (fnTab_ok _ (look_mem fnTab h)).out
  own := fun g F h => by cases h
theorem k_ok : KOk p.ti := kindsB_ok (by kernel_rfl)
end Go.Abs.Tz
