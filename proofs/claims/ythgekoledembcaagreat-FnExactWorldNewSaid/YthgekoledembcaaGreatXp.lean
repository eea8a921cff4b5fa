/- What the functions of this program answer, part p. -/
import Derived.Test.YthgekoledembcaaGreatXz
import Derived.Test.YthgekoledembcaaGreatW2
import Derived.KernelRfl
set_option linter.unusedVariables false
namespace Go.Abs.Gz
open Go Go.Abs Go.Proofs
set_option maxRecDepth 100000 in
def rts : Nat → Option (List Nat) := fun g => look? g [(3, [4]), (9, [26, 4]), (10, [26, 4]), (11, [4]), (12, [3]), (13, [3]), (20, [4]), (21, [4]), (23, [3]), (24, [3]), (35, [73, 4]), (36, [4]), (37, [73, 4]), (38, [4]), (39, [4]), (40, [4]), (41, [4]), (42, [3]), (43, [3]), (44, [3]), (45, [3]), (46, [3]), (47, [3]), (53, [4]), (60, [4]), (62, [4]), (63, [4]), (64, [3]), (65, [3]), (68, [3]), (69, [3]), (70, [4]), (71, [4]), (76, [65]), (77, [69]), (78, [4]), (79, [65]), (80, [69]), (81, [4]), (82, [4]), (83, [4]), (84, [4]), (85, [4]), (86, [3]), (87, [3]), (88, [3]), (89, [3]), (90, [3]), (91, [3]), (92, [3]), (93, [3]), (94, [3]), (95, [3]), (100, [4]), (101, [4]), (102, [3]), (109, [4]), (110, [4]), (111, [3]), (114, [4]), (115, [4]), (116, [9]), (128, [3]), (129, [3]), (130, [4]), (131, [4]), (132, [4]), (133, [3]), (134, [4]), (135, [4]), (136, [3]), (137, [3]), (138, [4]), (139, [3]), (140, [4]), (141, [4]), (142, [3]), (143, [4]), (144, [4]), (145, [4]), (146, [4]), (147, [4]), (148, [4]), (149, [4]), (150, [4]), (151, [4]), (169, [4]), (180, [106]), (181, [3]), (182, [106]), (183, [49]), (184, [106]), (185, [4]), (186, [3]), (187, [106]), (188, [49]), (189, [106]), (190, [4]), (191, [4]), (192, [3]), (193, [4]), (194, [4]), (195, [4]), (203, [106]), (204, [4]), (205, [3]), (206, [106]), (207, [4]), (208, [3]), (211, [3])]
def ownL : List Nat := [12, 23, 42, 43, 44, 64, 65, 86, 87, 88, 89, 90]
def pinL : List Nat := [3, 12, 23, 42, 43, 44, 64, 65, 86, 87, 88, 89, 90]
def E1 (call : Cl) (n : Nat) (h : Hints) : Env := { ti := ti, n := n, call := call, fresh := fun _ => true, owns := fun g => memN g ownL, h := h }
def h3 : Hints := ⟨true, [], [], true, false⟩
def h9 : Hints := ⟨true, [], [(3, ⟨[0, 1, 2, 3, 4, 10, 12, 13], [320, 384, 60048], [(some 384, 0, 60048, 73)]⟩)], false, false⟩
def h10 : Hints := ⟨true, [], [(3, ⟨[0, 1, 2, 3, 4, 10, 12, 13], [320, 384, 60048], [(some 384, 0, 60048, 73)]⟩)], false, false⟩
def h11 : Hints := ⟨true, [], [], false, false⟩
def h12 : Hints := ⟨true, [], [], true, true⟩
def h13 : Hints := ⟨true, [], [], false, false⟩
def h20 : Hints := ⟨true, [], [(4, ⟨[0, 1, 5], [], []⟩)], false, false⟩
def h21 : Hints := ⟨true, [], [], false, false⟩
def h23 : Hints := ⟨true, [], [(2, ⟨[0, 1, 5], [100000], []⟩)], true, true⟩
def h24 : Hints := ⟨true, [], [(2, ⟨[0, 1, 5], [], []⟩)], false, false⟩
def h35 : Hints := ⟨true, [], [], false, false⟩
def h36 : Hints := ⟨true, [], [(15, ⟨[1, 3, 6], [32], []⟩), (10, ⟨[1, 3, 5], [32], []⟩), (5, ⟨[1, 3, 4], [32], []⟩)], false, false⟩
def h37 : Hints := ⟨true, [], [], false, false⟩
def h38 : Hints := ⟨true, [], [(16, ⟨[1, 66, 67, 68], [32], []⟩), (10, ⟨[1, 53, 54, 55], [32], []⟩), (4, ⟨[1, 27, 28, 29], [32], []⟩)], false, false⟩
def h39 : Hints := ⟨true, [], [(4, ⟨[0, 1, 5], [], []⟩)], false, false⟩
def h40 : Hints := ⟨true, [], [(4, ⟨[0, 1, 5], [], []⟩)], false, false⟩
def h41 : Hints := ⟨true, [], [(4, ⟨[0, 1, 5], [], []⟩)], false, false⟩
def h42 : Hints := ⟨true, [], [(2, ⟨[0, 1, 5], [100000], []⟩)], true, true⟩
def h43 : Hints := ⟨true, [], [(2, ⟨[0, 1, 5], [100000], []⟩)], true, true⟩
def h44 : Hints := ⟨true, [], [(2, ⟨[0, 1, 5], [100000], []⟩)], true, true⟩
def h45 : Hints := ⟨true, [], [(2, ⟨[0, 1, 5], [], []⟩)], false, false⟩
def h46 : Hints := ⟨true, [], [(2, ⟨[0, 1, 5], [], []⟩)], false, false⟩
def h47 : Hints := ⟨true, [], [(2, ⟨[0, 1, 5], [], []⟩)], false, false⟩
def h53 : Hints := ⟨true, [], [(8, ⟨[1, 5], [32], []⟩), (2, ⟨[1, 3], [32], []⟩)], false, false⟩
def h60 : Hints := ⟨true, [], [(8, ⟨[1, 43, 44, 45], [32], []⟩), (2, ⟨[1, 8, 9, 10], [32], []⟩)], false, false⟩
def h62 : Hints := ⟨true, [], [(4, ⟨[0, 1, 5], [], []⟩)], false, false⟩
def h63 : Hints := ⟨true, [], [(4, ⟨[0, 1, 5], [], []⟩)], false, false⟩
def h64 : Hints := ⟨true, [], [(2, ⟨[0, 1, 5], [100000], []⟩)], true, true⟩
def h65 : Hints := ⟨true, [], [(2, ⟨[0, 1, 5], [100000], []⟩)], true, true⟩
def h68 : Hints := ⟨true, [], [(2, ⟨[0, 1, 5], [], []⟩)], false, false⟩
def h69 : Hints := ⟨true, [], [(2, ⟨[0, 1, 5], [], []⟩)], false, false⟩
def h70 : Hints := ⟨true, [], [], false, false⟩
def h71 : Hints := ⟨true, [], [], false, false⟩
def h76 : Hints := ⟨true, [], [(5, ⟨[1, 2, 3, 4], [32, 64, 96, 60080], [(some 96, 0, 60080, 3)]⟩)], false, false⟩
def h77 : Hints := ⟨true, [], [(5, ⟨[0, 3, 4], [60080], [(none, 3, 60080, 43)]⟩)], false, false⟩
def h78 : Hints := ⟨true, [], [(13, ⟨[1, 4], [32], []⟩), (6, ⟨[1, 3], [32], []⟩)], false, false⟩
def h79 : Hints := ⟨true, [], [(5, ⟨[1, 2, 3, 4], [32, 64, 96, 60080], [(some 96, 0, 60080, 3)]⟩)], false, false⟩
def h80 : Hints := ⟨true, [], [(5, ⟨[3, 9, 10], [60080], [(none, 3, 60080, 43)]⟩)], false, false⟩
def h81 : Hints := ⟨true, [], [], false, false⟩
def h82 : Hints := ⟨true, [], [], false, false⟩
def h83 : Hints := ⟨true, [], [], false, false⟩
def h84 : Hints := ⟨true, [], [], false, false⟩
def h85 : Hints := ⟨true, [], [], false, false⟩
def h86 : Hints := ⟨true, [], [(2, ⟨[0, 1, 5], [100000], []⟩)], true, true⟩
def h87 : Hints := ⟨true, [], [(2, ⟨[0, 1, 5], [100000], []⟩)], true, true⟩
def h88 : Hints := ⟨true, [], [(2, ⟨[0, 1, 5], [100000], []⟩)], true, true⟩
def h89 : Hints := ⟨true, [], [(2, ⟨[0, 1, 5], [100000], []⟩)], true, true⟩
def h90 : Hints := ⟨true, [], [(2, ⟨[0, 1, 5], [100000], []⟩)], true, true⟩
def h91 : Hints := ⟨true, [], [(2, ⟨[0, 1, 5], [], []⟩)], false, false⟩
def h92 : Hints := ⟨true, [], [(2, ⟨[0, 1, 5], [], []⟩)], false, false⟩
def h93 : Hints := ⟨true, [], [(2, ⟨[0, 1, 5], [], []⟩)], false, false⟩
def h94 : Hints := ⟨true, [], [(2, ⟨[0, 1, 5], [], []⟩)], false, false⟩
def h95 : Hints := ⟨true, [], [(2, ⟨[0, 1, 5], [], []⟩)], false, false⟩
def h100 : Hints := ⟨true, [], [], false, false⟩
def h101 : Hints := ⟨true, [], [], false, false⟩
def h102 : Hints := ⟨true, [], [(2, ⟨[1, 2, 5], [64], []⟩)], false, false⟩
def h109 : Hints := ⟨true, [], [], false, false⟩
def h110 : Hints := ⟨true, [], [], false, false⟩
def h111 : Hints := ⟨true, [], [(2, ⟨[1, 8, 9, 10], [], []⟩)], false, false⟩
def h114 : Hints := ⟨true, [], [], false, false⟩
def h115 : Hints := ⟨true, [], [], false, false⟩
def h116 : Hints := ⟨true, [], [(4, ⟨[0, 3], [], []⟩)], false, false⟩
def h128 : Hints := ⟨true, [], [], false, false⟩
def h129 : Hints := ⟨true, [], [(3, ⟨[0, 3, 4], [60048], [(none, 3, 60048, 5)]⟩)], false, false⟩
def h130 : Hints := ⟨true, [], [], false, false⟩
def h131 : Hints := ⟨true, [], [(4, ⟨[1, 3], [32], []⟩)], false, false⟩
def h132 : Hints := ⟨true, [], [(4, ⟨[0, 1, 5], [], []⟩)], false, false⟩
def h133 : Hints := ⟨true, [], [], false, false⟩
def h134 : Hints := ⟨true, [], [(9, ⟨[0, 1, 5, 6], [], []⟩), (4, ⟨[0, 1, 5], [], []⟩)], false, false⟩
def h135 : Hints := ⟨true, [], [(10, ⟨[1, 3, 4, 5, 32, 33, 34, 35, 36, 39, 40, 41, 42, 45, 46, 47, 48, 49, 50], [32, 128], []⟩), (4, ⟨[1, 3], [32], []⟩)], false, false⟩
def h136 : Hints := ⟨true, [], [], false, false⟩
def h137 : Hints := ⟨true, [], [(3, ⟨[3, 7, 8, 9], [60048], [(none, 3, 60048, 5)]⟩)], false, false⟩
def h138 : Hints := ⟨true, [], [], false, false⟩
def h139 : Hints := ⟨true, [], [], false, false⟩
def h140 : Hints := ⟨true, [], [(2, ⟨[1, 6, 7, 8], [32], []⟩)], false, false⟩
def h141 : Hints := ⟨true, [], [(2, ⟨[0, 1, 7, 8, 9], [], []⟩)], false, false⟩
def h142 : Hints := ⟨true, [], [(5, ⟨[0, 3, 4], [], []⟩)], false, false⟩
def h143 : Hints := ⟨true, [], [(5, ⟨[0, 1, 6, 9, 10, 11, 15, 16, 17], [], []⟩), (2, ⟨[0, 1, 9, 10, 11], [], []⟩)], false, false⟩
def h144 : Hints := ⟨true, [], [(2, ⟨[1, 6, 7, 8], [32], []⟩)], false, false⟩
def h145 : Hints := ⟨true, [], [(2, ⟨[1, 6, 7, 8], [32], []⟩)], false, false⟩
def h146 : Hints := ⟨true, [], [], false, false⟩
def h147 : Hints := ⟨true, [], [], false, false⟩
def h148 : Hints := ⟨true, [], [(4, ⟨[0, 1, 5], [], []⟩)], false, false⟩
def h149 : Hints := ⟨true, [], [(4, ⟨[0, 1, 5], [], []⟩)], false, false⟩
def h150 : Hints := ⟨true, [], [(4, ⟨[0, 1, 5], [], []⟩)], false, false⟩
def h151 : Hints := ⟨true, [], [(4, ⟨[0, 1, 5], [], []⟩)], false, false⟩
def h169 : Hints := ⟨true, [], [], false, false⟩
def h180 : Hints := ⟨true, [], [(3, ⟨[3, 7, 8, 9], [60048], [(none, 3, 60048, 5)]⟩)], false, false⟩
def h181 : Hints := ⟨true, [], [(7, ⟨[0, 3, 4, 5], [], []⟩), (3, ⟨[0, 3, 4], [], []⟩)], false, false⟩
def h182 : Hints := ⟨true, [], [(8, ⟨[1, 3, 4, 5, 6, 7], [32, 160, 1280, 60128], [(none, 3, 60128, 5)]⟩), (14, ⟨[1, 3, 8], [32, 60224], [(none, 3, 60224, 5)]⟩), (3, ⟨[1, 3, 4], [32, 60048], [(none, 3, 60048, 5)]⟩)], false, false⟩
def h183 : Hints := ⟨true, [], [(8, ⟨[1, 2, 4, 5, 7], [64, 128, 160, 60048, 60128], [(some 160, 1, 60128, 143)]⟩), (3, ⟨[1, 2, 4, 5, 6], [64, 128, 160, 60048], [(some 160, 0, 60048, 139)]⟩)], false, false⟩
def h184 : Hints := ⟨true, [], [(4, ⟨[0, 3], [60064], [(none, 3, 60064, 5)]⟩)], false, false⟩
def h185 : Hints := ⟨true, [], [(4, ⟨[0, 1, 5], [], []⟩)], false, false⟩
def h186 : Hints := ⟨true, [], [(7, ⟨[3, 7, 8, 9, 17], [], []⟩), (3, ⟨[3, 7, 8, 9], [], []⟩)], false, false⟩
def h187 : Hints := ⟨true, [], [(12, ⟨[3, 55, 56, 57], [60192], [(none, 3, 60192, 5)]⟩), (5, ⟨[1, 3, 17, 18, 19], [32, 60080], [(none, 3, 60080, 5)]⟩)], false, false⟩
def h188 : Hints := ⟨true, [], [(11, ⟨[1, 4, 5, 35, 36, 37], [128, 160, 60080, 60176], [(some 160, 1, 60176, 143)]⟩), (5, ⟨[1, 2, 4, 5, 16, 17, 18], [64, 128, 160, 60080], [(some 160, 0, 60080, 139)]⟩)], false, false⟩
def h189 : Hints := ⟨true, [], [(4, ⟨[0, 3], [60064], [(none, 3, 60064, 5)]⟩)], false, false⟩
def h190 : Hints := ⟨true, [], [(4, ⟨[0, 1, 12, 13], [], []⟩)], false, false⟩
def h191 : Hints := ⟨true, [], [], false, false⟩
def h192 : Hints := ⟨true, [], [(2, ⟨[1, 2, 10, 11, 12], [], []⟩)], false, false⟩
def h193 : Hints := ⟨true, [], [(4, ⟨[0, 1, 5], [], []⟩)], false, false⟩
def h194 : Hints := ⟨true, [], [], false, false⟩
def h195 : Hints := ⟨true, [], [], false, false⟩
def h203 : Hints := ⟨true, [], [], false, false⟩
def h204 : Hints := ⟨true, [], [(2, ⟨[0, 1, 5], [], []⟩)], false, false⟩
def h205 : Hints := ⟨true, [], [], false, false⟩
def h206 : Hints := ⟨true, [], [], false, false⟩
def h207 : Hints := ⟨true, [], [], false, false⟩
def h208 : Hints := ⟨true, [], [], false, false⟩
def h211 : Hints := ⟨true, [], [(2, ⟨[0, 1, 7, 8], [], []⟩)], false, false⟩
set_option maxRecDepth 100000 in
noncomputable def fnTab : List (Nat × Func) := [(3, Tryz.f3), (9, Tryz.f9), (10, Tryz.f10), (11, Tryz.f11), (12, Tryz.f12), (13, Tryz.f13), (20, Tryz.f20), (21, Tryz.f21), (23, Tryz.f23), (24, Tryz.f24), (35, Tryz.f35), (36, Tryz.f36), (37, Tryz.f37), (38, Tryz.f38), (39, Tryz.f39), (40, Tryz.f40), (41, Tryz.f41), (42, Tryz.f42), (43, Tryz.f43), (44, Tryz.f44), (45, Tryz.f45), (46, Tryz.f46), (47, Tryz.f47), (53, Tryz.f53), (60, Tryz.f60), (62, Tryz.f62), (63, Tryz.f63), (64, Tryz.f64), (65, Tryz.f65), (68, Tryz.f68), (69, Tryz.f69), (70, Tryz.f70), (71, Tryz.f71), (76, Tryz.f76), (77, Tryz.f77), (78, Tryz.f78), (79, Tryz.f79), (80, Tryz.f80), (81, Tryz.f81), (82, Tryz.f82), (83, Tryz.f83), (84, Tryz.f84), (85, Tryz.f85), (86, Tryz.f86), (87, Tryz.f87), (88, Tryz.f88), (89, Tryz.f89), (90, Tryz.f90), (91, Tryz.f91), (92, Tryz.f92), (93, Tryz.f93), (94, Tryz.f94), (95, Tryz.f95), (100, Tryz.f100), (101, Tryz.f101), (102, Tryz.f102), (109, Tryz.f109), (110, Tryz.f110), (111, Tryz.f111), (114, Tryz.f114), (115, Tryz.f115), (116, Tryz.f116), (128, Tryz.f128), (129, Tryz.f129), (130, Tryz.f130), (131, Tryz.f131), (132, Tryz.f132), (133, Tryz.f133), (134, Tryz.f134), (135, Tryz.f135), (136, Tryz.f136), (137, Tryz.f137), (138, Tryz.f138), (139, Tryz.f139), (140, Tryz.f140), (141, Tryz.f141), (142, Tryz.f142), (143, Tryz.f143), (144, Tryz.f144), (145, Tryz.f145), (146, Tryz.f146), (147, Tryz.f147), (148, Tryz.f148), (149, Tryz.f149), (150, Tryz.f150), (151, Tryz.f151), (169, Tryz.f169), (180, Tryz.f180), (181, Tryz.f181), (182, Tryz.f182), (183, Tryz.f183), (184, Tryz.f184), (185, Tryz.f185), (186, Tryz.f186), (187, Tryz.f187), (188, Tryz.f188), (189, Tryz.f189), (190, Tryz.f190), (191, Tryz.f191), (192, Tryz.f192), (193, Tryz.f193), (194, Tryz.f194), (195, Tryz.f195), (203, Tryz.f203), (204, Tryz.f204), (205, Tryz.f205), (206, Tryz.f206), (207, Tryz.f207), (208, Tryz.f208), (211, Tryz.f211)]
set_option maxRecDepth 100000 in
noncomputable def htab : List (Nat × List (Nat × Norm)) := [(3, h3.loops), (9, h9.loops), (10, h10.loops), (11, h11.loops), (12, h12.loops), (13, h13.loops), (20, h20.loops), (21, h21.loops), (23, h23.loops), (24, h24.loops), (35, h35.loops), (36, h36.loops), (37, h37.loops), (38, h38.loops), (39, h39.loops), (40, h40.loops), (41, h41.loops), (42, h42.loops), (43, h43.loops), (44, h44.loops), (45, h45.loops), (46, h46.loops), (47, h47.loops), (53, h53.loops), (60, h60.loops), (62, h62.loops), (63, h63.loops), (64, h64.loops), (65, h65.loops), (68, h68.loops), (69, h69.loops), (70, h70.loops), (71, h71.loops), (76, h76.loops), (77, h77.loops), (78, h78.loops), (79, h79.loops), (80, h80.loops), (81, h81.loops), (82, h82.loops), (83, h83.loops), (84, h84.loops), (85, h85.loops), (86, h86.loops), (87, h87.loops), (88, h88.loops), (89, h89.loops), (90, h90.loops), (91, h91.loops), (92, h92.loops), (93, h93.loops), (94, h94.loops), (95, h95.loops), (100, h100.loops), (101, h101.loops), (102, h102.loops), (109, h109.loops), (110, h110.loops), (111, h111.loops), (114, h114.loops), (115, h115.loops), (116, h116.loops), (128, h128.loops), (129, h129.loops), (130, h130.loops), (131, h131.loops), (132, h132.loops), (133, h133.loops), (134, h134.loops), (135, h135.loops), (136, h136.loops), (137, h137.loops), (138, h138.loops), (139, h139.loops), (140, h140.loops), (141, h141.loops), (142, h142.loops), (143, h143.loops), (144, h144.loops), (145, h145.loops), (146, h146.loops), (147, h147.loops), (148, h148.loops), (149, h149.loops), (150, h150.loops), (151, h151.loops), (169, h169.loops), (180, h180.loops), (181, h181.loops), (182, h182.loops), (183, h183.loops), (184, h184.loops), (185, h185.loops), (186, h186.loops), (187, h187.loops), (188, h188.loops), (189, h189.loops), (190, h190.loops), (191, h191.loops), (192, h192.loops), (193, h193.loops), (194, h194.loops), (195, h195.loops), (203, h203.loops), (204, h204.loops), (205, h205.loops), (206, h206.loops), (207, h207.loops), (208, h208.loops), (211, h211.loops)]
def ownTab : List (Nat × (List Abs.Arg → Option Out)) := []
noncomputable def p : Prg := { ti := ti, fn := fun g => look? g fnTab, hint := fun g => ⟨true, [], (look? g htab).getD [], memN g pinL, memN g ownL⟩, own := fun g => look? g ownTab }
set_option maxRecDepth 100000 in
theorem rts_eq : p.rts = rts := by
  funext g
  unfold Prg.rts rts p
  rw [look_map]; rfl
theorem ran_of {g : Nat} {fn : Func} {nt : Nat} {h : Hints} {lvl : Nat} {xs : List Abs.Arg} {out : Out} (ho : p.own g = none) (hf : p.fn g = some fn) (hn : fn.ntmps = nt) (hh : p.hint g = h)
    (H : ∀ n, lvl ≤ n → Ev (fun fuel => frun (E1 (arun p n) nt h) rts fuel fn xs) out) : Ran p (lvl + 1) g xs out := by
  subst hn; subst hh
  refine Ran.of ho hf fun n hl => ?_
  rw [rts_eq]
  exact (H n hl).get
set_option maxRecDepth 100000 in
theorem fnTab_ok : ∀ q ∈ fnTab, FnOk Tryz.prog q.1 q.2 := all_of (⟨⟨Tryz.func3, by kernel_rfl, by kernel_rfl⟩, ⟨⟨Tryz.func9, by kernel_rfl, by kernel_rfl⟩, ⟨⟨Tryz.func10, by kernel_rfl, by kernel_rfl⟩, ⟨⟨Tryz.func11, by kernel_rfl, by kernel_rfl⟩, ⟨⟨Tryz.func12, by kernel_rfl, by kernel_rfl⟩, ⟨⟨Tryz.func13, by kernel_rfl, by kernel_rfl⟩, ⟨⟨Tryz.func20, by kernel_rfl, by kernel_rfl⟩, ⟨⟨Tryz.func21, by kernel_rfl, by kernel_rfl⟩, ⟨⟨Tryz.func23, by kernel_rfl, by kernel_rfl⟩, ⟨⟨Tryz.func24, by kernel_rfl, by kernel_rfl⟩, ⟨⟨Tryz.func35, by kernel_rfl, by kernel_rfl⟩, ⟨⟨Tryz.func36, by kernel_rfl, by kernel_rfl⟩, ⟨⟨Tryz.func37, by kernel_rfl, by kernel_rfl⟩, ⟨⟨Tryz.func38, by kernel_rfl, by kernel_rfl⟩, ⟨⟨Tryz.func39, by kernel_rfl, by kernel_rfl⟩, ⟨⟨Tryz.func40, by kernel_rfl, by kernel_rfl⟩, ⟨⟨Tryz.func41, by kernel_rfl, by kernel_rfl⟩, ⟨⟨Tryz.func42, by kernel_rfl, by kernel_rfl⟩, ⟨⟨Tryz.func43, by kernel_rfl, by kernel_rfl⟩, ⟨⟨Tryz.func44, by kernel_rfl, by kernel_rfl⟩, ⟨⟨Tryz.func45, by kernel_rfl, by kernel_rfl⟩, ⟨⟨Tryz.func46, by kernel_rfl, by kernel_rfl⟩, ⟨⟨Tryz.func47, by kernel_rfl, by kernel_rfl⟩, ⟨⟨Tryz.func53, by kernel_rfl, by kernel_rfl⟩, ⟨⟨Tryz.func60, by kernel_rfl, by kernel_rfl⟩, ⟨⟨Tryz.func62, by kernel_rfl, by kernel_rfl⟩, ⟨⟨Tryz.func63, by kernel_rfl, by kernel_rfl⟩, ⟨⟨Tryz.func64, by kernel_rfl, by kernel_rfl⟩, ⟨⟨Tryz.func65, by kernel_rfl, by kernel_rfl⟩, ⟨⟨Tryz.func68, by kernel_rfl, by kernel_rfl⟩, ⟨⟨Tryz.func69, by kernel_rfl, by kernel_rfl⟩, ⟨⟨Tryz.func70, by kernel_rfl, by kernel_rfl⟩, ⟨⟨Tryz.func71, by kernel_rfl, by kernel_rfl⟩, ⟨⟨Tryz.func76, by kernel_rfl, by kernel_rfl⟩, ⟨⟨Tryz.func77, by kernel_rfl, by kernel_rfl⟩, ⟨⟨Tryz.func78, by kernel_rfl, by kernel_rfl⟩, ⟨⟨Tryz.func79, by kernel_rfl, by kernel_rfl⟩, ⟨⟨Tryz.func80, by kernel_rfl, by kernel_rfl⟩, ⟨⟨Tryz.func81, by kernel_rfl, by kernel_rfl⟩, ⟨⟨Tryz.func82, by kernel_rfl, by kernel_rfl⟩, ⟨⟨Tryz.func83, by kernel_rfl, by kernel_rfl⟩, ⟨⟨Tryz.func84, by kernel_rfl, by kernel_rfl⟩, ⟨⟨Tryz.func85, by kernel_rfl, by kernel_rfl⟩, ⟨⟨Tryz.func86, by kernel_rfl, by kernel_rfl⟩, ⟨⟨Tryz.func87, by kernel_rfl, by kernel_rfl⟩, ⟨⟨Tryz.func88, by kernel_rfl, by kernel_rfl⟩, ⟨⟨Tryz.func89, by kernel_rfl, by kernel_rfl⟩, ⟨⟨Tryz.func90, by kernel_rfl, by kernel_rfl⟩, ⟨⟨Tryz.func91, by kernel_rfl, by kernel_rfl⟩, ⟨⟨Tryz.func92, by kernel_rfl, by kernel_rfl⟩, ⟨⟨Tryz.func93, by kernel_rfl, by kernel_rfl⟩, ⟨⟨Tryz.func94, by kernel_rfl, by kernel_rfl⟩, ⟨⟨Tryz.func95, by kernel_rfl, by kernel_rfl⟩, ⟨⟨Tryz.func100, by kernel_rfl, by kernel_rfl⟩, ⟨⟨Tryz.func101, by kernel_rfl, by kernel_rfl⟩, ⟨⟨Tryz.func102, by kernel_rfl, by kernel_rfl⟩, ⟨⟨Tryz.func109, by kernel_rfl, by kernel_rfl⟩, ⟨⟨Tryz.func110, by kernel_rfl, by kernel_rfl⟩, ⟨⟨Tryz.func111, by kernel_rfl, by kernel_rfl⟩, ⟨⟨Tryz.func114, by kernel_rfl, by kernel_rfl⟩, ⟨⟨Tryz.func115, by kernel_rfl, by kernel_rfl⟩, ⟨⟨Tryz.func116, by kernel_rfl, by kernel_rfl⟩, ⟨⟨Tryz.func128, by kernel_rfl, by kernel_rfl⟩, ⟨⟨Tryz.func129, by kernel_rfl, by kernel_rfl⟩, ⟨⟨Tryz.func130, by kernel_rfl, by kernel_rfl⟩, ⟨⟨Tryz.func131, by kernel_rfl, by kernel_rfl⟩, ⟨⟨Tryz.func132, by kernel_rfl, by kernel_rfl⟩, ⟨⟨Tryz.func133, by kernel_rfl, by kernel_rfl⟩, ⟨⟨Tryz.func134, by kernel_rfl, by kernel_rfl⟩, ⟨⟨Tryz.func135, by kernel_rfl, by kernel_rfl⟩, ⟨⟨Tryz.func136, by kernel_rfl, by kernel_rfl⟩, ⟨⟨Tryz.func137, by kernel_rfl, by kernel_rfl⟩, ⟨⟨Tryz.func138, by kernel_rfl, by kernel_rfl⟩, ⟨⟨Tryz.func139, by kernel_rfl, by kernel_rfl⟩, ⟨⟨Tryz.func140, by kernel_rfl, by kernel_rfl⟩, ⟨⟨Tryz.func141, by kernel_rfl, by kernel_rfl⟩, ⟨⟨Tryz.func142, by kernel_rfl, by kernel_rfl⟩, ⟨⟨Tryz.func143, by kernel_rfl, by kernel_rfl⟩, ⟨⟨Tryz.func144, by kernel_rfl, by kernel_rfl⟩, ⟨⟨Tryz.func145, by kernel_rfl, by kernel_rfl⟩, ⟨⟨Tryz.func146, by kernel_rfl, by kernel_rfl⟩, ⟨⟨Tryz.func147, by kernel_rfl, by kernel_rfl⟩, ⟨⟨Tryz.func148, by kernel_rfl, by kernel_rfl⟩, ⟨⟨Tryz.func149, by kernel_rfl, by kernel_rfl⟩, ⟨⟨Tryz.func150, by kernel_rfl, by kernel_rfl⟩, ⟨⟨Tryz.func151, by kernel_rfl, by kernel_rfl⟩, ⟨⟨Tryz.func169, by kernel_rfl, by kernel_rfl⟩, ⟨⟨Tryz.func180, by kernel_rfl, by kernel_rfl⟩, ⟨⟨Tryz.func181, by kernel_rfl, by kernel_rfl⟩, ⟨⟨Tryz.func182, by kernel_rfl, by kernel_rfl⟩, ⟨⟨Tryz.func183, by kernel_rfl, by kernel_rfl⟩, ⟨⟨Tryz.func184, by kernel_rfl, by kernel_rfl⟩, ⟨⟨Tryz.func185, by kernel_rfl, by kernel_rfl⟩, ⟨⟨Tryz.func186, by kernel_rfl, by kernel_rfl⟩, ⟨⟨Tryz.func187, by kernel_rfl, by kernel_rfl⟩, ⟨⟨Tryz.func188, by kernel_rfl, by kernel_rfl⟩, ⟨⟨Tryz.func189, by kernel_rfl, by kernel_rfl⟩, ⟨⟨Tryz.func190, by kernel_rfl, by kernel_rfl⟩, ⟨⟨Tryz.func191, by kernel_rfl, by kernel_rfl⟩, ⟨⟨Tryz.func192, by kernel_rfl, by kernel_rfl⟩, ⟨⟨Tryz.func193, by kernel_rfl, by kernel_rfl⟩, ⟨⟨Tryz.func194, by kernel_rfl, by kernel_rfl⟩, ⟨⟨Tryz.func195, by kernel_rfl, by kernel_rfl⟩, ⟨⟨Tryz.func203, by kernel_rfl, by kernel_rfl⟩, ⟨⟨Tryz.func204, by kernel_rfl, by kernel_rfl⟩, ⟨⟨Tryz.func205, by kernel_rfl, by kernel_rfl⟩, ⟨⟨Tryz.func206, by kernel_rfl, by kernel_rfl⟩, ⟨⟨Tryz.func207, by kernel_rfl, by kernel_rfl⟩, ⟨⟨Tryz.func208, by kernel_rfl, by kernel_rfl⟩, ⟨⟨Tryz.func211, by kernel_rfl, by kernel_rfl⟩, trivial⟩⟩⟩⟩⟩⟩⟩⟩⟩⟩⟩⟩⟩⟩⟩⟩⟩⟩⟩⟩⟩⟩⟩⟩⟩⟩⟩⟩⟩⟩⟩⟩⟩⟩⟩⟩⟩⟩⟩⟩⟩⟩⟩⟩⟩⟩⟩⟩⟩⟩⟩⟩⟩⟩⟩⟩⟩⟩⟩⟩⟩⟩⟩⟩⟩⟩⟩⟩⟩⟩⟩⟩⟩⟩⟩⟩⟩⟩⟩⟩⟩⟩⟩⟩⟩⟩⟩⟩⟩⟩⟩⟩⟩⟩⟩⟩⟩⟩⟩⟩⟩⟩⟩⟩⟩⟩⟩⟩⟩⟩)
theorem prg_ok : PrgOk Tryz.prog p where
  ti := tabB_ok (by kernel_rfl)
  depth := Nat.le_of_ble_eq_true (by kernel_rfl)
  mixed := by kernel_rfl
  fn := fun g fn h => (fnTab_ok _ (look_mem fnTab h)).out
  own := fun g F h => by cases h
theorem k_ok : KOk p.ti := kindsB_ok (by kernel_rfl)
end Go.Abs.Gz
