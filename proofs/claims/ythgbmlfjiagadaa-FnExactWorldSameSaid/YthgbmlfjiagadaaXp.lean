/- What the functions of this program answer, part p. -/
import Derived.Test.YthgbmlfjiagadaaXz
import Derived.Test.YthgbmlfjiagadaaW1
import Derived.KernelRfl
set_option linter.unusedVariables false
namespace Go.Abs.Uz
open Go Go.Abs Go.Proofs
def rts : Nat → Option (List Nat) := fun g => look? g [(6, [4]), (7, [3]), (10, [26]), (13, [4]), (25, [3]), (26, [40]), (27, [4]), (30, [3]), (31, [4]), (32, [71]), (33, [4]), (34, [4]), (35, [3]), (37, [82]), (39, [4]), (57, [3]), (58, [38]), (59, [4]), (61, [3]), (62, [3]), (63, [3]), (64, [4]), (65, [4]), (66, [67]), (67, [68]), (68, [69]), (69, [4]), (70, [4]), (71, [4]), (72, [4]), (73, [4]), (74, [4]), (75, [4]), (76, [4]), (77, [4]), (78, [3]), (79, [46]), (80, [4]), (93, [94]), (94, [4]), (95, [3]), (96, [3]), (97, [3]), (98, [4]), (99, [4]), (100, [4]), (101, [119]), (102, [121]), (103, [123]), (104, [4]), (105, [4]), (106, [4]), (107, [4]), (108, [4]), (109, [4]), (110, [4]), (111, [4]), (112, [4]), (113, [4]), (114, [4]), (115, [4]), (120, [3]), (121, [3]), (122, [3]), (123, [3]), (124, [3]), (125, [3]), (126, [3]), (127, [111]), (128, [114]), (129, [109]), (130, [115]), (131, [116]), (132, [117]), (133, [36]), (134, [4]), (135, [4]), (136, [4]), (137, [4]), (138, [4]), (139, [4]), (140, [4]), (141, [4]), (142, [4]), (143, [4]), (147, [3]), (148, [112]), (149, [166]), (150, [168]), (151, [4]), (152, [4]), (153, [4])]
def E1 (call : Nat → List Abs.Arg → Option Out) (n : Nat) (h : Hints) : Env := { ti := ti, n := n, call := call, fresh := fun _ => true, h := h }
def h6 : Hints := ⟨true, [], []⟩
def h7 : Hints := ⟨true, [], [(5, ⟨[0, 1, 5], [], []⟩)]⟩
def h10 : Hints := ⟨true, [], [(3, ⟨[0, 3, 4], [224], []⟩)]⟩
def h13 : Hints := ⟨true, [], [(4, ⟨[0, 1, 5], [], []⟩)]⟩
def h25 : Hints := ⟨true, [], []⟩
def h26 : Hints := ⟨true, [], []⟩
def h27 : Hints := ⟨true, [], []⟩
def h30 : Hints := ⟨true, [], []⟩
def h31 : Hints := ⟨true, [], [(14, ⟨[2, 3, 7], [64, 96], []⟩), (9, ⟨[2, 3, 6], [64, 96], []⟩), (4, ⟨[2, 3, 5], [64, 96], []⟩)]⟩
def h32 : Hints := ⟨true, [], []⟩
def h33 : Hints := ⟨true, [], []⟩
def h34 : Hints := ⟨true, [], []⟩
def h35 : Hints := ⟨true, [], []⟩
def h37 : Hints := ⟨true, [], []⟩
def h39 : Hints := ⟨true, [], []⟩
def h57 : Hints := ⟨true, [], []⟩
def h58 : Hints := ⟨true, [], [(3, ⟨[0, 3, 4], [224], []⟩)]⟩
def h59 : Hints := ⟨true, [], [(4, ⟨[0, 1, 5], [], []⟩)]⟩
def h61 : Hints := ⟨true, [], [(5, ⟨[0, 1, 5], [], []⟩)]⟩
def h62 : Hints := ⟨true, [], [(5, ⟨[0, 1, 5], [], []⟩)]⟩
def h63 : Hints := ⟨true, [], [(5, ⟨[0, 1, 5], [], []⟩)]⟩
def h64 : Hints := ⟨true, [], [(16, ⟨[2, 3, 7], [64, 96], []⟩), (11, ⟨[2, 3, 6], [64, 96], []⟩), (6, ⟨[2, 3, 5], [64, 96], []⟩)]⟩
def h65 : Hints := ⟨true, [], [(9, ⟨[2, 3, 6], [64, 96], []⟩), (4, ⟨[2, 3, 5], [64, 96], []⟩)]⟩
def h66 : Hints := ⟨true, [], [(3, ⟨[0, 3, 4], [224], []⟩)]⟩
def h67 : Hints := ⟨true, [], [(3, ⟨[0, 3, 4], [224], []⟩)]⟩
def h68 : Hints := ⟨true, [], [(3, ⟨[0, 3, 4], [224], []⟩)]⟩
def h69 : Hints := ⟨true, [], [(4, ⟨[1, 2, 15, 16, 17], [], []⟩)]⟩
def h70 : Hints := ⟨true, [], []⟩
def h71 : Hints := ⟨true, [], [(4, ⟨[1, 2, 15, 16, 17], [], []⟩)]⟩
def h72 : Hints := ⟨true, [], []⟩
def h73 : Hints := ⟨true, [], [(4, ⟨[1, 2, 15, 16, 17], [], []⟩)]⟩
def h74 : Hints := ⟨true, [], []⟩
def h75 : Hints := ⟨true, [], [(4, ⟨[0, 1, 5], [], []⟩)]⟩
def h76 : Hints := ⟨true, [], [(4, ⟨[0, 1, 5], [], []⟩)]⟩
def h77 : Hints := ⟨true, [], [(4, ⟨[0, 1, 5], [], []⟩)]⟩
def h78 : Hints := ⟨true, [], []⟩
def h79 : Hints := ⟨true, [], []⟩
def h80 : Hints := ⟨true, [], []⟩
def h93 : Hints := ⟨true, [], []⟩
def h94 : Hints := ⟨true, [], []⟩
def h95 : Hints := ⟨true, [], []⟩
def h96 : Hints := ⟨true, [], []⟩
def h97 : Hints := ⟨true, [], []⟩
def h98 : Hints := ⟨true, [], []⟩
def h99 : Hints := ⟨true, [], [(4, ⟨[2, 3, 5], [64, 96], []⟩)]⟩
def h100 : Hints := ⟨true, [], [(4, ⟨[0, 1, 5], [], []⟩)]⟩
def h101 : Hints := ⟨true, [], []⟩
def h102 : Hints := ⟨true, [], []⟩
def h103 : Hints := ⟨true, [], []⟩
def h104 : Hints := ⟨true, [], [(4, ⟨[1, 2, 15, 16, 17], [], []⟩)]⟩
def h105 : Hints := ⟨true, [], []⟩
def h106 : Hints := ⟨true, [], [(4, ⟨[0, 1, 12, 13], [], []⟩)]⟩
def h107 : Hints := ⟨true, [], []⟩
def h108 : Hints := ⟨true, [], []⟩
def h109 : Hints := ⟨true, [], []⟩
def h110 : Hints := ⟨true, [], [(4, ⟨[0, 1, 12, 13], [], []⟩)]⟩
def h111 : Hints := ⟨true, [], [(4, ⟨[0, 1, 12, 13], [], []⟩)]⟩
def h112 : Hints := ⟨true, [], []⟩
def h113 : Hints := ⟨true, [], []⟩
def h114 : Hints := ⟨true, [], []⟩
def h115 : Hints := ⟨true, [], []⟩
def h120 : Hints := ⟨true, [], []⟩
def h121 : Hints := ⟨true, [], []⟩
def h122 : Hints := ⟨true, [], []⟩
def h123 : Hints := ⟨true, [], [(5, ⟨[0, 1, 5], [], []⟩)]⟩
def h124 : Hints := ⟨true, [], []⟩
def h125 : Hints := ⟨true, [], []⟩
def h126 : Hints := ⟨true, [], []⟩
def h127 : Hints := ⟨true, [], []⟩
def h128 : Hints := ⟨true, [], []⟩
def h129 : Hints := ⟨true, [], [(3, ⟨[0, 3, 4], [224], []⟩)]⟩
def h130 : Hints := ⟨true, [], [(3, ⟨[0, 3, 4], [224], []⟩)]⟩
def h131 : Hints := ⟨true, [], [(3, ⟨[0, 3, 4], [224], []⟩)]⟩
def h132 : Hints := ⟨true, [], [(3, ⟨[0, 3, 4], [224], []⟩)]⟩
def h133 : Hints := ⟨true, [], [(3, ⟨[0, 3, 4], [224], []⟩)]⟩
def h134 : Hints := ⟨true, [], [(4, ⟨[0, 1, 12, 13], [], []⟩)]⟩
def h135 : Hints := ⟨true, [], [(4, ⟨[0, 1, 12, 13], [], []⟩)]⟩
def h136 : Hints := ⟨true, [], [(4, ⟨[1, 2, 15, 16, 17], [], []⟩)]⟩
def h137 : Hints := ⟨true, [], []⟩
def h138 : Hints := ⟨true, [], []⟩
def h139 : Hints := ⟨true, [], [(4, ⟨[0, 1, 5], [], []⟩)]⟩
def h140 : Hints := ⟨true, [], [(4, ⟨[0, 1, 5], [], []⟩)]⟩
def h141 : Hints := ⟨true, [], [(4, ⟨[0, 1, 5], [], []⟩)]⟩
def h142 : Hints := ⟨true, [], [(4, ⟨[0, 1, 5], [], []⟩)]⟩
def h143 : Hints := ⟨true, [], [(4, ⟨[0, 1, 5], [], []⟩)]⟩
def h147 : Hints := ⟨true, [], [(5, ⟨[0, 1, 5], [], []⟩)]⟩
def h148 : Hints := ⟨true, [], [(3, ⟨[0, 3, 4], [224], []⟩)]⟩
def h149 : Hints := ⟨true, [], []⟩
def h150 : Hints := ⟨true, [], []⟩
def h151 : Hints := ⟨true, [], [(4, ⟨[0, 1, 5], [], []⟩)]⟩
def h152 : Hints := ⟨true, [], []⟩
def h153 : Hints := ⟨true, [], []⟩
noncomputable def fnTab : List (Nat × Func) := [(6, Try.f6), (7, Try.f7), (10, Try.f10), (13, Try.f13), (25, Try.f25), (26, Try.f26), (27, Try.f27), (30, Try.f30), (31, Try.f31), (32, Try.f32), (33, Try.f33), (34, Try.f34), (35, Try.f35), (37, Try.f37), (39, Try.f39), (57, Try.f57), (58, Try.f58), (59, Try.f59), (61, Try.f61), (62, Try.f62), (63, Try.f63), (64, Try.f64), (65, Try.f65), (66, Try.f66), (67, Try.f67), (68, Try.f68), (69, Try.f69), (70, Try.f70), (71, Try.f71), (72, Try.f72), (73, Try.f73), (74, Try.f74), (75, Try.f75), (76, Try.f76), (77, Try.f77), (78, Try.f78), (79, Try.f79), (80, Try.f80), (93, Try.f93), (94, Try.f94), (95, Try.f95), (96, Try.f96), (97, Try.f97), (98, Try.f98), (99, Try.f99), (100, Try.f100), (101, Try.f101), (102, Try.f102), (103, Try.f103), (104, Try.f104), (105, Try.f105), (106, Try.f106), (107, Try.f107), (108, Try.f108), (109, Try.f109), (110, Try.f110), (111, Try.f111), (112, Try.f112), (113, Try.f113), (114, Try.f114), (115, Try.f115), (120, Try.f120), (121, Try.f121), (122, Try.f122), (123, Try.f123), (124, Try.f124), (125, Try.f125), (126, Try.f126), (127, Try.f127), (128, Try.f128), (129, Try.f129), (130, Try.f130), (131, Try.f131), (132, Try.f132), (133, Try.f133), (134, Try.f134), (135, Try.f135), (136, Try.f136), (137, Try.f137), (138, Try.f138), (139, Try.f139), (140, Try.f140), (141, Try.f141), (142, Try.f142), (143, Try.f143), (147, Try.f147), (148, Try.f148), (149, Try.f149), (150, Try.f150), (151, Try.f151), (152, Try.f152), (153, Try.f153)]
noncomputable def htab : List (Nat × List (Nat × Norm)) := [(6, h6.loops), (7, h7.loops), (10, h10.loops), (13, h13.loops), (25, h25.loops), (26, h26.loops), (27, h27.loops), (30, h30.loops), (31, h31.loops), (32, h32.loops), (33, h33.loops), (34, h34.loops), (35, h35.loops), (37, h37.loops), (39, h39.loops), (57, h57.loops), (58, h58.loops), (59, h59.loops), (61, h61.loops), (62, h62.loops), (63, h63.loops), (64, h64.loops), (65, h65.loops), (66, h66.loops), (67, h67.loops), (68, h68.loops), (69, h69.loops), (70, h70.loops), (71, h71.loops), (72, h72.loops), (73, h73.loops), (74, h74.loops), (75, h75.loops), (76, h76.loops), (77, h77.loops), (78, h78.loops), (79, h79.loops), (80, h80.loops), (93, h93.loops), (94, h94.loops), (95, h95.loops), (96, h96.loops), (97, h97.loops), (98, h98.loops), (99, h99.loops), (100, h100.loops), (101, h101.loops), (102, h102.loops), (103, h103.loops), (104, h104.loops), (105, h105.loops), (106, h106.loops), (107, h107.loops), (108, h108.loops), (109, h109.loops), (110, h110.loops), (111, h111.loops), (112, h112.loops), (113, h113.loops), (114, h114.loops), (115, h115.loops), (120, h120.loops), (121, h121.loops), (122, h122.loops), (123, h123.loops), (124, h124.loops), (125, h125.loops), (126, h126.loops), (127, h127.loops), (128, h128.loops), (129, h129.loops), (130, h130.loops), (131, h131.loops), (132, h132.loops), (133, h133.loops), (134, h134.loops), (135, h135.loops), (136, h136.loops), (137, h137.loops), (138, h138.loops), (139, h139.loops), (140, h140.loops), (141, h141.loops), (142, h142.loops), (143, h143.loops), (147, h147.loops), (148, h148.loops), (149, h149.loops), (150, h150.loops), (151, h151.loops), (152, h152.loops), (153, h153.loops)]
def ownTab : List (Nat × (List Abs.Arg → Option Out)) := []
noncomputable def p : Prg := { ti := ti, fn := fun g => look? g fnTab, hint := fun g => ⟨true, [], (look? g htab).getD []⟩, own := fun g => look? g ownTab }
theorem rts_eq : p.rts = rts := by
  funext g
  unfold Prg.rts rts p
  rw [look_map]; rfl
theorem ran_of {g : Nat} {fn : Func} {nt : Nat} {h : Hints} {lvl : Nat} {xs : List Abs.Arg} {out : Out} (ho : p.own g = none) (hf : p.fn g = some fn) (hn : fn.ntmps = nt) (hh : p.hint g = h)
    (H : ∀ n, lvl ≤ n → Ev (fun fuel => frun (E1 (arun p n) nt h) rts fuel fn xs) out) : Ran p (lvl + 1) g xs out := by
  subst hn; subst hh
  refine Ran.of ho hf fun n hl => ?_
  rw [rts_eq]
  exact (H n hl).get
theorem fn6 : p.fn 6 = some Try.f6 := by kernel_rfl
theorem nt6 : Try.f6.ntmps = 45 := by kernel_rfl
theorem hh6 : p.hint 6 = h6 := by kernel_rfl
theorem fn7 : p.fn 7 = some Try.f7 := by kernel_rfl
theorem nt7 : Try.f7.ntmps = 27 := by kernel_rfl
theorem hh7 : p.hint 7 = h7 := by kernel_rfl
theorem fn10 : p.fn 10 = some Try.f10 := by kernel_rfl
theorem nt10 : Try.f10.ntmps = 23 := by kernel_rfl
theorem hh10 : p.hint 10 = h10 := by kernel_rfl
theorem fn13 : p.fn 13 = some Try.f13 := by kernel_rfl
theorem nt13 : Try.f13.ntmps = 27 := by kernel_rfl
theorem hh13 : p.hint 13 = h13 := by kernel_rfl
theorem fn25 : p.fn 25 = some Try.f25 := by kernel_rfl
theorem nt25 : Try.f25.ntmps = 18 := by kernel_rfl
theorem hh25 : p.hint 25 = h25 := by kernel_rfl
theorem fn26 : p.fn 26 = some Try.f26 := by kernel_rfl
theorem nt26 : Try.f26.ntmps = 13 := by kernel_rfl
theorem hh26 : p.hint 26 = h26 := by kernel_rfl
theorem fn27 : p.fn 27 = some Try.f27 := by kernel_rfl
theorem nt27 : Try.f27.ntmps = 17 := by kernel_rfl
theorem hh27 : p.hint 27 = h27 := by kernel_rfl
theorem fn30 : p.fn 30 = some Try.f30 := by kernel_rfl
theorem nt30 : Try.f30.ntmps = 24 := by kernel_rfl
theorem hh30 : p.hint 30 = h30 := by kernel_rfl
theorem fn31 : p.fn 31 = some Try.f31 := by kernel_rfl
theorem nt31 : Try.f31.ntmps = 140 := by kernel_rfl
theorem hh31 : p.hint 31 = h31 := by kernel_rfl
theorem fn32 : p.fn 32 = some Try.f32 := by kernel_rfl
theorem nt32 : Try.f32.ntmps = 17 := by kernel_rfl
theorem hh32 : p.hint 32 = h32 := by kernel_rfl
theorem fn33 : p.fn 33 = some Try.f33 := by kernel_rfl
theorem nt33 : Try.f33.ntmps = 24 := by kernel_rfl
theorem hh33 : p.hint 33 = h33 := by kernel_rfl
theorem fn34 : p.fn 34 = some Try.f34 := by kernel_rfl
theorem nt34 : Try.f34.ntmps = 23 := by kernel_rfl
theorem hh34 : p.hint 34 = h34 := by kernel_rfl
theorem fn35 : p.fn 35 = some Try.f35 := by kernel_rfl
theorem nt35 : Try.f35.ntmps = 12 := by kernel_rfl
theorem hh35 : p.hint 35 = h35 := by kernel_rfl
theorem fn37 : p.fn 37 = some Try.f37 := by kernel_rfl
theorem nt37 : Try.f37.ntmps = 12 := by kernel_rfl
theorem hh37 : p.hint 37 = h37 := by kernel_rfl
theorem fn39 : p.fn 39 = some Try.f39 := by kernel_rfl
theorem nt39 : Try.f39.ntmps = 16 := by kernel_rfl
theorem hh39 : p.hint 39 = h39 := by kernel_rfl
theorem fn57 : p.fn 57 = some Try.f57 := by kernel_rfl
theorem nt57 : Try.f57.ntmps = 12 := by kernel_rfl
theorem hh57 : p.hint 57 = h57 := by kernel_rfl
theorem fn58 : p.fn 58 = some Try.f58 := by kernel_rfl
theorem nt58 : Try.f58.ntmps = 23 := by kernel_rfl
theorem hh58 : p.hint 58 = h58 := by kernel_rfl
theorem fn59 : p.fn 59 = some Try.f59 := by kernel_rfl
theorem nt59 : Try.f59.ntmps = 27 := by kernel_rfl
theorem hh59 : p.hint 59 = h59 := by kernel_rfl
theorem fn61 : p.fn 61 = some Try.f61 := by kernel_rfl
theorem nt61 : Try.f61.ntmps = 27 := by kernel_rfl
theorem hh61 : p.hint 61 = h61 := by kernel_rfl
theorem fn62 : p.fn 62 = some Try.f62 := by kernel_rfl
theorem nt62 : Try.f62.ntmps = 27 := by kernel_rfl
theorem hh62 : p.hint 62 = h62 := by kernel_rfl
theorem fn63 : p.fn 63 = some Try.f63 := by kernel_rfl
theorem nt63 : Try.f63.ntmps = 27 := by kernel_rfl
theorem hh63 : p.hint 63 = h63 := by kernel_rfl
theorem fn64 : p.fn 64 = some Try.f64 := by kernel_rfl
theorem nt64 : Try.f64.ntmps = 175 := by kernel_rfl
theorem hh64 : p.hint 64 = h64 := by kernel_rfl
theorem fn65 : p.fn 65 = some Try.f65 := by kernel_rfl
theorem nt65 : Try.f65.ntmps = 59 := by kernel_rfl
theorem hh65 : p.hint 65 = h65 := by kernel_rfl
theorem fn66 : p.fn 66 = some Try.f66 := by kernel_rfl
theorem nt66 : Try.f66.ntmps = 23 := by kernel_rfl
theorem hh66 : p.hint 66 = h66 := by kernel_rfl
theorem fn67 : p.fn 67 = some Try.f67 := by kernel_rfl
theorem nt67 : Try.f67.ntmps = 23 := by kernel_rfl
theorem hh67 : p.hint 67 = h67 := by kernel_rfl
theorem fn68 : p.fn 68 = some Try.f68 := by kernel_rfl
theorem nt68 : Try.f68.ntmps = 23 := by kernel_rfl
theorem hh68 : p.hint 68 = h68 := by kernel_rfl
theorem fn69 : p.fn 69 = some Try.f69 := by kernel_rfl
theorem nt69 : Try.f69.ntmps = 32 := by kernel_rfl
theorem hh69 : p.hint 69 = h69 := by kernel_rfl
theorem fn70 : p.fn 70 = some Try.f70 := by kernel_rfl
theorem nt70 : Try.f70.ntmps = 108 := by kernel_rfl
theorem hh70 : p.hint 70 = h70 := by kernel_rfl
theorem fn71 : p.fn 71 = some Try.f71 := by kernel_rfl
theorem nt71 : Try.f71.ntmps = 32 := by kernel_rfl
theorem hh71 : p.hint 71 = h71 := by kernel_rfl
theorem fn72 : p.fn 72 = some Try.f72 := by kernel_rfl
theorem nt72 : Try.f72.ntmps = 24 := by kernel_rfl
theorem hh72 : p.hint 72 = h72 := by kernel_rfl
theorem fn73 : p.fn 73 = some Try.f73 := by kernel_rfl
theorem nt73 : Try.f73.ntmps = 32 := by kernel_rfl
theorem hh73 : p.hint 73 = h73 := by kernel_rfl
theorem fn74 : p.fn 74 = some Try.f74 := by kernel_rfl
theorem nt74 : Try.f74.ntmps = 17 := by kernel_rfl
theorem hh74 : p.hint 74 = h74 := by kernel_rfl
theorem fn75 : p.fn 75 = some Try.f75 := by kernel_rfl
theorem nt75 : Try.f75.ntmps = 27 := by kernel_rfl
theorem hh75 : p.hint 75 = h75 := by kernel_rfl
theorem fn76 : p.fn 76 = some Try.f76 := by kernel_rfl
theorem nt76 : Try.f76.ntmps = 27 := by kernel_rfl
theorem hh76 : p.hint 76 = h76 := by kernel_rfl
theorem fn77 : p.fn 77 = some Try.f77 := by kernel_rfl
theorem nt77 : Try.f77.ntmps = 27 := by kernel_rfl
theorem hh77 : p.hint 77 = h77 := by kernel_rfl
theorem fn78 : p.fn 78 = some Try.f78 := by kernel_rfl
theorem nt78 : Try.f78.ntmps = 13 := by kernel_rfl
theorem hh78 : p.hint 78 = h78 := by kernel_rfl
theorem fn79 : p.fn 79 = some Try.f79 := by kernel_rfl
theorem nt79 : Try.f79.ntmps = 20 := by kernel_rfl
theorem hh79 : p.hint 79 = h79 := by kernel_rfl
theorem fn80 : p.fn 80 = some Try.f80 := by kernel_rfl
theorem nt80 : Try.f80.ntmps = 30 := by kernel_rfl
theorem hh80 : p.hint 80 = h80 := by kernel_rfl
theorem fn93 : p.fn 93 = some Try.f93 := by kernel_rfl
theorem nt93 : Try.f93.ntmps = 11 := by kernel_rfl
theorem hh93 : p.hint 93 = h93 := by kernel_rfl
theorem fn94 : p.fn 94 = some Try.f94 := by kernel_rfl
theorem nt94 : Try.f94.ntmps = 15 := by kernel_rfl
theorem hh94 : p.hint 94 = h94 := by kernel_rfl
theorem fn95 : p.fn 95 = some Try.f95 := by kernel_rfl
theorem nt95 : Try.f95.ntmps = 54 := by kernel_rfl
theorem hh95 : p.hint 95 = h95 := by kernel_rfl
theorem fn96 : p.fn 96 = some Try.f96 := by kernel_rfl
theorem nt96 : Try.f96.ntmps = 12 := by kernel_rfl
theorem hh96 : p.hint 96 = h96 := by kernel_rfl
theorem fn97 : p.fn 97 = some Try.f97 := by kernel_rfl
theorem nt97 : Try.f97.ntmps = 12 := by kernel_rfl
theorem hh97 : p.hint 97 = h97 := by kernel_rfl
theorem fn98 : p.fn 98 = some Try.f98 := by kernel_rfl
theorem nt98 : Try.f98.ntmps = 17 := by kernel_rfl
theorem hh98 : p.hint 98 = h98 := by kernel_rfl
theorem fn99 : p.fn 99 = some Try.f99 := by kernel_rfl
theorem nt99 : Try.f99.ntmps = 46 := by kernel_rfl
theorem hh99 : p.hint 99 = h99 := by kernel_rfl
theorem fn100 : p.fn 100 = some Try.f100 := by kernel_rfl
theorem nt100 : Try.f100.ntmps = 26 := by kernel_rfl
theorem hh100 : p.hint 100 = h100 := by kernel_rfl
theorem fn101 : p.fn 101 = some Try.f101 := by kernel_rfl
theorem nt101 : Try.f101.ntmps = 58 := by kernel_rfl
theorem hh101 : p.hint 101 = h101 := by kernel_rfl
theorem fn102 : p.fn 102 = some Try.f102 := by kernel_rfl
theorem nt102 : Try.f102.ntmps = 15 := by kernel_rfl
theorem hh102 : p.hint 102 = h102 := by kernel_rfl
theorem fn103 : p.fn 103 = some Try.f103 := by kernel_rfl
theorem nt103 : Try.f103.ntmps = 12 := by kernel_rfl
theorem hh103 : p.hint 103 = h103 := by kernel_rfl
theorem fn104 : p.fn 104 = some Try.f104 := by kernel_rfl
theorem nt104 : Try.f104.ntmps = 32 := by kernel_rfl
theorem hh104 : p.hint 104 = h104 := by kernel_rfl
theorem fn105 : p.fn 105 = some Try.f105 := by kernel_rfl
theorem nt105 : Try.f105.ntmps = 8 := by kernel_rfl
theorem hh105 : p.hint 105 = h105 := by kernel_rfl
theorem fn106 : p.fn 106 = some Try.f106 := by kernel_rfl
theorem nt106 : Try.f106.ntmps = 26 := by kernel_rfl
theorem hh106 : p.hint 106 = h106 := by kernel_rfl
theorem fn107 : p.fn 107 = some Try.f107 := by kernel_rfl
theorem nt107 : Try.f107.ntmps = 17 := by kernel_rfl
theorem hh107 : p.hint 107 = h107 := by kernel_rfl
theorem fn108 : p.fn 108 = some Try.f108 := by kernel_rfl
theorem nt108 : Try.f108.ntmps = 17 := by kernel_rfl
theorem hh108 : p.hint 108 = h108 := by kernel_rfl
theorem fn109 : p.fn 109 = some Try.f109 := by kernel_rfl
theorem nt109 : Try.f109.ntmps = 24 := by kernel_rfl
theorem hh109 : p.hint 109 = h109 := by kernel_rfl
theorem fn110 : p.fn 110 = some Try.f110 := by kernel_rfl
theorem nt110 : Try.f110.ntmps = 26 := by kernel_rfl
theorem hh110 : p.hint 110 = h110 := by kernel_rfl
theorem fn111 : p.fn 111 = some Try.f111 := by kernel_rfl
theorem nt111 : Try.f111.ntmps = 26 := by kernel_rfl
theorem hh111 : p.hint 111 = h111 := by kernel_rfl
theorem fn112 : p.fn 112 = some Try.f112 := by kernel_rfl
theorem nt112 : Try.f112.ntmps = 10 := by kernel_rfl
theorem hh112 : p.hint 112 = h112 := by kernel_rfl
theorem fn113 : p.fn 113 = some Try.f113 := by kernel_rfl
theorem nt113 : Try.f113.ntmps = 88 := by kernel_rfl
theorem hh113 : p.hint 113 = h113 := by kernel_rfl
theorem fn114 : p.fn 114 = some Try.f114 := by kernel_rfl
theorem nt114 : Try.f114.ntmps = 21 := by kernel_rfl
theorem hh114 : p.hint 114 = h114 := by kernel_rfl
theorem fn115 : p.fn 115 = some Try.f115 := by kernel_rfl
theorem nt115 : Try.f115.ntmps = 16 := by kernel_rfl
theorem hh115 : p.hint 115 = h115 := by kernel_rfl
theorem fn120 : p.fn 120 = some Try.f120 := by kernel_rfl
theorem nt120 : Try.f120.ntmps = 12 := by kernel_rfl
theorem hh120 : p.hint 120 = h120 := by kernel_rfl
theorem fn121 : p.fn 121 = some Try.f121 := by kernel_rfl
theorem nt121 : Try.f121.ntmps = 12 := by kernel_rfl
theorem hh121 : p.hint 121 = h121 := by kernel_rfl
theorem fn122 : p.fn 122 = some Try.f122 := by kernel_rfl
theorem nt122 : Try.f122.ntmps = 12 := by kernel_rfl
theorem hh122 : p.hint 122 = h122 := by kernel_rfl
theorem fn123 : p.fn 123 = some Try.f123 := by kernel_rfl
theorem nt123 : Try.f123.ntmps = 27 := by kernel_rfl
theorem hh123 : p.hint 123 = h123 := by kernel_rfl
theorem fn124 : p.fn 124 = some Try.f124 := by kernel_rfl
theorem nt124 : Try.f124.ntmps = 12 := by kernel_rfl
theorem hh124 : p.hint 124 = h124 := by kernel_rfl
theorem fn125 : p.fn 125 = some Try.f125 := by kernel_rfl
theorem nt125 : Try.f125.ntmps = 12 := by kernel_rfl
theorem hh125 : p.hint 125 = h125 := by kernel_rfl
theorem fn126 : p.fn 126 = some Try.f126 := by kernel_rfl
theorem nt126 : Try.f126.ntmps = 12 := by kernel_rfl
theorem hh126 : p.hint 126 = h126 := by kernel_rfl
theorem fn127 : p.fn 127 = some Try.f127 := by kernel_rfl
theorem nt127 : Try.f127.ntmps = 12 := by kernel_rfl
theorem hh127 : p.hint 127 = h127 := by kernel_rfl
theorem fn128 : p.fn 128 = some Try.f128 := by kernel_rfl
theorem nt128 : Try.f128.ntmps = 15 := by kernel_rfl
theorem hh128 : p.hint 128 = h128 := by kernel_rfl
theorem fn129 : p.fn 129 = some Try.f129 := by kernel_rfl
theorem nt129 : Try.f129.ntmps = 22 := by kernel_rfl
theorem hh129 : p.hint 129 = h129 := by kernel_rfl
theorem fn130 : p.fn 130 = some Try.f130 := by kernel_rfl
theorem nt130 : Try.f130.ntmps = 23 := by kernel_rfl
theorem hh130 : p.hint 130 = h130 := by kernel_rfl
theorem fn131 : p.fn 131 = some Try.f131 := by kernel_rfl
theorem nt131 : Try.f131.ntmps = 23 := by kernel_rfl
theorem hh131 : p.hint 131 = h131 := by kernel_rfl
theorem fn132 : p.fn 132 = some Try.f132 := by kernel_rfl
theorem nt132 : Try.f132.ntmps = 23 := by kernel_rfl
theorem hh132 : p.hint 132 = h132 := by kernel_rfl
theorem fn133 : p.fn 133 = some Try.f133 := by kernel_rfl
theorem nt133 : Try.f133.ntmps = 22 := by kernel_rfl
theorem hh133 : p.hint 133 = h133 := by kernel_rfl
theorem fn134 : p.fn 134 = some Try.f134 := by kernel_rfl
theorem nt134 : Try.f134.ntmps = 26 := by kernel_rfl
theorem hh134 : p.hint 134 = h134 := by kernel_rfl
theorem fn135 : p.fn 135 = some Try.f135 := by kernel_rfl
theorem nt135 : Try.f135.ntmps = 26 := by kernel_rfl
theorem hh135 : p.hint 135 = h135 := by kernel_rfl
theorem fn136 : p.fn 136 = some Try.f136 := by kernel_rfl
theorem nt136 : Try.f136.ntmps = 32 := by kernel_rfl
theorem hh136 : p.hint 136 = h136 := by kernel_rfl
theorem fn137 : p.fn 137 = some Try.f137 := by kernel_rfl
theorem nt137 : Try.f137.ntmps = 16 := by kernel_rfl
theorem hh137 : p.hint 137 = h137 := by kernel_rfl
theorem fn138 : p.fn 138 = some Try.f138 := by kernel_rfl
theorem nt138 : Try.f138.ntmps = 21 := by kernel_rfl
theorem hh138 : p.hint 138 = h138 := by kernel_rfl
theorem fn139 : p.fn 139 = some Try.f139 := by kernel_rfl
theorem nt139 : Try.f139.ntmps = 26 := by kernel_rfl
theorem hh139 : p.hint 139 = h139 := by kernel_rfl
theorem fn140 : p.fn 140 = some Try.f140 := by kernel_rfl
theorem nt140 : Try.f140.ntmps = 27 := by kernel_rfl
theorem hh140 : p.hint 140 = h140 := by kernel_rfl
theorem fn141 : p.fn 141 = some Try.f141 := by kernel_rfl
theorem nt141 : Try.f141.ntmps = 27 := by kernel_rfl
theorem hh141 : p.hint 141 = h141 := by kernel_rfl
theorem fn142 : p.fn 142 = some Try.f142 := by kernel_rfl
theorem nt142 : Try.f142.ntmps = 27 := by kernel_rfl
theorem hh142 : p.hint 142 = h142 := by kernel_rfl
theorem fn143 : p.fn 143 = some Try.f143 := by kernel_rfl
theorem nt143 : Try.f143.ntmps = 26 := by kernel_rfl
theorem hh143 : p.hint 143 = h143 := by kernel_rfl
theorem fn147 : p.fn 147 = some Try.f147 := by kernel_rfl
theorem nt147 : Try.f147.ntmps = 27 := by kernel_rfl
theorem hh147 : p.hint 147 = h147 := by kernel_rfl
theorem fn148 : p.fn 148 = some Try.f148 := by kernel_rfl
theorem nt148 : Try.f148.ntmps = 23 := by kernel_rfl
theorem hh148 : p.hint 148 = h148 := by kernel_rfl
theorem fn149 : p.fn 149 = some Try.f149 := by kernel_rfl
theorem nt149 : Try.f149.ntmps = 17 := by kernel_rfl
theorem hh149 : p.hint 149 = h149 := by kernel_rfl
theorem fn150 : p.fn 150 = some Try.f150 := by kernel_rfl
theorem nt150 : Try.f150.ntmps = 14 := by kernel_rfl
theorem hh150 : p.hint 150 = h150 := by kernel_rfl
theorem fn151 : p.fn 151 = some Try.f151 := by kernel_rfl
theorem nt151 : Try.f151.ntmps = 27 := by kernel_rfl
theorem hh151 : p.hint 151 = h151 := by kernel_rfl
theorem fn152 : p.fn 152 = some Try.f152 := by kernel_rfl
theorem nt152 : Try.f152.ntmps = 25 := by kernel_rfl
theorem hh152 : p.hint 152 = h152 := by kernel_rfl
theorem fn153 : p.fn 153 = some Try.f153 := by kernel_rfl
theorem nt153 : Try.f153.ntmps = 20 := by kernel_rfl
theorem hh153 : p.hint 153 = h153 := by kernel_rfl
set_option maxRecDepth 100000 in
theorem fnTab_ok : ∀ q ∈ fnTab, FnOk Try.prog q.1 q.2 := all_of (⟨⟨Try.func6, by kernel_rfl, by kernel_rfl⟩, ⟨⟨Try.func7, by kernel_rfl, by kernel_rfl⟩, ⟨⟨Try.func10, by kernel_rfl, by kernel_rfl⟩, ⟨⟨Try.func13, by kernel_rfl, by kernel_rfl⟩, ⟨⟨Try.func25, by kernel_rfl, by kernel_rfl⟩, ⟨⟨Try.func26, by kernel_rfl, by kernel_rfl⟩, ⟨⟨Try.func27, by kernel_rfl, by kernel_rfl⟩, ⟨⟨Try.func30, by kernel_rfl, by kernel_rfl⟩, ⟨⟨Try.func31, by kernel_rfl, by kernel_rfl⟩, ⟨⟨Try.func32, by kernel_rfl, by kernel_rfl⟩, ⟨⟨Try.func33, by kernel_rfl, by kernel_rfl⟩, ⟨⟨Try.func34, by kernel_rfl, by kernel_rfl⟩, ⟨⟨Try.func35, by kernel_rfl, by kernel_rfl⟩, ⟨⟨Try.func37, by kernel_rfl, by kernel_rfl⟩, ⟨⟨Try.func39, by kernel_rfl, by kernel_rfl⟩, ⟨⟨Try.func57, by kernel_rfl, by kernel_rfl⟩, ⟨⟨Try.func58, by kernel_rfl, by kernel_rfl⟩, ⟨⟨Try.func59, by kernel_rfl, by kernel_rfl⟩, ⟨⟨Try.func61, by kernel_rfl, by kernel_rfl⟩, ⟨⟨Try.func62, by kernel_rfl, by kernel_rfl⟩, ⟨⟨Try.func63, by kernel_rfl, by kernel_rfl⟩, ⟨⟨Try.func64, by kernel_rfl, by kernel_rfl⟩, ⟨⟨Try.func65, by kernel_rfl, by kernel_rfl⟩, ⟨⟨Try.func66, by kernel_rfl, by kernel_rfl⟩, ⟨⟨Try.func67, by kernel_rfl, by kernel_rfl⟩, ⟨⟨Try.func68, by kernel_rfl, by kernel_rfl⟩, ⟨⟨Try.func69, by kernel_rfl, by kernel_rfl⟩, ⟨⟨Try.func70, by kernel_rfl, by kernel_rfl⟩, ⟨⟨Try.func71, by kernel_rfl, by kernel_rfl⟩, ⟨⟨Try.func72, by kernel_rfl, by kernel_rfl⟩, ⟨⟨Try.func73, by kernel_rfl, by kernel_rfl⟩, ⟨⟨Try.func74, by kernel_rfl, by kernel_rfl⟩, ⟨⟨Try.func75, by kernel_rfl, by kernel_rfl⟩, ⟨⟨Try.func76, by kernel_rfl, by kernel_rfl⟩, ⟨⟨Try.func77, by kernel_rfl, by kernel_rfl⟩, ⟨⟨Try.func78, by kernel_rfl, by kernel_rfl⟩, ⟨⟨Try.func79, by kernel_rfl, by kernel_rfl⟩, ⟨⟨Try.func80, by kernel_rfl, by kernel_rfl⟩, ⟨⟨Try.func93, by kernel_rfl, by kernel_rfl⟩, ⟨⟨Try.func94, by kernel_rfl, by kernel_rfl⟩, ⟨⟨Try.func95, by kernel_rfl, by kernel_rfl⟩, ⟨⟨Try.func96, by kernel_rfl, by kernel_rfl⟩, ⟨⟨Try.func97, by kernel_rfl, by kernel_rfl⟩, ⟨⟨Try.func98, by kernel_rfl, by kernel_rfl⟩, ⟨⟨Try.func99, by kernel_rfl, by kernel_rfl⟩, ⟨⟨Try.func100, by kernel_rfl, by kernel_rfl⟩, ⟨⟨Try.func101, by kernel_rfl, by kernel_rfl⟩, ⟨⟨Try.func102, by kernel_rfl, by kernel_rfl⟩, ⟨⟨Try.func103, by kernel_rfl, by kernel_rfl⟩, ⟨⟨Try.func104, by kernel_rfl, by kernel_rfl⟩, ⟨⟨Try.func105, by kernel_rfl, by kernel_rfl⟩, ⟨⟨Try.func106, by kernel_rfl, by kernel_rfl⟩, ⟨⟨Try.func107, by kernel_rfl, by kernel_rfl⟩, ⟨⟨Try.func108, by kernel_rfl, by kernel_rfl⟩, ⟨⟨Try.func109, by kernel_rfl, by kernel_rfl⟩, ⟨⟨Try.func110, by kernel_rfl, by kernel_rfl⟩, ⟨⟨Try.func111, by kernel_rfl, by kernel_rfl⟩, ⟨⟨Try.func112, by kernel_rfl, by kernel_rfl⟩, ⟨⟨Try.func113, by kernel_rfl, by kernel_rfl⟩, ⟨⟨Try.func114, by kernel_rfl, by kernel_rfl⟩, ⟨⟨Try.func115, by kernel_rfl, by kernel_rfl⟩, ⟨⟨Try.func120, by kernel_rfl, by kernel_rfl⟩, ⟨⟨Try.func121, by kernel_rfl, by kernel_rfl⟩, ⟨⟨Try.func122, by kernel_rfl, by kernel_rfl⟩, ⟨⟨Try.func123, by kernel_rfl, by kernel_rfl⟩, ⟨⟨Try.func124, by kernel_rfl, by kernel_rfl⟩, ⟨⟨Try.func125, by kernel_rfl, by kernel_rfl⟩, ⟨⟨Try.func126, by kernel_rfl, by kernel_rfl⟩, ⟨⟨Try.func127, by kernel_rfl, by kernel_rfl⟩, ⟨⟨Try.func128, by kernel_rfl, by kernel_rfl⟩, ⟨⟨Try.func129, by kernel_rfl, by kernel_rfl⟩, ⟨⟨Try.func130, by kernel_rfl, by kernel_rfl⟩, ⟨⟨Try.func131, by kernel_rfl, by kernel_rfl⟩, ⟨⟨Try.func132, by kernel_rfl, by kernel_rfl⟩, ⟨⟨Try.func133, by kernel_rfl, by kernel_rfl⟩, ⟨⟨Try.func134, by kernel_rfl, by kernel_rfl⟩, ⟨⟨Try.func135, by kernel_rfl, by kernel_rfl⟩, ⟨⟨Try.func136, by kernel_rfl, by kernel_rfl⟩, ⟨⟨Try.func137, by kernel_rfl, by kernel_rfl⟩, ⟨⟨Try.func138, by kernel_rfl, by kernel_rfl⟩, ⟨⟨Try.func139, by kernel_rfl, by kernel_rfl⟩, ⟨⟨Try.func140, by kernel_rfl, by kernel_rfl⟩, ⟨⟨Try.func141, by kernel_rfl, by kernel_rfl⟩, ⟨⟨Try.func142, by kernel_rfl, by kernel_rfl⟩, ⟨⟨Try.func143, by kernel_rfl, by kernel_rfl⟩, ⟨⟨Try.func147, by kernel_rfl, by kernel_rfl⟩, ⟨⟨Try.func148, by kernel_rfl, by kernel_rfl⟩, ⟨⟨Try.func149, by kernel_rfl, by kernel_rfl⟩, ⟨⟨Try.func150, by kernel_rfl, by kernel_rfl⟩, ⟨⟨Try.func151, by kernel_rfl, by kernel_rfl⟩, ⟨⟨Try.func152, by kernel_rfl, by kernel_rfl⟩, ⟨⟨Try.func153, by kernel_rfl, by kernel_rfl⟩, trivial⟩⟩⟩⟩⟩⟩⟩⟩⟩⟩⟩⟩⟩⟩⟩⟩⟩⟩⟩⟩⟩⟩⟩⟩⟩⟩⟩⟩⟩⟩⟩⟩⟩⟩⟩⟩⟩⟩⟩⟩⟩⟩⟩⟩⟩⟩⟩⟩⟩⟩⟩⟩⟩⟩⟩⟩⟩⟩⟩⟩⟩⟩⟩⟩⟩⟩⟩⟩⟩⟩⟩⟩⟩⟩⟩⟩⟩⟩⟩⟩⟩⟩⟩⟩⟩⟩⟩⟩⟩⟩⟩⟩)
theorem prg_ok : PrgOk Try.prog p where
  ti := tabB_ok (by kernel_rfl)
  depth := Nat.le_of_ble_eq_true (by kernel_rfl)
  mixed := by kernel_rfl
  fn := fun g fn h => (fnTab_ok _ (look_mem fnTab h)).out
  own := fun g F h => by cases h
theorem k_ok : KOk p.ti := kindsB_ok (by kernel_rfl)
end Go.Abs.Uz
