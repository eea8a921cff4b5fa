/- What the functions of this program answer, part z. -/
import Derived.Test.YtcmcnofamieegaaGreatW0
import Derived.Test.YtcmcnofamieegaaGreatProg
/- The types of the seat, as its translation has them: by a program. -/
namespace Go.Abs.Vz
def K1 : List Kd := [.fn]
def K2 : List Kd := [.int .i64]
def K3 : List Kd := [.int .i64]
def K4 : List Kd := [.bool]
def K5 : List Kd := [.int .u8]
def K6 : List Kd := [.int .u8]
def K7 : List Kd := [.int .i64, .int .i64, .bool, .int .u8]
def K8 : List Kd := [.int .i64, .int .i64, .bool, .int .u8]
def K9 : List Kd := [.str]
def K10 : List Kd := [.str]
def K11 : List Kd := [.str]
def K12 : List Kd := [.int .u64]
def K13 : List Kd := [.str, .int .u64]
def K14 : List Kd := [.str, .int .u64]
def K21 : List Kd := [.int .i32]
def K130 : List Kd := [.int .i64, .int .i64, .int .i64, .int .i64, .str]
def K132 : List Kd := [.int .i64, .int .i64, .int .i64, .int .i64, .int .i64, .str]
def K39 : List Kd := [.sl K132]
def K137 : List Kd := [.int .i64, .int .i64]
def K40 : List Kd := [.sl K137]
def K42 : List Kd := [.sl K132, .sl K137]
def K60 : List Kd := [.sl K3]
def K98 : List Kd := [.sl K3, .int .i64]
def K99 : List Kd := [.sl K42]
def K101 : List Kd := [.int .i64, .int .i64, .sl K42]
def K66 : List Kd := [.sl K60]
def K177 : List Kd := [.int .i64, .int .i64, .bool, .int .i64]
def K102 : List Kd := [.sl K177]
def K179 : List Kd := [.int .i64, .int .i64, .int .i64]
def K103 : List Kd := [.sl K179]
def K105 : List Kd := [.int .i64, .int .i64, .sl K132, .sl K137, .sl K3, .int .i64, .int .i64, .int .i64, .sl K42, .sl K3, .sl K3, .sl K60, .int .i64, .int .i64, .sl K177, .int .i64, .int .i64, .int .i64, .sl K179]
def K22 : List Kd := [.sl K105]
def K107 : List Kd := [.sl K5]
def K109 : List Kd := [.int .i64, .sl K5, .bool]
def K23 : List Kd := [.sl K109]
def K112 : List Kd := [.int .i64, .sl K132, .sl K137]
def K24 : List Kd := [.sl K112]
def K25 : List Kd := [.sl K105, .sl K109, .sl K112]
def K26 : List Kd := [.sl K105, .sl K109, .sl K112]
def K27 : List Kd := [.fn]
def K28 : List Kd := [.fn]
def K57 : List Kd := [.int .i64, .int .i64, .int .i64, .int .i64, .str]
def K95 : List Kd := [.int .i64, .int .i64, .int .i64, .int .i64, .int .i64, .str]
def K45 : List Kd := [.sl K95]
def K80 : List Kd := [.int .i64, .int .i64]
def K46 : List Kd := [.sl K80]
def K48 : List Kd := [.sl K95, .sl K80]
def K62 : List Kd := [.sl K3, .int .i64]
def K63 : List Kd := [.sl K48]
def K65 : List Kd := [.int .i64, .int .i64, .sl K48]
def K174 : List Kd := [.int .i64, .int .i64, .bool, .int .i64]
def K67 : List Kd := [.sl K174]
def K152 : List Kd := [.int .i64, .int .i64, .int .i64]
def K68 : List Kd := [.sl K152]
def K70 : List Kd := [.int .i64, .int .i64, .sl K95, .sl K80, .sl K3, .int .i64, .int .i64, .int .i64, .sl K48, .sl K3, .sl K3, .sl K60, .int .i64, .int .i64, .sl K174, .int .i64, .int .i64, .int .i64, .sl K152]
def K29 : List Kd := [.sl K70]
def K115 : List Kd := [.int .i64, .sl K5, .bool]
def K30 : List Kd := [.sl K115]
def K117 : List Kd := [.int .i64, .sl K95, .sl K80]
def K31 : List Kd := [.sl K117]
def K32 : List Kd := [.sl K70, .sl K115, .sl K117]
def K33 : List Kd := [.sl K70, .sl K115, .sl K117]
def K34 : List Kd := [.fn]
def K35 : List Kd := [.fn]
def K36 : List Kd := [.fn]
def K37 : List Kd := [.fn]
def K38 : List Kd := [.fn]
def K41 : List Kd := [.sl K132, .sl K137]
def K43 : List Kd := [.fn]
def K44 : List Kd := [.fn]
def K47 : List Kd := [.sl K95, .sl K80]
def K49 : List Kd := [.fn]
def K50 : List Kd := [.fn]
def K51 : List Kd := [.fn]
def K52 : List Kd := [.fn]
def K53 : List Kd := [.fn]
def K54 : List Kd := [.fn]
def K55 : List Kd := [.fn]
def K56 : List Kd := [.int .i64, .int .i64, .int .i64, .int .i64, .str]
def K59 : List Kd := [.fn]
def K61 : List Kd := [.sl K3, .int .i64]
def K64 : List Kd := [.int .i64, .int .i64, .sl K48]
def K69 : List Kd := [.int .i64, .int .i64, .sl K95, .sl K80, .sl K3, .int .i64, .int .i64, .int .i64, .sl K48, .sl K3, .sl K3, .sl K60, .int .i64, .int .i64, .sl K174, .int .i64, .int .i64, .int .i64, .sl K152]
def K71 : List Kd := [.fn]
def K72 : List Kd := [.fn]
def K73 : List Kd := [.fn]
def K74 : List Kd := [.fn]
def K75 : List Kd := [.fn]
def K76 : List Kd := [.fn]
def K77 : List Kd := [.fn]
def K78 : List Kd := [.fn]
def K79 : List Kd := [.int .i64, .int .i64]
def K81 : List Kd := [.fn]
def K82 : List Kd := [.fn]
def K83 : List Kd := [.fn]
def K84 : List Kd := [.fn]
def K85 : List Kd := [.fn]
def K86 : List Kd := [.fn]
def K87 : List Kd := [.fn]
def K88 : List Kd := [.fn]
def K89 : List Kd := [.fn]
def K90 : List Kd := [.fn]
def K91 : List Kd := [.fn]
def K92 : List Kd := [.fn]
def K93 : List Kd := [.fn]
def K94 : List Kd := [.int .i64, .int .i64, .int .i64, .int .i64, .int .i64, .str]
def K96 : List Kd := [.fn]
def K97 : List Kd := [.fn]
def K100 : List Kd := [.int .i64, .int .i64, .sl K42]
def K104 : List Kd := [.int .i64, .int .i64, .sl K132, .sl K137, .sl K3, .int .i64, .int .i64, .int .i64, .sl K42, .sl K3, .sl K3, .sl K60, .int .i64, .int .i64, .sl K177, .int .i64, .int .i64, .int .i64, .sl K179]
def K106 : List Kd := [.fn]
def K108 : List Kd := [.int .i64, .sl K5, .bool]
def K110 : List Kd := [.fn]
def K111 : List Kd := [.int .i64, .sl K132, .sl K137]
def K113 : List Kd := [.fn]
def K114 : List Kd := [.fn]
def K116 : List Kd := [.int .i64, .sl K95, .sl K80]
def K118 : List Kd := [.fn]
def K119 : List Kd := [.fn]
def K120 : List Kd := [.fn]
def K121 : List Kd := [.fn]
def K122 : List Kd := [.fn]
def K123 : List Kd := [.fn]
def K124 : List Kd := [.fn]
def K125 : List Kd := [.fn]
def K126 : List Kd := [.fn]
def K128 : List Kd := [.fn]
def K129 : List Kd := [.fn]
def K131 : List Kd := [.int .i64, .int .i64, .int .i64, .int .i64, .int .i64, .str]
def K133 : List Kd := [.fn]
def K134 : List Kd := [.fn]
def K135 : List Kd := [.fn]
def K136 : List Kd := [.fn]
def K138 : List Kd := [.fn]
def K139 : List Kd := [.fn]
def K140 : List Kd := [.fn]
def K141 : List Kd := [.fn]
def K142 : List Kd := [.fn]
def K143 : List Kd := [.fn]
def K144 : List Kd := [.fn]
def K145 : List Kd := [.fn]
def K146 : List Kd := [.fn]
def K147 : List Kd := [.fn]
def K148 : List Kd := [.fn]
def K149 : List Kd := [.fn]
def K150 : List Kd := [.fn]
def K151 : List Kd := [.int .i64, .int .i64, .int .i64]
def K153 : List Kd := [.fn]
def K154 : List Kd := [.fn]
def K155 : List Kd := [.fn]
def K156 : List Kd := [.fn]
def K157 : List Kd := [.fn]
def K158 : List Kd := [.fn]
def K159 : List Kd := [.fn]
def K160 : List Kd := [.fn]
def K161 : List Kd := [.fn]
def K162 : List Kd := [.fn]
def K163 : List Kd := [.fn]
def K164 : List Kd := [.fn]
def K165 : List Kd := [.fn]
def K166 : List Kd := [.fn]
def K167 : List Kd := [.fn]
def K168 : List Kd := [.fn]
def K169 : List Kd := [.fn]
def K170 : List Kd := [.fn]
def K171 : List Kd := [.fn]
def K172 : List Kd := [.fn]
def K173 : List Kd := [.int .i64, .int .i64, .bool, .int .i64]
def K175 : List Kd := [.fn]
def K176 : List Kd := [.fn]
def K178 : List Kd := [.fn]
def K180 : List Kd := [.fn]
def K181 : List Kd := [.fn]
def K182 : List Kd := [.fn]
def K183 : List Kd := [.fn]
def K184 : List Kd := [.fn]
def K185 : List Kd := [.fn]
def K186 : List Kd := [.fn]
def K187 : List Kd := [.fn]
def K188 : List Kd := [.fn]
def K189 : List Kd := [.fn]
def K190 : List Kd := [.fn]
def K191 : List Kd := [.fn]
def K192 : List Kd := [.fn]
def K193 : List Kd := [.fn]
def K194 : List Kd := [.sl K107]
def K195 : List Kd := [.fn]
def K201 : List Kd := [.fn]
def K202 : List Kd := [.int .u32]
def K203 : List Kd := [.int .u8]
def K204 : List Kd := [.int .u8]
def K205 : List Kd := [.fn]
def K207 : List Kd := [.int .i32]
def K208 : List Kd := [.int .i32]
def tyTab : List (Nat × TyI) := [(1, ⟨.other, 1, 8, K1, [], 0⟩),
  (2, ⟨.int .i64, 1, 8, K2, [], 0⟩),
  (3, ⟨.int .i64, 1, 8, K3, [], 0⟩),
  (4, ⟨.bool, 1, 1, K4, [], 0⟩),
  (5, ⟨.int .u8, 1, 1, K5, [], 0⟩),
  (6, ⟨.int .u8, 1, 1, K6, [], 0⟩),
  (7, ⟨.struct, 4, 24, K7, [(0, 2), (1, 3), (2, 4), (3, 6)], 0⟩),
  (8, ⟨.struct, 4, 24, K8, [(0, 2), (1, 3), (2, 4), (3, 6)], 0⟩),
  (9, ⟨.string, 1, 16, K9, [], 0⟩),
  (10, ⟨.string, 1, 16, K10, [], 0⟩),
  (11, ⟨.string, 1, 16, K11, [], 0⟩),
  (12, ⟨.int .u64, 1, 8, K12, [], 0⟩),
  (21, ⟨.int .i32, 1, 4, K21, [], 0⟩),
  (22, ⟨.slice, 1, 24, K22, [], 105⟩),
  (23, ⟨.slice, 1, 24, K23, [], 109⟩),
  (24, ⟨.slice, 1, 24, K24, [], 112⟩),
  (25, ⟨.struct, 3, 72, K25, [(0, 22), (1, 23), (2, 24)], 0⟩),
  (26, ⟨.struct, 3, 72, K26, [(0, 22), (1, 23), (2, 24)], 0⟩),
  (27, ⟨.other, 1, 8, K27, [], 0⟩),
  (28, ⟨.other, 1, 8, K28, [], 0⟩),
  (29, ⟨.slice, 1, 24, K29, [], 70⟩),
  (30, ⟨.slice, 1, 24, K30, [], 115⟩),
  (31, ⟨.slice, 1, 24, K31, [], 117⟩),
  (32, ⟨.struct, 3, 72, K32, [(0, 29), (1, 30), (2, 31)], 0⟩),
  (33, ⟨.struct, 3, 72, K33, [(0, 29), (1, 30), (2, 31)], 0⟩),
  (34, ⟨.other, 1, 8, K34, [], 0⟩),
  (35, ⟨.other, 1, 8, K35, [], 0⟩),
  (36, ⟨.other, 1, 8, K36, [], 0⟩),
  (37, ⟨.other, 1, 8, K37, [], 0⟩),
  (38, ⟨.other, 1, 8, K38, [], 0⟩),
  (39, ⟨.slice, 1, 24, K39, [], 132⟩),
  (40, ⟨.slice, 1, 24, K40, [], 137⟩),
  (41, ⟨.struct, 2, 48, K41, [(0, 39), (1, 40)], 0⟩),
  (42, ⟨.struct, 2, 48, K42, [(0, 39), (1, 40)], 0⟩),
  (43, ⟨.other, 1, 8, K43, [], 0⟩),
  (44, ⟨.other, 1, 8, K44, [], 0⟩),
  (45, ⟨.slice, 1, 24, K45, [], 95⟩),
  (46, ⟨.slice, 1, 24, K46, [], 80⟩),
  (47, ⟨.struct, 2, 48, K47, [(0, 45), (1, 46)], 0⟩),
  (48, ⟨.struct, 2, 48, K48, [(0, 45), (1, 46)], 0⟩),
  (49, ⟨.other, 1, 8, K49, [], 0⟩),
  (50, ⟨.other, 1, 8, K50, [], 0⟩),
  (51, ⟨.other, 1, 8, K51, [], 0⟩),
  (52, ⟨.other, 1, 8, K52, [], 0⟩),
  (53, ⟨.other, 1, 8, K53, [], 0⟩),
  (54, ⟨.other, 1, 8, K54, [], 0⟩),
  (55, ⟨.other, 1, 8, K55, [], 0⟩),
  (56, ⟨.struct, 5, 48, K56, [(0, 3), (1, 3), (2, 3), (3, 3), (4, 9)], 0⟩),
  (57, ⟨.struct, 5, 48, K57, [(0, 3), (1, 3), (2, 3), (3, 3), (4, 9)], 0⟩),
  (59, ⟨.other, 1, 8, K59, [], 0⟩),
  (60, ⟨.slice, 1, 24, K60, [], 3⟩),
  (61, ⟨.struct, 2, 32, K61, [(0, 60), (1, 3)], 0⟩),
  (62, ⟨.struct, 2, 32, K62, [(0, 60), (1, 3)], 0⟩),
  (63, ⟨.slice, 1, 24, K63, [], 48⟩),
  (64, ⟨.struct, 3, 40, K64, [(0, 3), (1, 3), (2, 63)], 0⟩),
  (65, ⟨.struct, 3, 40, K65, [(0, 3), (1, 3), (2, 63)], 0⟩),
  (66, ⟨.slice, 1, 24, K66, [], 60⟩),
  (67, ⟨.slice, 1, 24, K67, [], 174⟩),
  (68, ⟨.slice, 1, 24, K68, [], 152⟩),
  (69, ⟨.struct, 19, 296, K69, [(0, 3), (1, 3), (2, 48), (4, 62), (6, 65), (9, 60), (10, 60), (11, 66), (12, 3), (13, 3), (14, 67), (15, 3), (16, 3), (17, 3), (18, 68)], 0⟩),
  (70, ⟨.struct, 19, 296, K70, [(0, 3), (1, 3), (2, 48), (4, 62), (6, 65), (9, 60), (10, 60), (11, 66), (12, 3), (13, 3), (14, 67), (15, 3), (16, 3), (17, 3), (18, 68)], 0⟩),
  (71, ⟨.other, 1, 8, K71, [], 0⟩),
  (72, ⟨.other, 1, 8, K72, [], 0⟩),
  (73, ⟨.other, 1, 8, K73, [], 0⟩),
  (74, ⟨.other, 1, 8, K74, [], 0⟩),
  (75, ⟨.other, 1, 8, K75, [], 0⟩),
  (76, ⟨.other, 1, 8, K76, [], 0⟩),
  (77, ⟨.other, 1, 8, K77, [], 0⟩),
  (78, ⟨.other, 1, 8, K78, [], 0⟩),
  (79, ⟨.struct, 2, 16, K79, [(0, 3), (1, 3)], 0⟩),
  (80, ⟨.struct, 2, 16, K80, [(0, 3), (1, 3)], 0⟩),
  (81, ⟨.other, 1, 8, K81, [], 0⟩),
  (82, ⟨.other, 1, 8, K82, [], 0⟩),
  (83, ⟨.other, 1, 8, K83, [], 0⟩),
  (84, ⟨.other, 1, 8, K84, [], 0⟩),
  (85, ⟨.other, 1, 8, K85, [], 0⟩),
  (86, ⟨.other, 1, 8, K86, [], 0⟩),
  (87, ⟨.other, 1, 8, K87, [], 0⟩),
  (88, ⟨.other, 1, 8, K88, [], 0⟩),
  (89, ⟨.other, 1, 8, K89, [], 0⟩),
  (90, ⟨.other, 1, 8, K90, [], 0⟩),
  (91, ⟨.other, 1, 8, K91, [], 0⟩),
  (92, ⟨.other, 1, 8, K92, [], 0⟩),
  (93, ⟨.other, 1, 8, K93, [], 0⟩),
  (94, ⟨.struct, 6, 56, K94, [(0, 3), (1, 57)], 0⟩),
  (95, ⟨.struct, 6, 56, K95, [(0, 3), (1, 57)], 0⟩),
  (96, ⟨.other, 1, 8, K96, [], 0⟩),
  (97, ⟨.other, 1, 8, K97, [], 0⟩),
  (98, ⟨.struct, 2, 32, K98, [(0, 60), (1, 3)], 0⟩),
  (99, ⟨.slice, 1, 24, K99, [], 42⟩),
  (100, ⟨.struct, 3, 40, K100, [(0, 3), (1, 3), (2, 99)], 0⟩),
  (101, ⟨.struct, 3, 40, K101, [(0, 3), (1, 3), (2, 99)], 0⟩),
  (102, ⟨.slice, 1, 24, K102, [], 177⟩),
  (103, ⟨.slice, 1, 24, K103, [], 179⟩),
  (104, ⟨.struct, 19, 296, K104, [(0, 3), (1, 3), (2, 42), (4, 98), (6, 101), (9, 60), (10, 60), (11, 66), (12, 3), (13, 3), (14, 102), (15, 3), (16, 3), (17, 3), (18, 103)], 0⟩),
  (105, ⟨.struct, 19, 296, K105, [(0, 3), (1, 3), (2, 42), (4, 98), (6, 101), (9, 60), (10, 60), (11, 66), (12, 3), (13, 3), (14, 102), (15, 3), (16, 3), (17, 3), (18, 103)], 0⟩),
  (106, ⟨.other, 1, 8, K106, [], 0⟩),
  (107, ⟨.slice, 1, 24, K107, [], 5⟩),
  (108, ⟨.struct, 3, 40, K108, [(0, 3), (1, 107), (2, 4)], 0⟩),
  (109, ⟨.struct, 3, 40, K109, [(0, 3), (1, 107), (2, 4)], 0⟩),
  (110, ⟨.other, 1, 8, K110, [], 0⟩),
  (111, ⟨.struct, 3, 56, K111, [(0, 3), (1, 42)], 0⟩),
  (112, ⟨.struct, 3, 56, K112, [(0, 3), (1, 42)], 0⟩),
  (113, ⟨.other, 1, 8, K113, [], 0⟩),
  (114, ⟨.other, 1, 8, K114, [], 0⟩),
  (115, ⟨.struct, 3, 40, K115, [(0, 3), (1, 107), (2, 4)], 0⟩),
  (116, ⟨.struct, 3, 56, K116, [(0, 3), (1, 48)], 0⟩),
  (117, ⟨.struct, 3, 56, K117, [(0, 3), (1, 48)], 0⟩),
  (118, ⟨.other, 1, 8, K118, [], 0⟩),
  (119, ⟨.other, 1, 8, K119, [], 0⟩),
  (120, ⟨.other, 1, 8, K120, [], 0⟩),
  (121, ⟨.other, 1, 8, K121, [], 0⟩),
  (122, ⟨.other, 1, 8, K122, [], 0⟩),
  (123, ⟨.other, 1, 8, K123, [], 0⟩),
  (124, ⟨.other, 1, 8, K124, [], 0⟩),
  (125, ⟨.other, 1, 8, K125, [], 0⟩),
  (126, ⟨.other, 1, 8, K126, [], 0⟩),
  (128, ⟨.other, 1, 8, K128, [], 0⟩),
  (129, ⟨.other, 1, 8, K129, [], 0⟩),
  (130, ⟨.struct, 5, 48, K130, [(0, 3), (1, 3), (2, 3), (3, 3), (4, 9)], 0⟩),
  (131, ⟨.struct, 6, 56, K131, [(0, 3), (1, 130)], 0⟩),
  (132, ⟨.struct, 6, 56, K132, [(0, 3), (1, 130)], 0⟩),
  (133, ⟨.other, 1, 8, K133, [], 0⟩),
  (134, ⟨.other, 1, 8, K134, [], 0⟩),
  (135, ⟨.other, 1, 8, K135, [], 0⟩),
  (136, ⟨.other, 1, 8, K136, [], 0⟩),
  (137, ⟨.struct, 2, 16, K137, [(0, 3), (1, 3)], 0⟩),
  (138, ⟨.other, 1, 8, K138, [], 0⟩),
  (139, ⟨.other, 1, 8, K139, [], 0⟩),
  (140, ⟨.other, 1, 8, K140, [], 0⟩),
  (141, ⟨.other, 1, 8, K141, [], 0⟩),
  (142, ⟨.other, 1, 8, K142, [], 0⟩),
  (143, ⟨.other, 1, 8, K143, [], 0⟩),
  (144, ⟨.other, 1, 8, K144, [], 0⟩),
  (145, ⟨.other, 1, 8, K145, [], 0⟩),
  (146, ⟨.other, 1, 8, K146, [], 0⟩),
  (147, ⟨.other, 1, 8, K147, [], 0⟩),
  (148, ⟨.other, 1, 8, K148, [], 0⟩),
  (149, ⟨.other, 1, 8, K149, [], 0⟩),
  (150, ⟨.other, 1, 8, K150, [], 0⟩),
  (151, ⟨.struct, 3, 24, K151, [(0, 3), (1, 3), (2, 3)], 0⟩),
  (152, ⟨.struct, 3, 24, K152, [(0, 3), (1, 3), (2, 3)], 0⟩),
  (153, ⟨.other, 1, 8, K153, [], 0⟩),
  (154, ⟨.other, 1, 8, K154, [], 0⟩),
  (155, ⟨.other, 1, 8, K155, [], 0⟩),
  (156, ⟨.other, 1, 8, K156, [], 0⟩),
  (157, ⟨.other, 1, 8, K157, [], 0⟩),
  (158, ⟨.other, 1, 8, K158, [], 0⟩),
  (159, ⟨.other, 1, 8, K159, [], 0⟩),
  (160, ⟨.other, 1, 8, K160, [], 0⟩),
  (161, ⟨.other, 1, 8, K161, [], 0⟩),
  (162, ⟨.other, 1, 8, K162, [], 0⟩),
  (163, ⟨.other, 1, 8, K163, [], 0⟩),
  (164, ⟨.other, 1, 8, K164, [], 0⟩),
  (165, ⟨.other, 1, 8, K165, [], 0⟩),
  (166, ⟨.other, 1, 8, K166, [], 0⟩),
  (167, ⟨.other, 1, 8, K167, [], 0⟩),
  (168, ⟨.other, 1, 8, K168, [], 0⟩),
  (169, ⟨.other, 1, 8, K169, [], 0⟩),
  (170, ⟨.other, 1, 8, K170, [], 0⟩),
  (171, ⟨.other, 1, 8, K171, [], 0⟩),
  (172, ⟨.other, 1, 8, K172, [], 0⟩),
  (173, ⟨.struct, 4, 32, K173, [(0, 3), (1, 3), (2, 4), (3, 3)], 0⟩),
  (174, ⟨.struct, 4, 32, K174, [(0, 3), (1, 3), (2, 4), (3, 3)], 0⟩),
  (175, ⟨.other, 1, 8, K175, [], 0⟩),
  (176, ⟨.other, 1, 8, K176, [], 0⟩),
  (177, ⟨.struct, 4, 32, K177, [(0, 3), (1, 3), (2, 4), (3, 3)], 0⟩),
  (178, ⟨.other, 1, 8, K178, [], 0⟩),
  (179, ⟨.struct, 3, 24, K179, [(0, 3), (1, 3), (2, 3)], 0⟩),
  (180, ⟨.other, 1, 8, K180, [], 0⟩),
  (181, ⟨.other, 1, 8, K181, [], 0⟩),
  (182, ⟨.other, 1, 8, K182, [], 0⟩),
  (183, ⟨.other, 1, 8, K183, [], 0⟩),
  (184, ⟨.other, 1, 8, K184, [], 0⟩),
  (185, ⟨.other, 1, 8, K185, [], 0⟩),
  (186, ⟨.other, 1, 8, K186, [], 0⟩),
  (187, ⟨.other, 1, 8, K187, [], 0⟩),
  (188, ⟨.other, 1, 8, K188, [], 0⟩),
  (189, ⟨.other, 1, 8, K189, [], 0⟩),
  (190, ⟨.other, 1, 8, K190, [], 0⟩),
  (191, ⟨.other, 1, 8, K191, [], 0⟩),
  (192, ⟨.other, 1, 8, K192, [], 0⟩),
  (193, ⟨.other, 1, 8, K193, [], 0⟩),
  (194, ⟨.slice, 1, 24, K194, [], 107⟩),
  (195, ⟨.other, 1, 8, K195, [], 0⟩),
  (201, ⟨.other, 1, 8, K201, [], 0⟩),
  (202, ⟨.int .u32, 1, 4, K202, [], 0⟩),
  (203, ⟨.int .u8, 1, 1, K203, [], 0⟩),
  (204, ⟨.int .u8, 1, 1, K204, [], 0⟩),
  (205, ⟨.other, 1, 8, K205, [], 0⟩),
  (206, ⟨.ptr, 1, 8, [], [], 5⟩),
  (207, ⟨.int .i32, 1, 4, K207, [], 0⟩),
  (208, ⟨.int .i32, 1, 4, K208, [], 0⟩)]
def ti : Ti := fun t => look? t tyTab
end Go.Abs.Vz
