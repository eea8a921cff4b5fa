/- What the functions of this program answer, part z. -/
import Derived.Test.YthgbmlfjiagadaaW0
import Derived.Test.YthgbmlfjiagadaaProg
/- The types of the seat, as its translation has them: by a program. -/
namespace Go.Abs.Uz
def K1 : List Kd := [.fn]
def K2 : List Kd := [.int .i64]
def K3 : List Kd := [.int .i64]
def K4 : List Kd := [.bool]
def K5 : List Kd := [.int .u8]
def K6 : List Kd := [.int .u8]
def K7 : List Kd := [.int .i64, .int .i64, .bool, .int .u8]
def K8 : List Kd := [.int .i64, .int .i64, .bool, .int .u8]
def K9 : List Kd := [.str]
def K10 : List Kd := [.str]
def K11 : List Kd := [.str]
def K12 : List Kd := [.int .u64]
def K13 : List Kd := [.str, .int .u64]
def K14 : List Kd := [.str, .int .u64]
def K21 : List Kd := [.int .i32]
def K75 : List Kd := [.int .i64, .int .i64, .int .i64, .int .i64, .str]
def K77 : List Kd := [.int .i64, .int .i64, .int .i64, .int .i64, .int .i64, .str]
def K22 : List Kd := [.sl K77]
def K80 : List Kd := [.int .i64, .int .i64, .int .i64, .int .i64, .int .i64, .int .i64, .str]
def K23 : List Kd := [.sl K80]
def K24 : List Kd := [.fn]
def K25 : List Kd := [.fn]
def K46 : List Kd := [.int .i64, .int .i64, .int .i64, .int .i64, .str]
def K82 : List Kd := [.int .i64, .int .i64, .int .i64, .int .i64, .int .i64, .str]
def K26 : List Kd := [.sl K82]
def K27 : List Kd := [.fn]
def K28 : List Kd := [.fn]
def K48 : List Kd := [.int .i64, .int .i64, .int .i64, .int .i64, .int .i64, .int .i64, .str]
def K29 : List Kd := [.sl K48]
def K30 : List Kd := [.fn]
def K31 : List Kd := [.fn]
def K32 : List Kd := [.fn]
def K33 : List Kd := [.fn]
def K34 : List Kd := [.fn]
def K35 : List Kd := [.fn]
def K36 : List Kd := [.sl K5]
def K37 : List Kd := [.fn]
def K94 : List Kd := [.int .i64, .int .i64]
def K38 : List Kd := [.sl K94]
def K39 : List Kd := [.sl K82, .sl K94]
def K40 : List Kd := [.sl K82, .sl K94]
def K42 : List Kd := [.fn]
def K43 : List Kd := [.fn]
def K44 : List Kd := [.fn]
def K45 : List Kd := [.int .i64, .int .i64, .int .i64, .int .i64, .str]
def K47 : List Kd := [.int .i64, .int .i64, .int .i64, .int .i64, .int .i64, .int .i64, .str]
def K50 : List Kd := [.fn]
def K51 : List Kd := [.fn]
def K146 : List Kd := [.int .i64, .int .i64]
def K52 : List Kd := [.sl K146]
def K53 : List Kd := [.sl K77, .sl K146]
def K54 : List Kd := [.sl K77, .sl K146]
def K55 : List Kd := [.fn]
def K56 : List Kd := [.fn]
def K57 : List Kd := [.fn]
def K58 : List Kd := [.fn]
def K59 : List Kd := [.fn]
def K109 : List Kd := [.sl K3]
def K149 : List Kd := [.sl K3, .int .i64]
def K150 : List Kd := [.sl K54]
def K152 : List Kd := [.int .i64, .int .i64, .sl K54]
def K115 : List Kd := [.sl K109]
def K202 : List Kd := [.int .i64, .int .i64, .bool, .int .i64]
def K153 : List Kd := [.sl K202]
def K204 : List Kd := [.int .i64, .int .i64, .int .i64]
def K154 : List Kd := [.sl K204]
def K156 : List Kd := [.int .i64, .int .i64, .sl K77, .sl K146, .sl K3, .int .i64, .int .i64, .int .i64, .sl K54, .sl K3, .sl K3, .sl K109, .int .i64, .int .i64, .sl K202, .int .i64, .int .i64, .int .i64, .sl K204]
def K60 : List Kd := [.sl K156]
def K158 : List Kd := [.int .i64, .sl K5, .bool]
def K61 : List Kd := [.sl K158]
def K161 : List Kd := [.int .i64, .sl K77, .sl K146]
def K62 : List Kd := [.sl K161]
def K63 : List Kd := [.sl K156, .sl K158, .sl K161]
def K64 : List Kd := [.sl K156, .sl K158, .sl K161]
def K65 : List Kd := [.fn]
def K66 : List Kd := [.fn]
def K111 : List Kd := [.sl K3, .int .i64]
def K112 : List Kd := [.sl K40]
def K114 : List Kd := [.int .i64, .int .i64, .sl K40]
def K166 : List Kd := [.int .i64, .int .i64, .bool, .int .i64]
def K116 : List Kd := [.sl K166]
def K168 : List Kd := [.int .i64, .int .i64, .int .i64]
def K117 : List Kd := [.sl K168]
def K119 : List Kd := [.int .i64, .int .i64, .sl K82, .sl K94, .sl K3, .int .i64, .int .i64, .int .i64, .sl K40, .sl K3, .sl K3, .sl K109, .int .i64, .int .i64, .sl K166, .int .i64, .int .i64, .int .i64, .sl K168]
def K67 : List Kd := [.sl K119]
def K121 : List Kd := [.int .i64, .sl K5, .bool]
def K68 : List Kd := [.sl K121]
def K123 : List Kd := [.int .i64, .sl K82, .sl K94]
def K69 : List Kd := [.sl K123]
def K70 : List Kd := [.sl K119, .sl K121, .sl K123]
def K71 : List Kd := [.sl K119, .sl K121, .sl K123]
def K72 : List Kd := [.fn]
def K73 : List Kd := [.fn]
def K74 : List Kd := [.fn]
def K76 : List Kd := [.int .i64, .int .i64, .int .i64, .int .i64, .int .i64, .str]
def K78 : List Kd := [.fn]
def K79 : List Kd := [.int .i64, .int .i64, .int .i64, .int .i64, .int .i64, .int .i64, .str]
def K81 : List Kd := [.int .i64, .int .i64, .int .i64, .int .i64, .int .i64, .str]
def K83 : List Kd := [.fn]
def K84 : List Kd := [.fn]
def K85 : List Kd := [.fn]
def K86 : List Kd := [.fn]
def K87 : List Kd := [.fn]
def K89 : List Kd := [.fn]
def K90 : List Kd := [.fn]
def K91 : List Kd := [.fn]
def K92 : List Kd := [.fn]
def K93 : List Kd := [.int .i64, .int .i64]
def K95 : List Kd := [.fn]
def K97 : List Kd := [.fn]
def K98 : List Kd := [.fn]
def K99 : List Kd := [.fn]
def K100 : List Kd := [.fn]
def K101 : List Kd := [.fn]
def K102 : List Kd := [.fn]
def K103 : List Kd := [.fn]
def K104 : List Kd := [.fn]
def K105 : List Kd := [.fn]
def K106 : List Kd := [.fn]
def K107 : List Kd := [.fn]
def K108 : List Kd := [.fn]
def K110 : List Kd := [.sl K3, .int .i64]
def K113 : List Kd := [.int .i64, .int .i64, .sl K40]
def K118 : List Kd := [.int .i64, .int .i64, .sl K82, .sl K94, .sl K3, .int .i64, .int .i64, .int .i64, .sl K40, .sl K3, .sl K3, .sl K109, .int .i64, .int .i64, .sl K166, .int .i64, .int .i64, .int .i64, .sl K168]
def K120 : List Kd := [.int .i64, .sl K5, .bool]
def K122 : List Kd := [.int .i64, .sl K82, .sl K94]
def K124 : List Kd := [.fn]
def K125 : List Kd := [.fn]
def K126 : List Kd := [.fn]
def K127 : List Kd := [.fn]
def K128 : List Kd := [.fn]
def K129 : List Kd := [.fn]
def K130 : List Kd := [.fn]
def K131 : List Kd := [.fn]
def K132 : List Kd := [.fn]
def K133 : List Kd := [.fn]
def K134 : List Kd := [.fn]
def K135 : List Kd := [.fn]
def K136 : List Kd := [.fn]
def K137 : List Kd := [.fn]
def K138 : List Kd := [.fn]
def K139 : List Kd := [.fn]
def K140 : List Kd := [.fn]
def K141 : List Kd := [.sl K5, .int .i64, .int .i64]
def K142 : List Kd := [.sl K5, .int .i64, .int .i64]
def K143 : List Kd := [.fn]
def K144 : List Kd := [.fn]
def K145 : List Kd := [.fn]
def K147 : List Kd := [.fn]
def K148 : List Kd := [.fn]
def K151 : List Kd := [.int .i64, .int .i64, .sl K54]
def K155 : List Kd := [.int .i64, .int .i64, .sl K77, .sl K146, .sl K3, .int .i64, .int .i64, .int .i64, .sl K54, .sl K3, .sl K3, .sl K109, .int .i64, .int .i64, .sl K202, .int .i64, .int .i64, .int .i64, .sl K204]
def K157 : List Kd := [.fn]
def K159 : List Kd := [.fn]
def K160 : List Kd := [.int .i64, .sl K77, .sl K146]
def K162 : List Kd := [.fn]
def K163 : List Kd := [.fn]
def K164 : List Kd := [.fn]
def K165 : List Kd := [.int .i64, .int .i64, .bool, .int .i64]
def K167 : List Kd := [.int .i64, .int .i64, .int .i64]
def K169 : List Kd := [.fn]
def K170 : List Kd := [.fn]
def K171 : List Kd := [.fn]
def K172 : List Kd := [.fn]
def K173 : List Kd := [.fn]
def K174 : List Kd := [.fn]
def K175 : List Kd := [.fn]
def K176 : List Kd := [.fn]
def K177 : List Kd := [.int .u64]
def K178 : List Kd := [.fn]
def K179 : List Kd := [.sl K9]
def K180 : List Kd := [.fn]
def K181 : List Kd := [.fn]
def K182 : List Kd := [.fn]
def K183 : List Kd := [.fn]
def K184 : List Kd := [.fn]
def K185 : List Kd := [.fn]
def K186 : List Kd := [.fn]
def K187 : List Kd := [.fn]
def K188 : List Kd := [.fn]
def K189 : List Kd := [.fn]
def K190 : List Kd := [.fn]
def K191 : List Kd := [.fn]
def K192 : List Kd := [.fn]
def K193 : List Kd := [.fn]
def K194 : List Kd := [.fn]
def K195 : List Kd := [.fn]
def K197 : List Kd := [.fn]
def K198 : List Kd := [.fn]
def K199 : List Kd := [.fn]
def K200 : List Kd := [.fn]
def K201 : List Kd := [.fn]
def K203 : List Kd := [.fn]
def K205 : List Kd := [.fn]
def K206 : List Kd := [.fn]
def K207 : List Kd := [.fn]
def K208 : List Kd := [.fn]
def K214 : List Kd := [.fn]
def K215 : List Kd := [.int .u32]
def K216 : List Kd := [.int .u8]
def K217 : List Kd := [.int .u8]
def K218 : List Kd := [.fn]
def K220 : List Kd := [.int .i32]
def K221 : List Kd := [.int .i32]
def tyTab : List (Nat × TyI) := [(1, ⟨.other, 1, 8, K1, [], 0⟩),
  (2, ⟨.int .i64, 1, 8, K2, [], 0⟩),
  (3, ⟨.int .i64, 1, 8, K3, [], 0⟩),
  (4, ⟨.bool, 1, 1, K4, [], 0⟩),
  (5, ⟨.int .u8, 1, 1, K5, [], 0⟩),
  (6, ⟨.int .u8, 1, 1, K6, [], 0⟩),
  (7, ⟨.struct, 4, 24, K7, [(0, 2), (1, 3), (2, 4), (3, 6)], 0⟩),
  (8, ⟨.struct, 4, 24, K8, [(0, 2), (1, 3), (2, 4), (3, 6)], 0⟩),
  (9, ⟨.string, 1, 16, K9, [], 0⟩),
  (10, ⟨.string, 1, 16, K10, [], 0⟩),
  (11, ⟨.string, 1, 16, K11, [], 0⟩),
  (12, ⟨.int .u64, 1, 8, K12, [], 0⟩),
  (21, ⟨.int .i32, 1, 4, K21, [], 0⟩),
  (22, ⟨.slice, 1, 24, K22, [], 77⟩),
  (23, ⟨.slice, 1, 24, K23, [], 80⟩),
  (24, ⟨.other, 1, 8, K24, [], 0⟩),
  (25, ⟨.other, 1, 8, K25, [], 0⟩),
  (26, ⟨.slice, 1, 24, K26, [], 82⟩),
  (27, ⟨.other, 1, 8, K27, [], 0⟩),
  (28, ⟨.other, 1, 8, K28, [], 0⟩),
  (29, ⟨.slice, 1, 24, K29, [], 48⟩),
  (30, ⟨.other, 1, 8, K30, [], 0⟩),
  (31, ⟨.other, 1, 8, K31, [], 0⟩),
  (32, ⟨.other, 1, 8, K32, [], 0⟩),
  (33, ⟨.other, 1, 8, K33, [], 0⟩),
  (34, ⟨.other, 1, 8, K34, [], 0⟩),
  (35, ⟨.other, 1, 8, K35, [], 0⟩),
  (36, ⟨.slice, 1, 24, K36, [], 5⟩),
  (37, ⟨.other, 1, 8, K37, [], 0⟩),
  (38, ⟨.slice, 1, 24, K38, [], 94⟩),
  (39, ⟨.struct, 2, 48, K39, [(0, 26), (1, 38)], 0⟩),
  (40, ⟨.struct, 2, 48, K40, [(0, 26), (1, 38)], 0⟩),
  (42, ⟨.other, 1, 8, K42, [], 0⟩),
  (43, ⟨.other, 1, 8, K43, [], 0⟩),
  (44, ⟨.other, 1, 8, K44, [], 0⟩),
  (45, ⟨.struct, 5, 48, K45, [(0, 3), (1, 3), (2, 3), (3, 3), (4, 9)], 0⟩),
  (46, ⟨.struct, 5, 48, K46, [(0, 3), (1, 3), (2, 3), (3, 3), (4, 9)], 0⟩),
  (47, ⟨.struct, 7, 64, K47, [(0, 3), (1, 3), (2, 46)], 0⟩),
  (48, ⟨.struct, 7, 64, K48, [(0, 3), (1, 3), (2, 46)], 0⟩),
  (50, ⟨.other, 1, 8, K50, [], 0⟩),
  (51, ⟨.other, 1, 8, K51, [], 0⟩),
  (52, ⟨.slice, 1, 24, K52, [], 146⟩),
  (53, ⟨.struct, 2, 48, K53, [(0, 22), (1, 52)], 0⟩),
  (54, ⟨.struct, 2, 48, K54, [(0, 22), (1, 52)], 0⟩),
  (55, ⟨.other, 1, 8, K55, [], 0⟩),
  (56, ⟨.other, 1, 8, K56, [], 0⟩),
  (57, ⟨.other, 1, 8, K57, [], 0⟩),
  (58, ⟨.other, 1, 8, K58, [], 0⟩),
  (59, ⟨.other, 1, 8, K59, [], 0⟩),
  (60, ⟨.slice, 1, 24, K60, [], 156⟩),
  (61, ⟨.slice, 1, 24, K61, [], 158⟩),
  (62, ⟨.slice, 1, 24, K62, [], 161⟩),
  (63, ⟨.struct, 3, 72, K63, [(0, 60), (1, 61), (2, 62)], 0⟩),
  (64, ⟨.struct, 3, 72, K64, [(0, 60), (1, 61), (2, 62)], 0⟩),
  (65, ⟨.other, 1, 8, K65, [], 0⟩),
  (66, ⟨.other, 1, 8, K66, [], 0⟩),
  (67, ⟨.slice, 1, 24, K67, [], 119⟩),
  (68, ⟨.slice, 1, 24, K68, [], 121⟩),
  (69, ⟨.slice, 1, 24, K69, [], 123⟩),
  (70, ⟨.struct, 3, 72, K70, [(0, 67), (1, 68), (2, 69)], 0⟩),
  (71, ⟨.struct, 3, 72, K71, [(0, 67), (1, 68), (2, 69)], 0⟩),
  (72, ⟨.other, 1, 8, K72, [], 0⟩),
  (73, ⟨.other, 1, 8, K73, [], 0⟩),
  (74, ⟨.other, 1, 8, K74, [], 0⟩),
  (75, ⟨.struct, 5, 48, K75, [(0, 3), (1, 3), (2, 3), (3, 3), (4, 9)], 0⟩),
  (76, ⟨.struct, 6, 56, K76, [(0, 3), (1, 75)], 0⟩),
  (77, ⟨.struct, 6, 56, K77, [(0, 3), (1, 75)], 0⟩),
  (78, ⟨.other, 1, 8, K78, [], 0⟩),
  (79, ⟨.struct, 7, 64, K79, [(0, 3), (1, 3), (2, 75)], 0⟩),
  (80, ⟨.struct, 7, 64, K80, [(0, 3), (1, 3), (2, 75)], 0⟩),
  (81, ⟨.struct, 6, 56, K81, [(0, 3), (1, 46)], 0⟩),
  (82, ⟨.struct, 6, 56, K82, [(0, 3), (1, 46)], 0⟩),
  (83, ⟨.other, 1, 8, K83, [], 0⟩),
  (84, ⟨.other, 1, 8, K84, [], 0⟩),
  (85, ⟨.other, 1, 8, K85, [], 0⟩),
  (86, ⟨.other, 1, 8, K86, [], 0⟩),
  (87, ⟨.other, 1, 8, K87, [], 0⟩),
  (89, ⟨.other, 1, 8, K89, [], 0⟩),
  (90, ⟨.other, 1, 8, K90, [], 0⟩),
  (91, ⟨.other, 1, 8, K91, [], 0⟩),
  (92, ⟨.other, 1, 8, K92, [], 0⟩),
  (93, ⟨.struct, 2, 16, K93, [(0, 3), (1, 3)], 0⟩),
  (94, ⟨.struct, 2, 16, K94, [(0, 3), (1, 3)], 0⟩),
  (95, ⟨.other, 1, 8, K95, [], 0⟩),
  (96, ⟨.ptr, 1, 8, [], [], 142⟩),
  (97, ⟨.other, 1, 8, K97, [], 0⟩),
  (98, ⟨.other, 1, 8, K98, [], 0⟩),
  (99, ⟨.other, 1, 8, K99, [], 0⟩),
  (100, ⟨.other, 1, 8, K100, [], 0⟩),
  (101, ⟨.other, 1, 8, K101, [], 0⟩),
  (102, ⟨.other, 1, 8, K102, [], 0⟩),
  (103, ⟨.other, 1, 8, K103, [], 0⟩),
  (104, ⟨.other, 1, 8, K104, [], 0⟩),
  (105, ⟨.other, 1, 8, K105, [], 0⟩),
  (106, ⟨.other, 1, 8, K106, [], 0⟩),
  (107, ⟨.other, 1, 8, K107, [], 0⟩),
  (108, ⟨.other, 1, 8, K108, [], 0⟩),
  (109, ⟨.slice, 1, 24, K109, [], 3⟩),
  (110, ⟨.struct, 2, 32, K110, [(0, 109), (1, 3)], 0⟩),
  (111, ⟨.struct, 2, 32, K111, [(0, 109), (1, 3)], 0⟩),
  (112, ⟨.slice, 1, 24, K112, [], 40⟩),
  (113, ⟨.struct, 3, 40, K113, [(0, 3), (1, 3), (2, 112)], 0⟩),
  (114, ⟨.struct, 3, 40, K114, [(0, 3), (1, 3), (2, 112)], 0⟩),
  (115, ⟨.slice, 1, 24, K115, [], 109⟩),
  (116, ⟨.slice, 1, 24, K116, [], 166⟩),
  (117, ⟨.slice, 1, 24, K117, [], 168⟩),
  (118, ⟨.struct, 19, 296, K118, [(0, 3), (1, 3), (2, 40), (4, 111), (6, 114), (9, 109), (10, 109), (11, 115), (12, 3), (13, 3), (14, 116), (15, 3), (16, 3), (17, 3), (18, 117)], 0⟩),
  (119, ⟨.struct, 19, 296, K119, [(0, 3), (1, 3), (2, 40), (4, 111), (6, 114), (9, 109), (10, 109), (11, 115), (12, 3), (13, 3), (14, 116), (15, 3), (16, 3), (17, 3), (18, 117)], 0⟩),
  (120, ⟨.struct, 3, 40, K120, [(0, 3), (1, 36), (2, 4)], 0⟩),
  (121, ⟨.struct, 3, 40, K121, [(0, 3), (1, 36), (2, 4)], 0⟩),
  (122, ⟨.struct, 3, 56, K122, [(0, 3), (1, 40)], 0⟩),
  (123, ⟨.struct, 3, 56, K123, [(0, 3), (1, 40)], 0⟩),
  (124, ⟨.other, 1, 8, K124, [], 0⟩),
  (125, ⟨.other, 1, 8, K125, [], 0⟩),
  (126, ⟨.other, 1, 8, K126, [], 0⟩),
  (127, ⟨.other, 1, 8, K127, [], 0⟩),
  (128, ⟨.other, 1, 8, K128, [], 0⟩),
  (129, ⟨.other, 1, 8, K129, [], 0⟩),
  (130, ⟨.other, 1, 8, K130, [], 0⟩),
  (131, ⟨.other, 1, 8, K131, [], 0⟩),
  (132, ⟨.other, 1, 8, K132, [], 0⟩),
  (133, ⟨.other, 1, 8, K133, [], 0⟩),
  (134, ⟨.other, 1, 8, K134, [], 0⟩),
  (135, ⟨.other, 1, 8, K135, [], 0⟩),
  (136, ⟨.other, 1, 8, K136, [], 0⟩),
  (137, ⟨.other, 1, 8, K137, [], 0⟩),
  (138, ⟨.other, 1, 8, K138, [], 0⟩),
  (139, ⟨.other, 1, 8, K139, [], 0⟩),
  (140, ⟨.other, 1, 8, K140, [], 0⟩),
  (141, ⟨.struct, 3, 40, K141, [(0, 36), (1, 3), (2, 3)], 0⟩),
  (142, ⟨.struct, 3, 40, K142, [(0, 36), (1, 3), (2, 3)], 0⟩),
  (143, ⟨.other, 1, 8, K143, [], 0⟩),
  (144, ⟨.other, 1, 8, K144, [], 0⟩),
  (145, ⟨.other, 1, 8, K145, [], 0⟩),
  (146, ⟨.struct, 2, 16, K146, [(0, 3), (1, 3)], 0⟩),
  (147, ⟨.other, 1, 8, K147, [], 0⟩),
  (148, ⟨.other, 1, 8, K148, [], 0⟩),
  (149, ⟨.struct, 2, 32, K149, [(0, 109), (1, 3)], 0⟩),
  (150, ⟨.slice, 1, 24, K150, [], 54⟩),
  (151, ⟨.struct, 3, 40, K151, [(0, 3), (1, 3), (2, 150)], 0⟩),
  (152, ⟨.struct, 3, 40, K152, [(0, 3), (1, 3), (2, 150)], 0⟩),
  (153, ⟨.slice, 1, 24, K153, [], 202⟩),
  (154, ⟨.slice, 1, 24, K154, [], 204⟩),
  (155, ⟨.struct, 19, 296, K155, [(0, 3), (1, 3), (2, 54), (4, 149), (6, 152), (9, 109), (10, 109), (11, 115), (12, 3), (13, 3), (14, 153), (15, 3), (16, 3), (17, 3), (18, 154)], 0⟩),
  (156, ⟨.struct, 19, 296, K156, [(0, 3), (1, 3), (2, 54), (4, 149), (6, 152), (9, 109), (10, 109), (11, 115), (12, 3), (13, 3), (14, 153), (15, 3), (16, 3), (17, 3), (18, 154)], 0⟩),
  (157, ⟨.other, 1, 8, K157, [], 0⟩),
  (158, ⟨.struct, 3, 40, K158, [(0, 3), (1, 36), (2, 4)], 0⟩),
  (159, ⟨.other, 1, 8, K159, [], 0⟩),
  (160, ⟨.struct, 3, 56, K160, [(0, 3), (1, 54)], 0⟩),
  (161, ⟨.struct, 3, 56, K161, [(0, 3), (1, 54)], 0⟩),
  (162, ⟨.other, 1, 8, K162, [], 0⟩),
  (163, ⟨.other, 1, 8, K163, [], 0⟩),
  (164, ⟨.other, 1, 8, K164, [], 0⟩),
  (165, ⟨.struct, 4, 32, K165, [(0, 3), (1, 3), (2, 4), (3, 3)], 0⟩),
  (166, ⟨.struct, 4, 32, K166, [(0, 3), (1, 3), (2, 4), (3, 3)], 0⟩),
  (167, ⟨.struct, 3, 24, K167, [(0, 3), (1, 3), (2, 3)], 0⟩),
  (168, ⟨.struct, 3, 24, K168, [(0, 3), (1, 3), (2, 3)], 0⟩),
  (169, ⟨.other, 1, 8, K169, [], 0⟩),
  (170, ⟨.other, 1, 8, K170, [], 0⟩),
  (171, ⟨.other, 1, 8, K171, [], 0⟩),
  (172, ⟨.other, 1, 8, K172, [], 0⟩),
  (173, ⟨.other, 1, 8, K173, [], 0⟩),
  (174, ⟨.other, 1, 8, K174, [], 0⟩),
  (175, ⟨.other, 1, 8, K175, [], 0⟩),
  (176, ⟨.other, 1, 8, K176, [], 0⟩),
  (177, ⟨.int .u64, 1, 8, K177, [], 0⟩),
  (178, ⟨.other, 1, 8, K178, [], 0⟩),
  (179, ⟨.slice, 1, 24, K179, [], 9⟩),
  (180, ⟨.other, 1, 8, K180, [], 0⟩),
  (181, ⟨.other, 1, 8, K181, [], 0⟩),
  (182, ⟨.other, 1, 8, K182, [], 0⟩),
  (183, ⟨.other, 1, 8, K183, [], 0⟩),
  (184, ⟨.other, 1, 8, K184, [], 0⟩),
  (185, ⟨.other, 1, 8, K185, [], 0⟩),
  (186, ⟨.other, 1, 8, K186, [], 0⟩),
  (187, ⟨.other, 1, 8, K187, [], 0⟩),
  (188, ⟨.other, 1, 8, K188, [], 0⟩),
  (189, ⟨.other, 1, 8, K189, [], 0⟩),
  (190, ⟨.other, 1, 8, K190, [], 0⟩),
  (191, ⟨.other, 1, 8, K191, [], 0⟩),
  (192, ⟨.other, 1, 8, K192, [], 0⟩),
  (193, ⟨.other, 1, 8, K193, [], 0⟩),
  (194, ⟨.other, 1, 8, K194, [], 0⟩),
  (195, ⟨.other, 1, 8, K195, [], 0⟩),
  (197, ⟨.other, 1, 8, K197, [], 0⟩),
  (198, ⟨.other, 1, 8, K198, [], 0⟩),
  (199, ⟨.other, 1, 8, K199, [], 0⟩),
  (200, ⟨.other, 1, 8, K200, [], 0⟩),
  (201, ⟨.other, 1, 8, K201, [], 0⟩),
  (202, ⟨.struct, 4, 32, K202, [(0, 3), (1, 3), (2, 4), (3, 3)], 0⟩),
  (203, ⟨.other, 1, 8, K203, [], 0⟩),
  (204, ⟨.struct, 3, 24, K204, [(0, 3), (1, 3), (2, 3)], 0⟩),
  (205, ⟨.other, 1, 8, K205, [], 0⟩),
  (206, ⟨.other, 1, 8, K206, [], 0⟩),
  (207, ⟨.other, 1, 8, K207, [], 0⟩),
  (208, ⟨.other, 1, 8, K208, [], 0⟩),
  (214, ⟨.other, 1, 8, K214, [], 0⟩),
  (215, ⟨.int .u32, 1, 4, K215, [], 0⟩),
  (216, ⟨.int .u8, 1, 1, K216, [], 0⟩),
  (217, ⟨.int .u8, 1, 1, K217, [], 0⟩),
  (218, ⟨.other, 1, 8, K218, [], 0⟩),
  (219, ⟨.ptr, 1, 8, [], [], 5⟩),
  (220, ⟨.int .i32, 1, 4, K220, [], 0⟩),
  (221, ⟨.int .i32, 1, 4, K221, [], 0⟩)]
def ti : Ti := fun t => look? t tyTab
end Go.Abs.Uz
