/- What the functions of this program answer, part z. -/
import Derived.Test.YthgekoledembcaaGreatW0
import Derived.Test.YthgekoledembcaaGreatProg
/- The types of the seat, as its translation has them: by a program. -/
namespace Go.Abs.Gz
def K1 : List Kd := [.fn]
def K2 : List Kd := [.int .i64]
def K3 : List Kd := [.int .i64]
def K4 : List Kd := [.bool]
def K5 : List Kd := [.int .u8]
def K6 : List Kd := [.int .u8]
def K7 : List Kd := [.int .i64, .int .i64, .bool, .int .u8]
def K8 : List Kd := [.int .i64, .int .i64, .bool, .int .u8]
def K9 : List Kd := [.str]
def K10 : List Kd := [.str]
def K11 : List Kd := [.str]
def K12 : List Kd := [.int .u64]
def K21 : List Kd := [.int .i32]
def K137 : List Kd := [.int .i64, .int .i64, .int .i64, .int .i64, .str]
def K139 : List Kd := [.int .i64, .int .i64, .int .i64, .int .i64, .int .i64, .str]
def K46 : List Kd := [.sl K139]
def K143 : List Kd := [.int .i64, .int .i64]
def K47 : List Kd := [.sl K143]
def K49 : List Kd := [.sl K139, .sl K143]
def K43 : List Kd := [.sl K3]
def K65 : List Kd := [.sl K3, .int .i64]
def K66 : List Kd := [.sl K49]
def K68 : List Kd := [.int .i64, .int .i64, .sl K49]
def K69 : List Kd := [.sl K43]
def K163 : List Kd := [.int .i64, .int .i64, .bool, .int .i64]
def K70 : List Kd := [.sl K163]
def K171 : List Kd := [.int .i64, .int .i64, .int .i64]
def K71 : List Kd := [.sl K171]
def K73 : List Kd := [.int .i64, .int .i64, .sl K139, .sl K143, .sl K3, .int .i64, .int .i64, .int .i64, .sl K49, .sl K3, .sl K3, .sl K43, .int .i64, .int .i64, .sl K163, .int .i64, .int .i64, .int .i64, .sl K171]
def K22 : List Kd := [.sl K73]
def K106 : List Kd := [.sl K5]
def K108 : List Kd := [.int .i64, .sl K5, .bool]
def K23 : List Kd := [.sl K108]
def K90 : List Kd := [.int .i64, .sl K139, .sl K143]
def K24 : List Kd := [.sl K90]
def K25 : List Kd := [.sl K73, .sl K108, .sl K90]
def K26 : List Kd := [.sl K73, .sl K108, .sl K90]
def K28 : List Kd := [.fn]
def K29 : List Kd := [.fn]
def K30 : List Kd := [.fn]
def K31 : List Kd := [.fn]
def K134 : List Kd := [.int .i64, .int .i64, .int .i64, .int .i64, .str]
def K136 : List Kd := [.int .i64, .int .i64, .int .i64, .int .i64, .int .i64, .str]
def K37 : List Kd := [.sl K136]
def K149 : List Kd := [.int .i64, .int .i64]
def K38 : List Kd := [.sl K149]
def K40 : List Kd := [.sl K136, .sl K149]
def K119 : List Kd := [.sl K3, .int .i64]
def K120 : List Kd := [.sl K40]
def K122 : List Kd := [.int .i64, .int .i64, .sl K40]
def K206 : List Kd := [.int .i64, .int .i64, .bool, .int .i64]
def K123 : List Kd := [.sl K206]
def K208 : List Kd := [.int .i64, .int .i64, .int .i64]
def K124 : List Kd := [.sl K208]
def K126 : List Kd := [.int .i64, .int .i64, .sl K136, .sl K149, .sl K3, .int .i64, .int .i64, .int .i64, .sl K40, .sl K3, .sl K3, .sl K43, .int .i64, .int .i64, .sl K206, .int .i64, .int .i64, .int .i64, .sl K208]
def K32 : List Kd := [.sl K126]
def K128 : List Kd := [.int .i64, .sl K5, .bool]
def K33 : List Kd := [.sl K128]
def K131 : List Kd := [.int .i64, .sl K136, .sl K149]
def K34 : List Kd := [.sl K131]
def K35 : List Kd := [.sl K126, .sl K128, .sl K131]
def K36 : List Kd := [.sl K126, .sl K128, .sl K131]
def K39 : List Kd := [.sl K136, .sl K149]
def K41 : List Kd := [.fn]
def K42 : List Kd := [.fn]
def K44 : List Kd := [.fn]
def K45 : List Kd := [.fn]
def K48 : List Kd := [.sl K139, .sl K143]
def K50 : List Kd := [.fn]
def K51 : List Kd := [.fn]
def K52 : List Kd := [.fn]
def K53 : List Kd := [.fn]
def K54 : List Kd := [.fn]
def K55 : List Kd := [.fn]
def K56 : List Kd := [.fn]
def K57 : List Kd := [.fn]
def K58 : List Kd := [.fn]
def K59 : List Kd := [.fn]
def K60 : List Kd := [.fn]
def K61 : List Kd := [.fn]
def K62 : List Kd := [.fn]
def K63 : List Kd := [.fn]
def K64 : List Kd := [.sl K3, .int .i64]
def K67 : List Kd := [.int .i64, .int .i64, .sl K49]
def K72 : List Kd := [.int .i64, .int .i64, .sl K139, .sl K143, .sl K3, .int .i64, .int .i64, .int .i64, .sl K49, .sl K3, .sl K3, .sl K43, .int .i64, .int .i64, .sl K163, .int .i64, .int .i64, .int .i64, .sl K171]
def K75 : List Kd := [.fn]
def K76 : List Kd := [.fn]
def K77 : List Kd := [.fn]
def K78 : List Kd := [.fn]
def K79 : List Kd := [.fn]
def K80 : List Kd := [.fn]
def K81 : List Kd := [.fn]
def K82 : List Kd := [.fn]
def K83 : List Kd := [.fn]
def K84 : List Kd := [.fn]
def K85 : List Kd := [.fn]
def K86 : List Kd := [.fn]
def K87 : List Kd := [.fn]
def K88 : List Kd := [.fn]
def K89 : List Kd := [.int .i64, .sl K139, .sl K143]
def K91 : List Kd := [.fn]
def K92 : List Kd := [.fn]
def K93 : List Kd := [.fn]
def K94 : List Kd := [.fn]
def K95 : List Kd := [.fn]
def K96 : List Kd := [.fn]
def K97 : List Kd := [.fn]
def K98 : List Kd := [.fn]
def K99 : List Kd := [.fn]
def K100 : List Kd := [.fn]
def K101 : List Kd := [.fn]
def K102 : List Kd := [.fn]
def K103 : List Kd := [.fn]
def K104 : List Kd := [.fn]
def K105 : List Kd := [.fn]
def K107 : List Kd := [.int .i64, .sl K5, .bool]
def K109 : List Kd := [.fn]
def K110 : List Kd := [.fn]
def K111 : List Kd := [.fn]
def K112 : List Kd := [.fn]
def K113 : List Kd := [.fn]
def K114 : List Kd := [.fn]
def K115 : List Kd := [.fn]
def K116 : List Kd := [.fn]
def K117 : List Kd := [.fn]
def K118 : List Kd := [.fn]
def K121 : List Kd := [.int .i64, .int .i64, .sl K40]
def K125 : List Kd := [.int .i64, .int .i64, .sl K136, .sl K149, .sl K3, .int .i64, .int .i64, .int .i64, .sl K40, .sl K3, .sl K3, .sl K43, .int .i64, .int .i64, .sl K206, .int .i64, .int .i64, .int .i64, .sl K208]
def K127 : List Kd := [.fn]
def K129 : List Kd := [.fn]
def K130 : List Kd := [.int .i64, .sl K136, .sl K149]
def K132 : List Kd := [.fn]
def K133 : List Kd := [.int .i64, .int .i64, .int .i64, .int .i64, .str]
def K135 : List Kd := [.int .i64, .int .i64, .int .i64, .int .i64, .int .i64, .str]
def K138 : List Kd := [.int .i64, .int .i64, .int .i64, .int .i64, .int .i64, .str]
def K140 : List Kd := [.fn]
def K141 : List Kd := [.fn]
def K142 : List Kd := [.int .i64, .int .i64]
def K144 : List Kd := [.fn]
def K145 : List Kd := [.fn]
def K146 : List Kd := [.fn]
def K147 : List Kd := [.fn]
def K148 : List Kd := [.fn]
def K151 : List Kd := [.fn]
def K152 : List Kd := [.fn]
def K153 : List Kd := [.fn]
def K154 : List Kd := [.fn]
def K155 : List Kd := [.fn]
def K157 : List Kd := [.fn]
def K158 : List Kd := [.fn]
def K159 : List Kd := [.fn]
def K160 : List Kd := [.fn]
def K161 : List Kd := [.fn]
def K162 : List Kd := [.int .i64, .int .i64, .bool, .int .i64]
def K164 : List Kd := [.fn]
def K165 : List Kd := [.fn]
def K166 : List Kd := [.fn]
def K167 : List Kd := [.fn]
def K168 : List Kd := [.fn]
def K169 : List Kd := [.fn]
def K170 : List Kd := [.int .i64, .int .i64, .int .i64]
def K172 : List Kd := [.fn]
def K173 : List Kd := [.fn]
def K174 : List Kd := [.fn]
def K175 : List Kd := [.fn]
def K176 : List Kd := [.fn]
def K177 : List Kd := [.fn]
def K178 : List Kd := [.fn]
def K179 : List Kd := [.fn]
def K180 : List Kd := [.fn]
def K181 : List Kd := [.fn]
def K182 : List Kd := [.fn]
def K183 : List Kd := [.fn]
def K184 : List Kd := [.fn]
def K185 : List Kd := [.fn]
def K186 : List Kd := [.fn]
def K187 : List Kd := [.fn]
def K188 : List Kd := [.fn]
def K189 : List Kd := [.fn]
def K190 : List Kd := [.fn]
def K191 : List Kd := [.fn]
def K192 : List Kd := [.fn]
def K193 : List Kd := [.fn]
def K194 : List Kd := [.fn]
def K195 : List Kd := [.fn]
def K196 : List Kd := [.fn]
def K197 : List Kd := [.fn]
def K198 : List Kd := [.fn]
def K199 : List Kd := [.fn]
def K200 : List Kd := [.fn]
def K201 : List Kd := [.fn]
def K202 : List Kd := [.fn]
def K203 : List Kd := [.fn]
def K204 : List Kd := [.fn]
def K205 : List Kd := [.fn]
def K207 : List Kd := [.fn]
def K209 : List Kd := [.fn]
def K210 : List Kd := [.fn]
def K211 : List Kd := [.sl K106]
def K212 : List Kd := [.fn]
def K213 : List Kd := [.fn]
def K214 : List Kd := [.fn]
def K220 : List Kd := [.fn]
def K221 : List Kd := [.int .u32]
def K222 : List Kd := [.int .u8]
def K223 : List Kd := [.int .u8]
def K224 : List Kd := [.fn]
def K226 : List Kd := [.int .i32]
def K227 : List Kd := [.int .i32]
def tyTab : List (Nat × TyI) := [(1, ⟨.other, 1, 8, K1, [], 0⟩),
 (2, ⟨.int .i64, 1, 8, K2, [], 0⟩),
 (3, ⟨.int .i64, 1, 8, K3, [], 0⟩),
 (4, ⟨.bool, 1, 1, K4, [], 0⟩),
 (5, ⟨.int .u8, 1, 1, K5, [], 0⟩),
 (6, ⟨.int .u8, 1, 1, K6, [], 0⟩),
 (7, ⟨.struct, 4, 24, K7, [(0, 2), (1, 3), (2, 4), (3, 6)], 0⟩),
 (8, ⟨.struct, 4, 24, K8, [(0, 2), (1, 3), (2, 4), (3, 6)], 0⟩),
 (9, ⟨.string, 1, 16, K9, [], 0⟩),
 (10, ⟨.string, 1, 16, K10, [], 0⟩),
 (11, ⟨.string, 1, 16, K11, [], 0⟩),
 (12, ⟨.int .u64, 1, 8, K12, [], 0⟩),
 (21, ⟨.int .i32, 1, 4, K21, [], 0⟩),
 (22, ⟨.slice, 1, 24, K22, [], 73⟩),
 (23, ⟨.slice, 1, 24, K23, [], 108⟩),
 (24, ⟨.slice, 1, 24, K24, [], 90⟩),
 (25, ⟨.struct, 3, 72, K25, [(0, 22), (1, 23), (2, 24)], 0⟩),
 (26, ⟨.struct, 3, 72, K26, [(0, 22), (1, 23), (2, 24)], 0⟩),
 (28, ⟨.other, 1, 8, K28, [], 0⟩),
 (29, ⟨.other, 1, 8, K29, [], 0⟩),
 (30, ⟨.other, 1, 8, K30, [], 0⟩),
 (31, ⟨.other, 1, 8, K31, [], 0⟩),
 (32, ⟨.slice, 1, 24, K32, [], 126⟩),
 (33, ⟨.slice, 1, 24, K33, [], 128⟩),
 (34, ⟨.slice, 1, 24, K34, [], 131⟩),
 (35, ⟨.struct, 3, 72, K35, [(0, 32), (1, 33), (2, 34)], 0⟩),
 (36, ⟨.struct, 3, 72, K36, [(0, 32), (1, 33), (2, 34)], 0⟩),
 (37, ⟨.slice, 1, 24, K37, [], 136⟩),
 (38, ⟨.slice, 1, 24, K38, [], 149⟩),
 (39, ⟨.struct, 2, 48, K39, [(0, 37), (1, 38)], 0⟩),
 (40, ⟨.struct, 2, 48, K40, [(0, 37), (1, 38)], 0⟩),
 (41, ⟨.other, 1, 8, K41, [], 0⟩),
 (42, ⟨.other, 1, 8, K42, [], 0⟩),
 (43, ⟨.slice, 1, 24, K43, [], 3⟩),
 (44, ⟨.other, 1, 8, K44, [], 0⟩),
 (45, ⟨.other, 1, 8, K45, [], 0⟩),
 (46, ⟨.slice, 1, 24, K46, [], 139⟩),
 (47, ⟨.slice, 1, 24, K47, [], 143⟩),
 (48, ⟨.struct, 2, 48, K48, [(0, 46), (1, 47)], 0⟩),
 (49, ⟨.struct, 2, 48, K49, [(0, 46), (1, 47)], 0⟩),
 (50, ⟨.other, 1, 8, K50, [], 0⟩),
 (51, ⟨.other, 1, 8, K51, [], 0⟩),
 (52, ⟨.other, 1, 8, K52, [], 0⟩),
 (53, ⟨.other, 1, 8, K53, [], 0⟩),
 (54, ⟨.other, 1, 8, K54, [], 0⟩),
 (55, ⟨.other, 1, 8, K55, [], 0⟩),
 (56, ⟨.other, 1, 8, K56, [], 0⟩),
 (57, ⟨.other, 1, 8, K57, [], 0⟩),
 (58, ⟨.other, 1, 8, K58, [], 0⟩),
 (59, ⟨.other, 1, 8, K59, [], 0⟩),
 (60, ⟨.other, 1, 8, K60, [], 0⟩),
 (61, ⟨.other, 1, 8, K61, [], 0⟩),
 (62, ⟨.other, 1, 8, K62, [], 0⟩),
 (63, ⟨.other, 1, 8, K63, [], 0⟩),
 (64, ⟨.struct, 2, 32, K64, [(0, 43), (1, 3)], 0⟩),
 (65, ⟨.struct, 2, 32, K65, [(0, 43), (1, 3)], 0⟩),
 (66, ⟨.slice, 1, 24, K66, [], 49⟩),
 (67, ⟨.struct, 3, 40, K67, [(0, 3), (1, 3), (2, 66)], 0⟩),
 (68, ⟨.struct, 3, 40, K68, [(0, 3), (1, 3), (2, 66)], 0⟩),
 (69, ⟨.slice, 1, 24, K69, [], 43⟩),
 (70, ⟨.slice, 1, 24, K70, [], 163⟩),
 (71, ⟨.slice, 1, 24, K71, [], 171⟩),
 (72, ⟨.struct, 19, 296, K72, [(0, 3), (1, 3), (2, 49), (4, 65), (6, 68), (9, 43), (10, 43), (11, 69), (12, 3), (13, 3), (14, 70), (15, 3), (16, 3), (17, 3), (18, 71)], 0⟩),
 (73, ⟨.struct, 19, 296, K73, [(0, 3), (1, 3), (2, 49), (4, 65), (6, 68), (9, 43), (10, 43), (11, 69), (12, 3), (13, 3), (14, 70), (15, 3), (16, 3), (17, 3), (18, 71)], 0⟩),
 (75, ⟨.other, 1, 8, K75, [], 0⟩),
 (76, ⟨.other, 1, 8, K76, [], 0⟩),
 (77, ⟨.other, 1, 8, K77, [], 0⟩),
 (78, ⟨.other, 1, 8, K78, [], 0⟩),
 (79, ⟨.other, 1, 8, K79, [], 0⟩),
 (80, ⟨.other, 1, 8, K80, [], 0⟩),
 (81, ⟨.other, 1, 8, K81, [], 0⟩),
 (82, ⟨.other, 1, 8, K82, [], 0⟩),
 (83, ⟨.other, 1, 8, K83, [], 0⟩),
 (84, ⟨.other, 1, 8, K84, [], 0⟩),
 (85, ⟨.other, 1, 8, K85, [], 0⟩),
 (86, ⟨.other, 1, 8, K86, [], 0⟩),
 (87, ⟨.other, 1, 8, K87, [], 0⟩),
 (88, ⟨.other, 1, 8, K88, [], 0⟩),
 (89, ⟨.struct, 3, 56, K89, [(0, 3), (1, 49)], 0⟩),
 (90, ⟨.struct, 3, 56, K90, [(0, 3), (1, 49)], 0⟩),
 (91, ⟨.other, 1, 8, K91, [], 0⟩),
 (92, ⟨.other, 1, 8, K92, [], 0⟩),
 (93, ⟨.other, 1, 8, K93, [], 0⟩),
 (94, ⟨.other, 1, 8, K94, [], 0⟩),
 (95, ⟨.other, 1, 8, K95, [], 0⟩),
 (96, ⟨.other, 1, 8, K96, [], 0⟩),
 (97, ⟨.other, 1, 8, K97, [], 0⟩),
 (98, ⟨.other, 1, 8, K98, [], 0⟩),
 (99, ⟨.other, 1, 8, K99, [], 0⟩),
 (100, ⟨.other, 1, 8, K100, [], 0⟩),
 (101, ⟨.other, 1, 8, K101, [], 0⟩),
 (102, ⟨.other, 1, 8, K102, [], 0⟩),
 (103, ⟨.other, 1, 8, K103, [], 0⟩),
 (104, ⟨.other, 1, 8, K104, [], 0⟩),
 (105, ⟨.other, 1, 8, K105, [], 0⟩),
 (106, ⟨.slice, 1, 24, K106, [], 5⟩),
 (107, ⟨.struct, 3, 40, K107, [(0, 3), (1, 106), (2, 4)], 0⟩),
 (108, ⟨.struct, 3, 40, K108, [(0, 3), (1, 106), (2, 4)], 0⟩),
 (109, ⟨.other, 1, 8, K109, [], 0⟩),
 (110, ⟨.other, 1, 8, K110, [], 0⟩),
 (111, ⟨.other, 1, 8, K111, [], 0⟩),
 (112, ⟨.other, 1, 8, K112, [], 0⟩),
 (113, ⟨.other, 1, 8, K113, [], 0⟩),
 (114, ⟨.other, 1, 8, K114, [], 0⟩),
 (115, ⟨.other, 1, 8, K115, [], 0⟩),
 (116, ⟨.other, 1, 8, K116, [], 0⟩),
 (117, ⟨.other, 1, 8, K117, [], 0⟩),
 (118, ⟨.other, 1, 8, K118, [], 0⟩),
 (119, ⟨.struct, 2, 32, K119, [(0, 43), (1, 3)], 0⟩),
 (120, ⟨.slice, 1, 24, K120, [], 40⟩),
 (121, ⟨.struct, 3, 40, K121, [(0, 3), (1, 3), (2, 120)], 0⟩),
 (122, ⟨.struct, 3, 40, K122, [(0, 3), (1, 3), (2, 120)], 0⟩),
 (123, ⟨.slice, 1, 24, K123, [], 206⟩),
 (124, ⟨.slice, 1, 24, K124, [], 208⟩),
 (125, ⟨.struct, 19, 296, K125, [(0, 3), (1, 3), (2, 40), (4, 119), (6, 122), (9, 43), (10, 43), (11, 69), (12, 3), (13, 3), (14, 123), (15, 3), (16, 3), (17, 3), (18, 124)], 0⟩),
 (126, ⟨.struct, 19, 296, K126, [(0, 3), (1, 3), (2, 40), (4, 119), (6, 122), (9, 43), (10, 43), (11, 69), (12, 3), (13, 3), (14, 123), (15, 3), (16, 3), (17, 3), (18, 124)], 0⟩),
 (127, ⟨.other, 1, 8, K127, [], 0⟩),
 (128, ⟨.struct, 3, 40, K128, [(0, 3), (1, 106), (2, 4)], 0⟩),
 (129, ⟨.other, 1, 8, K129, [], 0⟩),
 (130, ⟨.struct, 3, 56, K130, [(0, 3), (1, 40)], 0⟩),
 (131, ⟨.struct, 3, 56, K131, [(0, 3), (1, 40)], 0⟩),
 (132, ⟨.other, 1, 8, K132, [], 0⟩),
 (133, ⟨.struct, 5, 48, K133, [(0, 3), (1, 3), (2, 3), (3, 3), (4, 9)], 0⟩),
 (134, ⟨.struct, 5, 48, K134, [(0, 3), (1, 3), (2, 3), (3, 3), (4, 9)], 0⟩),
 (135, ⟨.struct, 6, 56, K135, [(0, 3), (1, 134)], 0⟩),
 (136, ⟨.struct, 6, 56, K136, [(0, 3), (1, 134)], 0⟩),
 (137, ⟨.struct, 5, 48, K137, [(0, 3), (1, 3), (2, 3), (3, 3), (4, 9)], 0⟩),
 (138, ⟨.struct, 6, 56, K138, [(0, 3), (1, 137)], 0⟩),
 (139, ⟨.struct, 6, 56, K139, [(0, 3), (1, 137)], 0⟩),
 (140, ⟨.other, 1, 8, K140, [], 0⟩),
 (141, ⟨.other, 1, 8, K141, [], 0⟩),
 (142, ⟨.struct, 2, 16, K142, [(0, 3), (1, 3)], 0⟩),
 (143, ⟨.struct, 2, 16, K143, [(0, 3), (1, 3)], 0⟩),
 (144, ⟨.other, 1, 8, K144, [], 0⟩),
 (145, ⟨.other, 1, 8, K145, [], 0⟩),
 (146, ⟨.other, 1, 8, K146, [], 0⟩),
 (147, ⟨.other, 1, 8, K147, [], 0⟩),
 (148, ⟨.other, 1, 8, K148, [], 0⟩),
 (149, ⟨.struct, 2, 16, K149, [(0, 3), (1, 3)], 0⟩),
 (151, ⟨.other, 1, 8, K151, [], 0⟩),
 (152, ⟨.other, 1, 8, K152, [], 0⟩),
 (153, ⟨.other, 1, 8, K153, [], 0⟩),
 (154, ⟨.other, 1, 8, K154, [], 0⟩),
 (155, ⟨.other, 1, 8, K155, [], 0⟩),
 (157, ⟨.other, 1, 8, K157, [], 0⟩),
 (158, ⟨.other, 1, 8, K158, [], 0⟩),
 (159, ⟨.other, 1, 8, K159, [], 0⟩),
 (160, ⟨.other, 1, 8, K160, [], 0⟩),
 (161, ⟨.other, 1, 8, K161, [], 0⟩),
 (162, ⟨.struct, 4, 32, K162, [(0, 3), (1, 3), (2, 4), (3, 3)], 0⟩),
 (163, ⟨.struct, 4, 32, K163, [(0, 3), (1, 3), (2, 4), (3, 3)], 0⟩),
 (164, ⟨.other, 1, 8, K164, [], 0⟩),
 (165, ⟨.other, 1, 8, K165, [], 0⟩),
 (166, ⟨.other, 1, 8, K166, [], 0⟩),
 (167, ⟨.other, 1, 8, K167, [], 0⟩),
 (168, ⟨.other, 1, 8, K168, [], 0⟩),
 (169, ⟨.other, 1, 8, K169, [], 0⟩),
 (170, ⟨.struct, 3, 24, K170, [(0, 3), (1, 3), (2, 3)], 0⟩),
 (171, ⟨.struct, 3, 24, K171, [(0, 3), (1, 3), (2, 3)], 0⟩),
 (172, ⟨.other, 1, 8, K172, [], 0⟩),
 (173, ⟨.other, 1, 8, K173, [], 0⟩),
 (174, ⟨.other, 1, 8, K174, [], 0⟩),
 (175, ⟨.other, 1, 8, K175, [], 0⟩),
 (176, ⟨.other, 1, 8, K176, [], 0⟩),
 (177, ⟨.other, 1, 8, K177, [], 0⟩),
 (178, ⟨.other, 1, 8, K178, [], 0⟩),
 (179, ⟨.other, 1, 8, K179, [], 0⟩),
 (180, ⟨.other, 1, 8, K180, [], 0⟩),
 (181, ⟨.other, 1, 8, K181, [], 0⟩),
 (182, ⟨.other, 1, 8, K182, [], 0⟩),
 (183, ⟨.other, 1, 8, K183, [], 0⟩),
 (184, ⟨.other, 1, 8, K184, [], 0⟩),
 (185, ⟨.other, 1, 8, K185, [], 0⟩),
 (186, ⟨.other, 1, 8, K186, [], 0⟩),
 (187, ⟨.other, 1, 8, K187, [], 0⟩),
 (188, ⟨.other, 1, 8, K188, [], 0⟩),
 (189, ⟨.other, 1, 8, K189, [], 0⟩),
 (190, ⟨.other, 1, 8, K190, [], 0⟩),
 (191, ⟨.other, 1, 8, K191, [], 0⟩),
 (192, ⟨.other, 1, 8, K192, [], 0⟩),
 (193, ⟨.other, 1, 8, K193, [], 0⟩),
 (194, ⟨.other, 1, 8, K194, [], 0⟩),
 (195, ⟨.other, 1, 8, K195, [], 0⟩),
 (196, ⟨.other, 1, 8, K196, [], 0⟩),
 (197, ⟨.other, 1, 8, K197, [], 0⟩),
 (198, ⟨.other, 1, 8, K198, [], 0⟩),
 (199, ⟨.other, 1, 8, K199, [], 0⟩),
 (200, ⟨.other, 1, 8, K200, [], 0⟩),
 (201, ⟨.other, 1, 8, K201, [], 0⟩),
 (202, ⟨.other, 1, 8, K202, [], 0⟩),
 (203, ⟨.other, 1, 8, K203, [], 0⟩),
 (204, ⟨.other, 1, 8, K204, [], 0⟩),
 (205, ⟨.other, 1, 8, K205, [], 0⟩),
 (206, ⟨.struct, 4, 32, K206, [(0, 3), (1, 3), (2, 4), (3, 3)], 0⟩),
 (207, ⟨.other, 1, 8, K207, [], 0⟩),
 (208, ⟨.struct, 3, 24, K208, [(0, 3), (1, 3), (2, 3)], 0⟩),
 (209, ⟨.other, 1, 8, K209, [], 0⟩),
 (210, ⟨.other, 1, 8, K210, [], 0⟩),
 (211, ⟨.slice, 1, 24, K211, [], 106⟩),
 (212, ⟨.other, 1, 8, K212, [], 0⟩),
 (213, ⟨.other, 1, 8, K213, [], 0⟩),
 (214, ⟨.other, 1, 8, K214, [], 0⟩),
 (220, ⟨.other, 1, 8, K220, [], 0⟩),
 (221, ⟨.int .u32, 1, 4, K221, [], 0⟩),
 (222, ⟨.int .u8, 1, 1, K222, [], 0⟩),
 (223, ⟨.int .u8, 1, 1, K223, [], 0⟩),
 (224, ⟨.other, 1, 8, K224, [], 0⟩),
 (225, ⟨.ptr, 1, 8, [], [], 5⟩),
 (226, ⟨.int .i32, 1, 4, K226, [], 0⟩),
 (227, ⟨.int .i32, 1, 4, K227, [], 0⟩)]
def ti : Ti := fun t => look? t tyTab
end Go.Abs.Gz
