/- What the functions of this program answer, part z. -/
import Derived.Test.YthgbmlfjiagadaaGreatW0
import Derived.Test.YthgbmlfjiagadaaGreatProg
/- The types of the seat, as its translation has them: by a program. -/
namespace Go.Abs.Tz
def K1 : List Kd := [.fn]
def K2 : List Kd := [.int .i64]
def K3 : List Kd := [.int .i64]
def K4 : List Kd := [.bool]
def K5 : List Kd := [.int .u8]
def K6 : List Kd := [.int .u8]
def K7 : List Kd := [.int .i64, .int .i64, .bool, .int .u8]
def K8 : List Kd := [.int .i64, .int .i64, .bool, .int .u8]
def K9 : List Kd := [.str]
def K10 : List Kd := [.str]
def K11 : List Kd := [.str]
def K12 : List Kd := [.int .u64]
def K13 : List Kd := [.str, .int .u64]
def K14 : List Kd := [.str, .int .u64]
def K21 : List Kd := [.int .i32]
def K22 : List Kd := [.sl K5]
def K23 : List Kd := [.fn]
def K81 : List Kd := [.int .i64, .int .i64, .int .i64, .int .i64, .str]
def K83 : List Kd := [.int .i64, .int .i64, .int .i64, .int .i64, .int .i64, .str]
def K52 : List Kd := [.sl K83]
def K106 : List Kd := [.int .i64, .int .i64]
def K53 : List Kd := [.sl K106]
def K55 : List Kd := [.sl K83, .sl K106]
def K41 : List Kd := [.sl K3]
def K57 : List Kd := [.sl K3, .int .i64]
def K58 : List Kd := [.sl K55]
def K60 : List Kd := [.int .i64, .int .i64, .sl K55]
def K61 : List Kd := [.sl K41]
def K102 : List Kd := [.int .i64, .int .i64, .bool, .int .i64]
def K62 : List Kd := [.sl K102]
def K104 : List Kd := [.int .i64, .int .i64, .int .i64]
def K63 : List Kd := [.sl K104]
def K65 : List Kd := [.int .i64, .int .i64, .sl K83, .sl K106, .sl K3, .int .i64, .int .i64, .int .i64, .sl K55, .sl K3, .sl K3, .sl K41, .int .i64, .int .i64, .sl K102, .int .i64, .int .i64, .int .i64, .sl K104]
def K24 : List Kd := [.sl K65]
def K67 : List Kd := [.int .i64, .sl K5, .bool]
def K25 : List Kd := [.sl K67]
def K69 : List Kd := [.int .i64, .sl K83, .sl K106]
def K26 : List Kd := [.sl K69]
def K27 : List Kd := [.sl K65, .sl K67, .sl K69]
def K28 : List Kd := [.sl K65, .sl K67, .sl K69]
def K29 : List Kd := [.fn]
def K30 : List Kd := [.fn]
def K31 : List Kd := [.fn]
def K32 : List Kd := [.fn]
def K262 : List Kd := [.int .i64, .int .i64, .int .i64, .int .i64, .str]
def K264 : List Kd := [.int .i64, .int .i64, .int .i64, .int .i64, .int .i64, .str]
def K134 : List Kd := [.sl K264]
def K267 : List Kd := [.int .i64, .int .i64]
def K135 : List Kd := [.sl K267]
def K137 : List Kd := [.sl K264, .sl K267]
def K138 : List Kd := [.sl K3, .int .i64]
def K139 : List Kd := [.sl K137]
def K141 : List Kd := [.int .i64, .int .i64, .sl K137]
def K239 : List Kd := [.int .i64, .int .i64, .bool, .int .i64]
def K142 : List Kd := [.sl K239]
def K241 : List Kd := [.int .i64, .int .i64, .int .i64]
def K143 : List Kd := [.sl K241]
def K145 : List Kd := [.int .i64, .int .i64, .sl K264, .sl K267, .sl K3, .int .i64, .int .i64, .int .i64, .sl K137, .sl K3, .sl K3, .sl K41, .int .i64, .int .i64, .sl K239, .int .i64, .int .i64, .int .i64, .sl K241]
def K33 : List Kd := [.sl K145]
def K147 : List Kd := [.int .i64, .sl K5, .bool]
def K34 : List Kd := [.sl K147]
def K150 : List Kd := [.int .i64, .sl K264, .sl K267]
def K35 : List Kd := [.sl K150]
def K36 : List Kd := [.sl K145, .sl K147, .sl K150]
def K37 : List Kd := [.sl K145, .sl K147, .sl K150]
def K38 : List Kd := [.fn]
def K39 : List Kd := [.fn]
def K40 : List Kd := [.fn]
def K42 : List Kd := [.fn]
def K43 : List Kd := [.fn]
def K44 : List Kd := [.fn]
def K45 : List Kd := [.fn]
def K46 : List Kd := [.fn]
def K48 : List Kd := [.fn]
def K49 : List Kd := [.fn]
def K50 : List Kd := [.fn]
def K51 : List Kd := [.fn]
def K54 : List Kd := [.sl K83, .sl K106]
def K56 : List Kd := [.sl K3, .int .i64]
def K59 : List Kd := [.int .i64, .int .i64, .sl K55]
def K64 : List Kd := [.int .i64, .int .i64, .sl K83, .sl K106, .sl K3, .int .i64, .int .i64, .int .i64, .sl K55, .sl K3, .sl K3, .sl K41, .int .i64, .int .i64, .sl K102, .int .i64, .int .i64, .int .i64, .sl K104]
def K66 : List Kd := [.int .i64, .sl K5, .bool]
def K68 : List Kd := [.int .i64, .sl K83, .sl K106]
def K70 : List Kd := [.fn]
def K72 : List Kd := [.fn]
def K73 : List Kd := [.fn]
def K74 : List Kd := [.fn]
def K75 : List Kd := [.fn]
def K76 : List Kd := [.fn]
def K77 : List Kd := [.fn]
def K78 : List Kd := [.fn]
def K79 : List Kd := [.fn]
def K80 : List Kd := [.int .i64, .int .i64, .int .i64, .int .i64, .str]
def K82 : List Kd := [.int .i64, .int .i64, .int .i64, .int .i64, .int .i64, .str]
def K84 : List Kd := [.fn]
def K85 : List Kd := [.fn]
def K86 : List Kd := [.fn]
def K87 : List Kd := [.fn]
def K88 : List Kd := [.fn]
def K89 : List Kd := [.fn]
def K90 : List Kd := [.fn]
def K91 : List Kd := [.fn]
def K92 : List Kd := [.fn]
def K93 : List Kd := [.fn]
def K94 : List Kd := [.fn]
def K95 : List Kd := [.fn]
def K96 : List Kd := [.sl K5, .int .i64, .int .i64]
def K97 : List Kd := [.sl K5, .int .i64, .int .i64]
def K98 : List Kd := [.fn]
def K99 : List Kd := [.fn]
def K100 : List Kd := [.fn]
def K101 : List Kd := [.int .i64, .int .i64, .bool, .int .i64]
def K103 : List Kd := [.int .i64, .int .i64, .int .i64]
def K105 : List Kd := [.int .i64, .int .i64]
def K107 : List Kd := [.fn]
def K248 : List Kd := [.int .i64, .int .i64]
def K108 : List Kd := [.sl K248]
def K109 : List Kd := [.int .i64, .int .i64, .int .i64, .int .i64, .int .i64, .sl K3, .int .i64, .sl K3, .sl K3, .sl K83, .sl K106, .sl K248]
def K110 : List Kd := [.int .i64, .int .i64, .int .i64, .int .i64, .int .i64, .sl K3, .int .i64, .sl K3, .sl K3, .sl K83, .sl K106, .sl K248]
def K112 : List Kd := [.fn]
def K113 : List Kd := [.sl K110]
def K115 : List Kd := [.fn]
def K116 : List Kd := [.fn]
def K117 : List Kd := [.fn]
def K118 : List Kd := [.fn]
def K119 : List Kd := [.fn]
def K120 : List Kd := [.fn]
def K121 : List Kd := [.fn]
def K122 : List Kd := [.fn]
def K123 : List Kd := [.fn]
def K124 : List Kd := [.fn]
def K125 : List Kd := [.fn]
def K126 : List Kd := [.fn]
def K127 : List Kd := [.fn]
def K128 : List Kd := [.fn]
def K130 : List Kd := [.fn]
def K132 : List Kd := [.fn]
def K133 : List Kd := [.fn]
def K136 : List Kd := [.sl K264, .sl K267]
def K140 : List Kd := [.int .i64, .int .i64, .sl K137]
def K144 : List Kd := [.int .i64, .int .i64, .sl K264, .sl K267, .sl K3, .int .i64, .int .i64, .int .i64, .sl K137, .sl K3, .sl K3, .sl K41, .int .i64, .int .i64, .sl K239, .int .i64, .int .i64, .int .i64, .sl K241]
def K146 : List Kd := [.fn]
def K148 : List Kd := [.fn]
def K149 : List Kd := [.int .i64, .sl K264, .sl K267]
def K151 : List Kd := [.fn]
def K152 : List Kd := [.fn]
def K153 : List Kd := [.fn]
def K154 : List Kd := [.fn]
def K155 : List Kd := [.fn]
def K203 : List Kd := [.int .i64, .int .i64, .int .i64, .int .i64, .str]
def K156 : List Kd := [.sl K203]
def K158 : List Kd := [.fn]
def K159 : List Kd := [.fn]
def K160 : List Kd := [.fn]
def K161 : List Kd := [.fn]
def K162 : List Kd := [.fn]
def K163 : List Kd := [.fn]
def K164 : List Kd := [.fn]
def K166 : List Kd := [.fn]
def K167 : List Kd := [.fn]
def K168 : List Kd := [.fn]
def K169 : List Kd := [.fn]
def K170 : List Kd := [.fn]
def K171 : List Kd := [.fn]
def K172 : List Kd := [.fn]
def K173 : List Kd := [.fn]
def K174 : List Kd := [.fn]
def K175 : List Kd := [.fn]
def K176 : List Kd := [.fn]
def K177 : List Kd := [.fn]
def K178 : List Kd := [.fn]
def K179 : List Kd := [.fn]
def K180 : List Kd := [.fn]
def K181 : List Kd := [.fn]
def K182 : List Kd := [.fn]
def K183 : List Kd := [.fn]
def K184 : List Kd := [.fn]
def K185 : List Kd := [.fn]
def K186 : List Kd := [.fn]
def K187 : List Kd := [.fn]
def K188 : List Kd := [.fn]
def K189 : List Kd := [.fn]
def K190 : List Kd := [.fn]
def K191 : List Kd := [.fn]
def K192 : List Kd := [.fn]
def K193 : List Kd := [.fn]
def K194 : List Kd := [.fn]
def K195 : List Kd := [.fn]
def K196 : List Kd := [.fn]
def K197 : List Kd := [.fn]
def K198 : List Kd := [.fn]
def K199 : List Kd := [.fn]
def K200 : List Kd := [.fn]
def K201 : List Kd := [.fn]
def K202 : List Kd := [.int .i64, .int .i64, .int .i64, .int .i64, .str]
def K204 : List Kd := [.fn]
def K206 : List Kd := [.fn]
def K207 : List Kd := [.int .u64]
def K209 : List Kd := [.fn]
def K210 : List Kd := [.fn]
def K211 : List Kd := [.fn]
def K212 : List Kd := [.fn]
def K214 : List Kd := [.fn]
def K215 : List Kd := [.fn]
def K216 : List Kd := [.sl K9]
def K217 : List Kd := [.fn]
def K218 : List Kd := [.fn]
def K219 : List Kd := [.fn]
def K220 : List Kd := [.fn]
def K221 : List Kd := [.fn]
def K222 : List Kd := [.fn]
def K223 : List Kd := [.fn]
def K224 : List Kd := [.fn]
def K225 : List Kd := [.fn]
def K226 : List Kd := [.fn]
def K227 : List Kd := [.fn]
def K228 : List Kd := [.fn]
def K229 : List Kd := [.fn]
def K230 : List Kd := [.fn]
def K231 : List Kd := [.fn]
def K232 : List Kd := [.fn]
def K233 : List Kd := [.fn]
def K234 : List Kd := [.fn]
def K235 : List Kd := [.fn]
def K236 : List Kd := [.fn]
def K237 : List Kd := [.fn]
def K238 : List Kd := [.fn]
def K240 : List Kd := [.fn]
def K242 : List Kd := [.fn]
def K243 : List Kd := [.fn]
def K244 : List Kd := [.fn]
def K245 : List Kd := [.fn]
def K246 : List Kd := [.fn]
def K247 : List Kd := [.fn]
def K250 : List Kd := [.fn]
def K252 : List Kd := [.fn]
def K253 : List Kd := [.fn]
def K254 : List Kd := [.fn]
def K255 : List Kd := [.sl K22]
def K256 : List Kd := [.fn]
def K257 : List Kd := [.fn]
def K258 : List Kd := [.fn]
def K259 : List Kd := [.fn]
def K260 : List Kd := [.fn]
def K261 : List Kd := [.fn]
def K263 : List Kd := [.int .i64, .int .i64, .int .i64, .int .i64, .int .i64, .str]
def K265 : List Kd := [.fn]
def K266 : List Kd := [.fn]
def K268 : List Kd := [.fn]
def K269 : List Kd := [.fn]
def K271 : List Kd := [.fn]
def K272 : List Kd := [.fn]
def K273 : List Kd := [.fn]
def K274 : List Kd := [.fn]
def K275 : List Kd := [.fn]
def K276 : List Kd := [.fn]
def K277 : List Kd := [.fn]
def K278 : List Kd := [.fn]
def K279 : List Kd := [.fn]
def K280 : List Kd := [.fn]
def K282 : List Kd := [.fn]
def K283 : List Kd := [.fn]
def K284 : List Kd := [.fn]
def K286 : List Kd := [.fn]
def K288 : List Kd := [.fn]
def K290 : List Kd := [.sl K5, .int .i64, .bool]
def K291 : List Kd := [.sl K5, .int .i64, .bool]
def K292 : List Kd := [.fn]
def K293 : List Kd := [.fn]
def K294 : List Kd := [.fn]
def K296 : List Kd := [.fn]
def K298 : List Kd := [.fn]
def K299 : List Kd := [.fn]
def K305 : List Kd := [.fn]
def K306 : List Kd := [.int .u32]
def K307 : List Kd := [.int .u8]
def K308 : List Kd := [.int .u8]
def K309 : List Kd := [.fn]
def K311 : List Kd := [.int .i32]
def K312 : List Kd := [.int .i32]
def tyTab : List (Nat × TyI) := [(1, ⟨.other, 1, 8, K1, [], 0⟩),
  (2, ⟨.int .i64, 1, 8, K2, [], 0⟩),
  (3, ⟨.int .i64, 1, 8, K3, [], 0⟩),
  (4, ⟨.bool, 1, 1, K4, [], 0⟩),
  (5, ⟨.int .u8, 1, 1, K5, [], 0⟩),
  (6, ⟨.int .u8, 1, 1, K6, [], 0⟩),
  (7, ⟨.struct, 4, 24, K7, [(0, 2), (1, 3), (2, 4), (3, 6)], 0⟩),
  (8, ⟨.struct, 4, 24, K8, [(0, 2), (1, 3), (2, 4), (3, 6)], 0⟩),
  (9, ⟨.string, 1, 16, K9, [], 0⟩),
  (10, ⟨.string, 1, 16, K10, [], 0⟩),
  (11, ⟨.string, 1, 16, K11, [], 0⟩),
  (12, ⟨.int .u64, 1, 8, K12, [], 0⟩),
  (21, ⟨.int .i32, 1, 4, K21, [], 0⟩),
  (22, ⟨.slice, 1, 24, K22, [], 5⟩),
  (23, ⟨.other, 1, 8, K23, [], 0⟩),
  (24, ⟨.slice, 1, 24, K24, [], 65⟩),
  (25, ⟨.slice, 1, 24, K25, [], 67⟩),
  (26, ⟨.slice, 1, 24, K26, [], 69⟩),
  (27, ⟨.struct, 3, 72, K27, [(0, 24), (1, 25), (2, 26)], 0⟩),
  (28, ⟨.struct, 3, 72, K28, [(0, 24), (1, 25), (2, 26)], 0⟩),
  (29, ⟨.other, 1, 8, K29, [], 0⟩),
  (30, ⟨.other, 1, 8, K30, [], 0⟩),
  (31, ⟨.other, 1, 8, K31, [], 0⟩),
  (32, ⟨.other, 1, 8, K32, [], 0⟩),
  (33, ⟨.slice, 1, 24, K33, [], 145⟩),
  (34, ⟨.slice, 1, 24, K34, [], 147⟩),
  (35, ⟨.slice, 1, 24, K35, [], 150⟩),
  (36, ⟨.struct, 3, 72, K36, [(0, 33), (1, 34), (2, 35)], 0⟩),
  (37, ⟨.struct, 3, 72, K37, [(0, 33), (1, 34), (2, 35)], 0⟩),
  (38, ⟨.other, 1, 8, K38, [], 0⟩),
  (39, ⟨.other, 1, 8, K39, [], 0⟩),
  (40, ⟨.other, 1, 8, K40, [], 0⟩),
  (41, ⟨.slice, 1, 24, K41, [], 3⟩),
  (42, ⟨.other, 1, 8, K42, [], 0⟩),
  (43, ⟨.other, 1, 8, K43, [], 0⟩),
  (44, ⟨.other, 1, 8, K44, [], 0⟩),
  (45, ⟨.other, 1, 8, K45, [], 0⟩),
  (46, ⟨.other, 1, 8, K46, [], 0⟩),
  (47, ⟨.ptr, 1, 8, [], [], 97⟩),
  (48, ⟨.other, 1, 8, K48, [], 0⟩),
  (49, ⟨.other, 1, 8, K49, [], 0⟩),
  (50, ⟨.other, 1, 8, K50, [], 0⟩),
  (51, ⟨.other, 1, 8, K51, [], 0⟩),
  (52, ⟨.slice, 1, 24, K52, [], 83⟩),
  (53, ⟨.slice, 1, 24, K53, [], 106⟩),
  (54, ⟨.struct, 2, 48, K54, [(0, 52), (1, 53)], 0⟩),
  (55, ⟨.struct, 2, 48, K55, [(0, 52), (1, 53)], 0⟩),
  (56, ⟨.struct, 2, 32, K56, [(0, 41), (1, 3)], 0⟩),
  (57, ⟨.struct, 2, 32, K57, [(0, 41), (1, 3)], 0⟩),
  (58, ⟨.slice, 1, 24, K58, [], 55⟩),
  (59, ⟨.struct, 3, 40, K59, [(0, 3), (1, 3), (2, 58)], 0⟩),
  (60, ⟨.struct, 3, 40, K60, [(0, 3), (1, 3), (2, 58)], 0⟩),
  (61, ⟨.slice, 1, 24, K61, [], 41⟩),
  (62, ⟨.slice, 1, 24, K62, [], 102⟩),
  (63, ⟨.slice, 1, 24, K63, [], 104⟩),
  (64, ⟨.struct, 19, 296, K64, [(0, 3), (1, 3), (2, 55), (4, 57), (6, 60), (9, 41), (10, 41), (11, 61), (12, 3), (13, 3), (14, 62), (15, 3), (16, 3), (17, 3), (18, 63)], 0⟩),
  (65, ⟨.struct, 19, 296, K65, [(0, 3), (1, 3), (2, 55), (4, 57), (6, 60), (9, 41), (10, 41), (11, 61), (12, 3), (13, 3), (14, 62), (15, 3), (16, 3), (17, 3), (18, 63)], 0⟩),
  (66, ⟨.struct, 3, 40, K66, [(0, 3), (1, 22), (2, 4)], 0⟩),
  (67, ⟨.struct, 3, 40, K67, [(0, 3), (1, 22), (2, 4)], 0⟩),
  (68, ⟨.struct, 3, 56, K68, [(0, 3), (1, 55)], 0⟩),
  (69, ⟨.struct, 3, 56, K69, [(0, 3), (1, 55)], 0⟩),
  (70, ⟨.other, 1, 8, K70, [], 0⟩),
  (72, ⟨.other, 1, 8, K72, [], 0⟩),
  (73, ⟨.other, 1, 8, K73, [], 0⟩),
  (74, ⟨.other, 1, 8, K74, [], 0⟩),
  (75, ⟨.other, 1, 8, K75, [], 0⟩),
  (76, ⟨.other, 1, 8, K76, [], 0⟩),
  (77, ⟨.other, 1, 8, K77, [], 0⟩),
  (78, ⟨.other, 1, 8, K78, [], 0⟩),
  (79, ⟨.other, 1, 8, K79, [], 0⟩),
  (80, ⟨.struct, 5, 48, K80, [(0, 3), (1, 3), (2, 3), (3, 3), (4, 9)], 0⟩),
  (81, ⟨.struct, 5, 48, K81, [(0, 3), (1, 3), (2, 3), (3, 3), (4, 9)], 0⟩),
  (82, ⟨.struct, 6, 56, K82, [(0, 3), (1, 81)], 0⟩),
  (83, ⟨.struct, 6, 56, K83, [(0, 3), (1, 81)], 0⟩),
  (84, ⟨.other, 1, 8, K84, [], 0⟩),
  (85, ⟨.other, 1, 8, K85, [], 0⟩),
  (86, ⟨.other, 1, 8, K86, [], 0⟩),
  (87, ⟨.other, 1, 8, K87, [], 0⟩),
  (88, ⟨.other, 1, 8, K88, [], 0⟩),
  (89, ⟨.other, 1, 8, K89, [], 0⟩),
  (90, ⟨.other, 1, 8, K90, [], 0⟩),
  (91, ⟨.other, 1, 8, K91, [], 0⟩),
  (92, ⟨.other, 1, 8, K92, [], 0⟩),
  (93, ⟨.other, 1, 8, K93, [], 0⟩),
  (94, ⟨.other, 1, 8, K94, [], 0⟩),
  (95, ⟨.other, 1, 8, K95, [], 0⟩),
  (96, ⟨.struct, 3, 40, K96, [(0, 22), (1, 3), (2, 3)], 0⟩),
  (97, ⟨.struct, 3, 40, K97, [(0, 22), (1, 3), (2, 3)], 0⟩),
  (98, ⟨.other, 1, 8, K98, [], 0⟩),
  (99, ⟨.other, 1, 8, K99, [], 0⟩),
  (100, ⟨.other, 1, 8, K100, [], 0⟩),
  (101, ⟨.struct, 4, 32, K101, [(0, 3), (1, 3), (2, 4), (3, 3)], 0⟩),
  (102, ⟨.struct, 4, 32, K102, [(0, 3), (1, 3), (2, 4), (3, 3)], 0⟩),
  (103, ⟨.struct, 3, 24, K103, [(0, 3), (1, 3), (2, 3)], 0⟩),
  (104, ⟨.struct, 3, 24, K104, [(0, 3), (1, 3), (2, 3)], 0⟩),
  (105, ⟨.struct, 2, 16, K105, [(0, 3), (1, 3)], 0⟩),
  (106, ⟨.struct, 2, 16, K106, [(0, 3), (1, 3)], 0⟩),
  (107, ⟨.other, 1, 8, K107, [], 0⟩),
  (108, ⟨.slice, 1, 24, K108, [], 248⟩),
  (109, ⟨.struct, 12, 192, K109, [(0, 3), (1, 3), (2, 3), (3, 3), (4, 3), (5, 57), (7, 41), (8, 41), (9, 55), (11, 108)], 0⟩),
  (110, ⟨.struct, 12, 192, K110, [(0, 3), (1, 3), (2, 3), (3, 3), (4, 3), (5, 57), (7, 41), (8, 41), (9, 55), (11, 108)], 0⟩),
  (112, ⟨.other, 1, 8, K112, [], 0⟩),
  (113, ⟨.slice, 1, 24, K113, [], 110⟩),
  (115, ⟨.other, 1, 8, K115, [], 0⟩),
  (116, ⟨.other, 1, 8, K116, [], 0⟩),
  (117, ⟨.other, 1, 8, K117, [], 0⟩),
  (118, ⟨.other, 1, 8, K118, [], 0⟩),
  (119, ⟨.other, 1, 8, K119, [], 0⟩),
  (120, ⟨.other, 1, 8, K120, [], 0⟩),
  (121, ⟨.other, 1, 8, K121, [], 0⟩),
  (122, ⟨.other, 1, 8, K122, [], 0⟩),
  (123, ⟨.other, 1, 8, K123, [], 0⟩),
  (124, ⟨.other, 1, 8, K124, [], 0⟩),
  (125, ⟨.other, 1, 8, K125, [], 0⟩),
  (126, ⟨.other, 1, 8, K126, [], 0⟩),
  (127, ⟨.other, 1, 8, K127, [], 0⟩),
  (128, ⟨.other, 1, 8, K128, [], 0⟩),
  (130, ⟨.other, 1, 8, K130, [], 0⟩),
  (132, ⟨.other, 1, 8, K132, [], 0⟩),
  (133, ⟨.other, 1, 8, K133, [], 0⟩),
  (134, ⟨.slice, 1, 24, K134, [], 264⟩),
  (135, ⟨.slice, 1, 24, K135, [], 267⟩),
  (136, ⟨.struct, 2, 48, K136, [(0, 134), (1, 135)], 0⟩),
  (137, ⟨.struct, 2, 48, K137, [(0, 134), (1, 135)], 0⟩),
  (138, ⟨.struct, 2, 32, K138, [(0, 41), (1, 3)], 0⟩),
  (139, ⟨.slice, 1, 24, K139, [], 137⟩),
  (140, ⟨.struct, 3, 40, K140, [(0, 3), (1, 3), (2, 139)], 0⟩),
  (141, ⟨.struct, 3, 40, K141, [(0, 3), (1, 3), (2, 139)], 0⟩),
  (142, ⟨.slice, 1, 24, K142, [], 239⟩),
  (143, ⟨.slice, 1, 24, K143, [], 241⟩),
  (144, ⟨.struct, 19, 296, K144, [(0, 3), (1, 3), (2, 137), (4, 138), (6, 141), (9, 41), (10, 41), (11, 61), (12, 3), (13, 3), (14, 142), (15, 3), (16, 3), (17, 3), (18, 143)], 0⟩),
  (145, ⟨.struct, 19, 296, K145, [(0, 3), (1, 3), (2, 137), (4, 138), (6, 141), (9, 41), (10, 41), (11, 61), (12, 3), (13, 3), (14, 142), (15, 3), (16, 3), (17, 3), (18, 143)], 0⟩),
  (146, ⟨.other, 1, 8, K146, [], 0⟩),
  (147, ⟨.struct, 3, 40, K147, [(0, 3), (1, 22), (2, 4)], 0⟩),
  (148, ⟨.other, 1, 8, K148, [], 0⟩),
  (149, ⟨.struct, 3, 56, K149, [(0, 3), (1, 137)], 0⟩),
  (150, ⟨.struct, 3, 56, K150, [(0, 3), (1, 137)], 0⟩),
  (151, ⟨.other, 1, 8, K151, [], 0⟩),
  (152, ⟨.other, 1, 8, K152, [], 0⟩),
  (153, ⟨.other, 1, 8, K153, [], 0⟩),
  (154, ⟨.other, 1, 8, K154, [], 0⟩),
  (155, ⟨.other, 1, 8, K155, [], 0⟩),
  (156, ⟨.slice, 1, 24, K156, [], 203⟩),
  (158, ⟨.other, 1, 8, K158, [], 0⟩),
  (159, ⟨.other, 1, 8, K159, [], 0⟩),
  (160, ⟨.other, 1, 8, K160, [], 0⟩),
  (161, ⟨.other, 1, 8, K161, [], 0⟩),
  (162, ⟨.other, 1, 8, K162, [], 0⟩),
  (163, ⟨.other, 1, 8, K163, [], 0⟩),
  (164, ⟨.other, 1, 8, K164, [], 0⟩),
  (166, ⟨.other, 1, 8, K166, [], 0⟩),
  (167, ⟨.other, 1, 8, K167, [], 0⟩),
  (168, ⟨.other, 1, 8, K168, [], 0⟩),
  (169, ⟨.other, 1, 8, K169, [], 0⟩),
  (170, ⟨.other, 1, 8, K170, [], 0⟩),
  (171, ⟨.other, 1, 8, K171, [], 0⟩),
  (172, ⟨.other, 1, 8, K172, [], 0⟩),
  (173, ⟨.other, 1, 8, K173, [], 0⟩),
  (174, ⟨.other, 1, 8, K174, [], 0⟩),
  (175, ⟨.other, 1, 8, K175, [], 0⟩),
  (176, ⟨.other, 1, 8, K176, [], 0⟩),
  (177, ⟨.other, 1, 8, K177, [], 0⟩),
  (178, ⟨.other, 1, 8, K178, [], 0⟩),
  (179, ⟨.other, 1, 8, K179, [], 0⟩),
  (180, ⟨.other, 1, 8, K180, [], 0⟩),
  (181, ⟨.other, 1, 8, K181, [], 0⟩),
  (182, ⟨.other, 1, 8, K182, [], 0⟩),
  (183, ⟨.other, 1, 8, K183, [], 0⟩),
  (184, ⟨.other, 1, 8, K184, [], 0⟩),
  (185, ⟨.other, 1, 8, K185, [], 0⟩),
  (186, ⟨.other, 1, 8, K186, [], 0⟩),
  (187, ⟨.other, 1, 8, K187, [], 0⟩),
  (188, ⟨.other, 1, 8, K188, [], 0⟩),
  (189, ⟨.other, 1, 8, K189, [], 0⟩),
  (190, ⟨.other, 1, 8, K190, [], 0⟩),
  (191, ⟨.other, 1, 8, K191, [], 0⟩),
  (192, ⟨.other, 1, 8, K192, [], 0⟩),
  (193, ⟨.other, 1, 8, K193, [], 0⟩),
  (194, ⟨.other, 1, 8, K194, [], 0⟩),
  (195, ⟨.other, 1, 8, K195, [], 0⟩),
  (196, ⟨.other, 1, 8, K196, [], 0⟩),
  (197, ⟨.other, 1, 8, K197, [], 0⟩),
  (198, ⟨.other, 1, 8, K198, [], 0⟩),
  (199, ⟨.other, 1, 8, K199, [], 0⟩),
  (200, ⟨.other, 1, 8, K200, [], 0⟩),
  (201, ⟨.other, 1, 8, K201, [], 0⟩),
  (202, ⟨.struct, 5, 48, K202, [(0, 3), (1, 3), (2, 3), (3, 3), (4, 9)], 0⟩),
  (203, ⟨.struct, 5, 48, K203, [(0, 3), (1, 3), (2, 3), (3, 3), (4, 9)], 0⟩),
  (204, ⟨.other, 1, 8, K204, [], 0⟩),
  (206, ⟨.other, 1, 8, K206, [], 0⟩),
  (207, ⟨.int .u64, 1, 8, K207, [], 0⟩),
  (209, ⟨.other, 1, 8, K209, [], 0⟩),
  (210, ⟨.other, 1, 8, K210, [], 0⟩),
  (211, ⟨.other, 1, 8, K211, [], 0⟩),
  (212, ⟨.other, 1, 8, K212, [], 0⟩),
  (214, ⟨.other, 1, 8, K214, [], 0⟩),
  (215, ⟨.other, 1, 8, K215, [], 0⟩),
  (216, ⟨.slice, 1, 24, K216, [], 9⟩),
  (217, ⟨.other, 1, 8, K217, [], 0⟩),
  (218, ⟨.other, 1, 8, K218, [], 0⟩),
  (219, ⟨.other, 1, 8, K219, [], 0⟩),
  (220, ⟨.other, 1, 8, K220, [], 0⟩),
  (221, ⟨.other, 1, 8, K221, [], 0⟩),
  (222, ⟨.other, 1, 8, K222, [], 0⟩),
  (223, ⟨.other, 1, 8, K223, [], 0⟩),
  (224, ⟨.other, 1, 8, K224, [], 0⟩),
  (225, ⟨.other, 1, 8, K225, [], 0⟩),
  (226, ⟨.other, 1, 8, K226, [], 0⟩),
  (227, ⟨.other, 1, 8, K227, [], 0⟩),
  (228, ⟨.other, 1, 8, K228, [], 0⟩),
  (229, ⟨.other, 1, 8, K229, [], 0⟩),
  (230, ⟨.other, 1, 8, K230, [], 0⟩),
  (231, ⟨.other, 1, 8, K231, [], 0⟩),
  (232, ⟨.other, 1, 8, K232, [], 0⟩),
  (233, ⟨.other, 1, 8, K233, [], 0⟩),
  (234, ⟨.other, 1, 8, K234, [], 0⟩),
  (235, ⟨.other, 1, 8, K235, [], 0⟩),
  (236, ⟨.other, 1, 8, K236, [], 0⟩),
  (237, ⟨.other, 1, 8, K237, [], 0⟩),
  (238, ⟨.other, 1, 8, K238, [], 0⟩),
  (239, ⟨.struct, 4, 32, K239, [(0, 3), (1, 3), (2, 4), (3, 3)], 0⟩),
  (240, ⟨.other, 1, 8, K240, [], 0⟩),
  (241, ⟨.struct, 3, 24, K241, [(0, 3), (1, 3), (2, 3)], 0⟩),
  (242, ⟨.other, 1, 8, K242, [], 0⟩),
  (243, ⟨.other, 1, 8, K243, [], 0⟩),
  (244, ⟨.other, 1, 8, K244, [], 0⟩),
  (245, ⟨.other, 1, 8, K245, [], 0⟩),
  (246, ⟨.other, 1, 8, K246, [], 0⟩),
  (247, ⟨.other, 1, 8, K247, [], 0⟩),
  (248, ⟨.struct, 2, 16, K248, [(0, 3), (1, 3)], 0⟩),
  (250, ⟨.other, 1, 8, K250, [], 0⟩),
  (252, ⟨.other, 1, 8, K252, [], 0⟩),
  (253, ⟨.other, 1, 8, K253, [], 0⟩),
  (254, ⟨.other, 1, 8, K254, [], 0⟩),
  (255, ⟨.slice, 1, 24, K255, [], 22⟩),
  (256, ⟨.other, 1, 8, K256, [], 0⟩),
  (257, ⟨.other, 1, 8, K257, [], 0⟩),
  (258, ⟨.other, 1, 8, K258, [], 0⟩),
  (259, ⟨.other, 1, 8, K259, [], 0⟩),
  (260, ⟨.other, 1, 8, K260, [], 0⟩),
  (261, ⟨.other, 1, 8, K261, [], 0⟩),
  (262, ⟨.struct, 5, 48, K262, [(0, 3), (1, 3), (2, 3), (3, 3), (4, 9)], 0⟩),
  (263, ⟨.struct, 6, 56, K263, [(0, 3), (1, 262)], 0⟩),
  (264, ⟨.struct, 6, 56, K264, [(0, 3), (1, 262)], 0⟩),
  (265, ⟨.other, 1, 8, K265, [], 0⟩),
  (266, ⟨.other, 1, 8, K266, [], 0⟩),
  (267, ⟨.struct, 2, 16, K267, [(0, 3), (1, 3)], 0⟩),
  (268, ⟨.other, 1, 8, K268, [], 0⟩),
  (269, ⟨.other, 1, 8, K269, [], 0⟩),
  (271, ⟨.other, 1, 8, K271, [], 0⟩),
  (272, ⟨.other, 1, 8, K272, [], 0⟩),
  (273, ⟨.other, 1, 8, K273, [], 0⟩),
  (274, ⟨.other, 1, 8, K274, [], 0⟩),
  (275, ⟨.other, 1, 8, K275, [], 0⟩),
  (276, ⟨.other, 1, 8, K276, [], 0⟩),
  (277, ⟨.other, 1, 8, K277, [], 0⟩),
  (278, ⟨.other, 1, 8, K278, [], 0⟩),
  (279, ⟨.other, 1, 8, K279, [], 0⟩),
  (280, ⟨.other, 1, 8, K280, [], 0⟩),
  (282, ⟨.other, 1, 8, K282, [], 0⟩),
  (283, ⟨.other, 1, 8, K283, [], 0⟩),
  (284, ⟨.other, 1, 8, K284, [], 0⟩),
  (286, ⟨.other, 1, 8, K286, [], 0⟩),
  (287, ⟨.ptr, 1, 8, [], [], 104⟩),
  (288, ⟨.other, 1, 8, K288, [], 0⟩),
  (289, ⟨.ptr, 1, 8, [], [], 291⟩),
  (290, ⟨.struct, 3, 40, K290, [(0, 22), (1, 3), (2, 4)], 0⟩),
  (291, ⟨.struct, 3, 40, K291, [(0, 22), (1, 3), (2, 4)], 0⟩),
  (292, ⟨.other, 1, 8, K292, [], 0⟩),
  (293, ⟨.other, 1, 8, K293, [], 0⟩),
  (294, ⟨.other, 1, 8, K294, [], 0⟩),
  (296, ⟨.other, 1, 8, K296, [], 0⟩),
  (298, ⟨.other, 1, 8, K298, [], 0⟩),
  (299, ⟨.other, 1, 8, K299, [], 0⟩),
  (305, ⟨.other, 1, 8, K305, [], 0⟩),
  (306, ⟨.int .u32, 1, 4, K306, [], 0⟩),
  (307, ⟨.int .u8, 1, 1, K307, [], 0⟩),
  (308, ⟨.int .u8, 1, 1, K308, [], 0⟩),
  (309, ⟨.other, 1, 8, K309, [], 0⟩),
  (310, ⟨.ptr, 1, 8, [], [], 5⟩),
  (311, ⟨.int .i32, 1, 4, K311, [], 0⟩),
  (312, ⟨.int .i32, 1, 4, K312, [], 0⟩)]
def ti : Ti := fun t => look? t tyTab
end Go.Abs.Tz
