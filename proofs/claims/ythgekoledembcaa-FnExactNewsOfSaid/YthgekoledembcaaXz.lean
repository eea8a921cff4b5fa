/- What the functions of this program answer, part z. -/
import Derived.Test.YthgekoledembcaaW0
import Derived.Test.YthgekoledembcaaProg
/- The types of the seat, as its translation has them: by a program. -/
namespace Go.Abs.Nz
def K1 : List Kd := [.fn]
def K2 : List Kd := [.int .i64]
def K3 : List Kd := [.int .i64]
def K4 : List Kd := [.bool]
def K5 : List Kd := [.int .u8]
def K6 : List Kd := [.int .u8]
def K7 : List Kd := [.int .i64, .int .i64, .bool, .int .u8]
def K8 : List Kd := [.int .i64, .int .i64, .bool, .int .u8]
def K9 : List Kd := [.str]
def K10 : List Kd := [.str]
def K11 : List Kd := [.str]
def K12 : List Kd := [.int .u64]
def K13 : List Kd := [.str, .int .u64]
def K14 : List Kd := [.str, .int .u64]
def K21 : List Kd := [.int .i32]
def K61 : List Kd := [.int .i64, .int .i64, .int .i64, .int .i64, .str]
def K63 : List Kd := [.int .i64, .int .i64, .int .i64, .int .i64, .int .i64, .str]
def K22 : List Kd := [.sl K63]
def K66 : List Kd := [.int .i64, .int .i64, .int .i64, .int .i64, .int .i64, .int .i64, .str]
def K23 : List Kd := [.sl K66]
def K24 : List Kd := [.fn]
def K25 : List Kd := [.fn]
def K46 : List Kd := [.int .i64, .int .i64, .int .i64, .int .i64, .str]
def K68 : List Kd := [.int .i64, .int .i64, .int .i64, .int .i64, .int .i64, .str]
def K26 : List Kd := [.sl K68]
def K27 : List Kd := [.fn]
def K28 : List Kd := [.fn]
def K48 : List Kd := [.int .i64, .int .i64, .int .i64, .int .i64, .int .i64, .int .i64, .str]
def K29 : List Kd := [.sl K48]
def K30 : List Kd := [.fn]
def K31 : List Kd := [.fn]
def K32 : List Kd := [.fn]
def K33 : List Kd := [.fn]
def K34 : List Kd := [.fn]
def K35 : List Kd := [.fn]
def K36 : List Kd := [.sl K5]
def K37 : List Kd := [.fn]
def K80 : List Kd := [.int .i64, .int .i64]
def K38 : List Kd := [.sl K80]
def K39 : List Kd := [.sl K68, .sl K80]
def K40 : List Kd := [.sl K68, .sl K80]
def K42 : List Kd := [.fn]
def K43 : List Kd := [.fn]
def K44 : List Kd := [.fn]
def K45 : List Kd := [.int .i64, .int .i64, .int .i64, .int .i64, .str]
def K47 : List Kd := [.int .i64, .int .i64, .int .i64, .int .i64, .int .i64, .int .i64, .str]
def K50 : List Kd := [.fn]
def K51 : List Kd := [.fn]
def K103 : List Kd := [.int .i64, .int .i64]
def K52 : List Kd := [.sl K103]
def K53 : List Kd := [.sl K63, .sl K103]
def K54 : List Kd := [.sl K63, .sl K103]
def K55 : List Kd := [.fn]
def K56 : List Kd := [.fn]
def K57 : List Kd := [.fn]
def K58 : List Kd := [.fn]
def K59 : List Kd := [.fn]
def K60 : List Kd := [.fn]
def K62 : List Kd := [.int .i64, .int .i64, .int .i64, .int .i64, .int .i64, .str]
def K64 : List Kd := [.fn]
def K65 : List Kd := [.int .i64, .int .i64, .int .i64, .int .i64, .int .i64, .int .i64, .str]
def K67 : List Kd := [.int .i64, .int .i64, .int .i64, .int .i64, .int .i64, .str]
def K69 : List Kd := [.fn]
def K70 : List Kd := [.fn]
def K71 : List Kd := [.fn]
def K72 : List Kd := [.fn]
def K73 : List Kd := [.fn]
def K75 : List Kd := [.fn]
def K76 : List Kd := [.fn]
def K77 : List Kd := [.fn]
def K78 : List Kd := [.fn]
def K79 : List Kd := [.int .i64, .int .i64]
def K81 : List Kd := [.fn]
def K83 : List Kd := [.fn]
def K84 : List Kd := [.fn]
def K85 : List Kd := [.fn]
def K86 : List Kd := [.fn]
def K87 : List Kd := [.fn]
def K88 : List Kd := [.fn]
def K89 : List Kd := [.fn]
def K90 : List Kd := [.fn]
def K91 : List Kd := [.fn]
def K92 : List Kd := [.fn]
def K93 : List Kd := [.fn]
def K94 : List Kd := [.fn]
def K95 : List Kd := [.fn]
def K96 : List Kd := [.fn]
def K97 : List Kd := [.sl K5, .int .i64, .int .i64]
def K98 : List Kd := [.sl K5, .int .i64, .int .i64]
def K99 : List Kd := [.fn]
def K100 : List Kd := [.fn]
def K101 : List Kd := [.sl K3]
def K102 : List Kd := [.fn]
def K104 : List Kd := [.fn]
def K105 : List Kd := [.fn]
def K106 : List Kd := [.int .u64]
def K107 : List Kd := [.fn]
def K108 : List Kd := [.sl K9]
def K110 : List Kd := [.fn]
def K111 : List Kd := [.fn]
def K112 : List Kd := [.fn]
def K118 : List Kd := [.fn]
def K119 : List Kd := [.int .u32]
def K120 : List Kd := [.int .u8]
def K121 : List Kd := [.int .u8]
def K122 : List Kd := [.fn]
def K124 : List Kd := [.int .i32]
def K125 : List Kd := [.int .i32]
def tyTab : List (Nat × TyI) := [(1, ⟨.other, 1, 8, K1, [], 0⟩),
  (2, ⟨.int .i64, 1, 8, K2, [], 0⟩),
  (3, ⟨.int .i64, 1, 8, K3, [], 0⟩),
  (4, ⟨.bool, 1, 1, K4, [], 0⟩),
  (5, ⟨.int .u8, 1, 1, K5, [], 0⟩),
  (6, ⟨.int .u8, 1, 1, K6, [], 0⟩),
  (7, ⟨.struct, 4, 24, K7, [(0, 2), (1, 3), (2, 4), (3, 6)], 0⟩),
  (8, ⟨.struct, 4, 24, K8, [(0, 2), (1, 3), (2, 4), (3, 6)], 0⟩),
  (9, ⟨.string, 1, 16, K9, [], 0⟩),
  (10, ⟨.string, 1, 16, K10, [], 0⟩),
  (11, ⟨.string, 1, 16, K11, [], 0⟩),
  (12, ⟨.int .u64, 1, 8, K12, [], 0⟩),
  (21, ⟨.int .i32, 1, 4, K21, [], 0⟩),
  (22, ⟨.slice, 1, 24, K22, [], 63⟩),
  (23, ⟨.slice, 1, 24, K23, [], 66⟩),
  (24, ⟨.other, 1, 8, K24, [], 0⟩),
  (25, ⟨.other, 1, 8, K25, [], 0⟩),
  (26, ⟨.slice, 1, 24, K26, [], 68⟩),
  (27, ⟨.other, 1, 8, K27, [], 0⟩),
  (28, ⟨.other, 1, 8, K28, [], 0⟩),
  (29, ⟨.slice, 1, 24, K29, [], 48⟩),
  (30, ⟨.other, 1, 8, K30, [], 0⟩),
  (31, ⟨.other, 1, 8, K31, [], 0⟩),
  (32, ⟨.other, 1, 8, K32, [], 0⟩),
  (33, ⟨.other, 1, 8, K33, [], 0⟩),
  (34, ⟨.other, 1, 8, K34, [], 0⟩),
  (35, ⟨.other, 1, 8, K35, [], 0⟩),
  (36, ⟨.slice, 1, 24, K36, [], 5⟩),
  (37, ⟨.other, 1, 8, K37, [], 0⟩),
  (38, ⟨.slice, 1, 24, K38, [], 80⟩),
  (39, ⟨.struct, 2, 48, K39, [(0, 26), (1, 38)], 0⟩),
  (40, ⟨.struct, 2, 48, K40, [(0, 26), (1, 38)], 0⟩),
  (42, ⟨.other, 1, 8, K42, [], 0⟩),
  (43, ⟨.other, 1, 8, K43, [], 0⟩),
  (44, ⟨.other, 1, 8, K44, [], 0⟩),
  (45, ⟨.struct, 5, 48, K45, [(0, 3), (1, 3), (2, 3), (3, 3), (4, 9)], 0⟩),
  (46, ⟨.struct, 5, 48, K46, [(0, 3), (1, 3), (2, 3), (3, 3), (4, 9)], 0⟩),
  (47, ⟨.struct, 7, 64, K47, [(0, 3), (1, 3), (2, 46)], 0⟩),
  (48, ⟨.struct, 7, 64, K48, [(0, 3), (1, 3), (2, 46)], 0⟩),
  (50, ⟨.other, 1, 8, K50, [], 0⟩),
  (51, ⟨.other, 1, 8, K51, [], 0⟩),
  (52, ⟨.slice, 1, 24, K52, [], 103⟩),
  (53, ⟨.struct, 2, 48, K53, [(0, 22), (1, 52)], 0⟩),
  (54, ⟨.struct, 2, 48, K54, [(0, 22), (1, 52)], 0⟩),
  (55, ⟨.other, 1, 8, K55, [], 0⟩),
  (56, ⟨.other, 1, 8, K56, [], 0⟩),
  (57, ⟨.other, 1, 8, K57, [], 0⟩),
  (58, ⟨.other, 1, 8, K58, [], 0⟩),
  (59, ⟨.other, 1, 8, K59, [], 0⟩),
  (60, ⟨.other, 1, 8, K60, [], 0⟩),
  (61, ⟨.struct, 5, 48, K61, [(0, 3), (1, 3), (2, 3), (3, 3), (4, 9)], 0⟩),
  (62, ⟨.struct, 6, 56, K62, [(0, 3), (1, 61)], 0⟩),
  (63, ⟨.struct, 6, 56, K63, [(0, 3), (1, 61)], 0⟩),
  (64, ⟨.other, 1, 8, K64, [], 0⟩),
  (65, ⟨.struct, 7, 64, K65, [(0, 3), (1, 3), (2, 61)], 0⟩),
  (66, ⟨.struct, 7, 64, K66, [(0, 3), (1, 3), (2, 61)], 0⟩),
  (67, ⟨.struct, 6, 56, K67, [(0, 3), (1, 46)], 0⟩),
  (68, ⟨.struct, 6, 56, K68, [(0, 3), (1, 46)], 0⟩),
  (69, ⟨.other, 1, 8, K69, [], 0⟩),
  (70, ⟨.other, 1, 8, K70, [], 0⟩),
  (71, ⟨.other, 1, 8, K71, [], 0⟩),
  (72, ⟨.other, 1, 8, K72, [], 0⟩),
  (73, ⟨.other, 1, 8, K73, [], 0⟩),
  (75, ⟨.other, 1, 8, K75, [], 0⟩),
  (76, ⟨.other, 1, 8, K76, [], 0⟩),
  (77, ⟨.other, 1, 8, K77, [], 0⟩),
  (78, ⟨.other, 1, 8, K78, [], 0⟩),
  (79, ⟨.struct, 2, 16, K79, [(0, 3), (1, 3)], 0⟩),
  (80, ⟨.struct, 2, 16, K80, [(0, 3), (1, 3)], 0⟩),
  (81, ⟨.other, 1, 8, K81, [], 0⟩),
  (82, ⟨.ptr, 1, 8, [], [], 98⟩),
  (83, ⟨.other, 1, 8, K83, [], 0⟩),
  (84, ⟨.other, 1, 8, K84, [], 0⟩),
  (85, ⟨.other, 1, 8, K85, [], 0⟩),
  (86, ⟨.other, 1, 8, K86, [], 0⟩),
  (87, ⟨.other, 1, 8, K87, [], 0⟩),
  (88, ⟨.other, 1, 8, K88, [], 0⟩),
  (89, ⟨.other, 1, 8, K89, [], 0⟩),
  (90, ⟨.other, 1, 8, K90, [], 0⟩),
  (91, ⟨.other, 1, 8, K91, [], 0⟩),
  (92, ⟨.other, 1, 8, K92, [], 0⟩),
  (93, ⟨.other, 1, 8, K93, [], 0⟩),
  (94, ⟨.other, 1, 8, K94, [], 0⟩),
  (95, ⟨.other, 1, 8, K95, [], 0⟩),
  (96, ⟨.other, 1, 8, K96, [], 0⟩),
  (97, ⟨.struct, 3, 40, K97, [(0, 36), (1, 3), (2, 3)], 0⟩),
  (98, ⟨.struct, 3, 40, K98, [(0, 36), (1, 3), (2, 3)], 0⟩),
  (99, ⟨.other, 1, 8, K99, [], 0⟩),
  (100, ⟨.other, 1, 8, K100, [], 0⟩),
  (101, ⟨.slice, 1, 24, K101, [], 3⟩),
  (102, ⟨.other, 1, 8, K102, [], 0⟩),
  (103, ⟨.struct, 2, 16, K103, [(0, 3), (1, 3)], 0⟩),
  (104, ⟨.other, 1, 8, K104, [], 0⟩),
  (105, ⟨.other, 1, 8, K105, [], 0⟩),
  (106, ⟨.int .u64, 1, 8, K106, [], 0⟩),
  (107, ⟨.other, 1, 8, K107, [], 0⟩),
  (108, ⟨.slice, 1, 24, K108, [], 9⟩),
  (110, ⟨.other, 1, 8, K110, [], 0⟩),
  (111, ⟨.other, 1, 8, K111, [], 0⟩),
  (112, ⟨.other, 1, 8, K112, [], 0⟩),
  (118, ⟨.other, 1, 8, K118, [], 0⟩),
  (119, ⟨.int .u32, 1, 4, K119, [], 0⟩),
  (120, ⟨.int .u8, 1, 1, K120, [], 0⟩),
  (121, ⟨.int .u8, 1, 1, K121, [], 0⟩),
  (122, ⟨.other, 1, 8, K122, [], 0⟩),
  (123, ⟨.ptr, 1, 8, [], [], 5⟩),
  (124, ⟨.int .i32, 1, 4, K124, [], 0⟩),
  (125, ⟨.int .i32, 1, 4, K125, [], 0⟩)]
def ti : Ti := fun t => look? t tyTab
end Go.Abs.Nz
