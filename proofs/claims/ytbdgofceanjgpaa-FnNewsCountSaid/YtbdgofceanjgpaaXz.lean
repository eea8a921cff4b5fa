/- What the functions of this program answer, part z. -/
import Derived.Test.YtbdgofceanjgpaaW0
import Derived.Test.YtbdgofceanjgpaaProg
/- The types of the seat, as its translation has them: by a program. -/
namespace Go.Abs.Pz
def K1 : List Kd := [.fn]
def K2 : List Kd := [.int .i64]
def K3 : List Kd := [.int .i64]
def K4 : List Kd := [.bool]
def K5 : List Kd := [.int .u8]
def K6 : List Kd := [.int .u8]
def K7 : List Kd := [.int .i64, .int .i64, .bool, .int .u8]
def K8 : List Kd := [.int .i64, .int .i64, .bool, .int .u8]
def K9 : List Kd := [.str]
def K10 : List Kd := [.str]
def K11 : List Kd := [.str]
def K12 : List Kd := [.int .u64]
def K21 : List Kd := [.int .i32]
def K22 : List Kd := [.sl K5]
def K23 : List Kd := [.fn]
def K34 : List Kd := [.int .i64, .int .i64, .int .i64, .int .i64, .str]
def K45 : List Kd := [.int .i64, .int .i64, .int .i64, .int .i64, .int .i64, .str]
def K24 : List Kd := [.sl K45]
def K50 : List Kd := [.int .i64, .int .i64]
def K25 : List Kd := [.sl K50]
def K26 : List Kd := [.sl K45, .sl K50]
def K27 : List Kd := [.sl K45, .sl K50]
def K29 : List Kd := [.fn]
def K36 : List Kd := [.int .i64, .int .i64, .int .i64, .int .i64, .int .i64, .int .i64, .str]
def K30 : List Kd := [.sl K36]
def K31 : List Kd := [.fn]
def K32 : List Kd := [.fn]
def K33 : List Kd := [.int .i64, .int .i64, .int .i64, .int .i64, .str]
def K35 : List Kd := [.int .i64, .int .i64, .int .i64, .int .i64, .int .i64, .int .i64, .str]
def K38 : List Kd := [.fn]
def K39 : List Kd := [.fn]
def K40 : List Kd := [.fn]
def K42 : List Kd := [.fn]
def K43 : List Kd := [.fn]
def K44 : List Kd := [.int .i64, .int .i64, .int .i64, .int .i64, .int .i64, .str]
def K46 : List Kd := [.fn]
def K47 : List Kd := [.fn]
def K48 : List Kd := [.fn]
def K49 : List Kd := [.int .i64, .int .i64]
def K51 : List Kd := [.fn]
def K53 : List Kd := [.fn]
def K54 : List Kd := [.fn]
def K55 : List Kd := [.fn]
def K56 : List Kd := [.fn]
def K57 : List Kd := [.fn]
def K58 : List Kd := [.fn]
def K59 : List Kd := [.fn]
def K60 : List Kd := [.sl K5, .int .i64, .int .i64]
def K61 : List Kd := [.sl K5, .int .i64, .int .i64]
def K62 : List Kd := [.fn]
def K63 : List Kd := [.fn]
def K64 : List Kd := [.sl K3]
def K65 : List Kd := [.fn]
def K66 : List Kd := [.int .u64]
def K67 : List Kd := [.fn]
def K68 : List Kd := [.sl K9]
def K70 : List Kd := [.fn]
def K71 : List Kd := [.fn]
def K72 : List Kd := [.fn]
def K78 : List Kd := [.fn]
def K79 : List Kd := [.int .u32]
def K80 : List Kd := [.int .u8]
def K81 : List Kd := [.int .u8]
def K82 : List Kd := [.fn]
def K84 : List Kd := [.int .i32]
def K85 : List Kd := [.int .i32]
def tyTab : List (Nat × TyI) := [(1, ⟨.other, 1, 8, K1, [], 0⟩),
 (2, ⟨.int .i64, 1, 8, K2, [], 0⟩),
 (3, ⟨.int .i64, 1, 8, K3, [], 0⟩),
 (4, ⟨.bool, 1, 1, K4, [], 0⟩),
 (5, ⟨.int .u8, 1, 1, K5, [], 0⟩),
 (6, ⟨.int .u8, 1, 1, K6, [], 0⟩),
 (7, ⟨.struct, 4, 24, K7, [(0, 2), (1, 3), (2, 4), (3, 6)], 0⟩),
 (8, ⟨.struct, 4, 24, K8, [(0, 2), (1, 3), (2, 4), (3, 6)], 0⟩),
 (9, ⟨.string, 1, 16, K9, [], 0⟩),
 (10, ⟨.string, 1, 16, K10, [], 0⟩),
 (11, ⟨.string, 1, 16, K11, [], 0⟩),
 (12, ⟨.int .u64, 1, 8, K12, [], 0⟩),
 (21, ⟨.int .i32, 1, 4, K21, [], 0⟩),
 (22, ⟨.slice, 1, 24, K22, [], 5⟩),
 (23, ⟨.other, 1, 8, K23, [], 0⟩),
 (24, ⟨.slice, 1, 24, K24, [], 45⟩),
 (25, ⟨.slice, 1, 24, K25, [], 50⟩),
 (26, ⟨.struct, 2, 48, K26, [(0, 24), (1, 25)], 0⟩),
 (27, ⟨.struct, 2, 48, K27, [(0, 24), (1, 25)], 0⟩),
 (29, ⟨.other, 1, 8, K29, [], 0⟩),
 (30, ⟨.slice, 1, 24, K30, [], 36⟩),
 (31, ⟨.other, 1, 8, K31, [], 0⟩),
 (32, ⟨.other, 1, 8, K32, [], 0⟩),
 (33, ⟨.struct, 5, 48, K33, [(0, 3), (1, 3), (2, 3), (3, 3), (4, 9)], 0⟩),
 (34, ⟨.struct, 5, 48, K34, [(0, 3), (1, 3), (2, 3), (3, 3), (4, 9)], 0⟩),
 (35, ⟨.struct, 7, 64, K35, [(0, 3), (1, 3), (2, 34)], 0⟩),
 (36, ⟨.struct, 7, 64, K36, [(0, 3), (1, 3), (2, 34)], 0⟩),
 (38, ⟨.other, 1, 8, K38, [], 0⟩),
 (39, ⟨.other, 1, 8, K39, [], 0⟩),
 (40, ⟨.other, 1, 8, K40, [], 0⟩),
 (42, ⟨.other, 1, 8, K42, [], 0⟩),
 (43, ⟨.other, 1, 8, K43, [], 0⟩),
 (44, ⟨.struct, 6, 56, K44, [(0, 3), (1, 34)], 0⟩),
 (45, ⟨.struct, 6, 56, K45, [(0, 3), (1, 34)], 0⟩),
 (46, ⟨.other, 1, 8, K46, [], 0⟩),
 (47, ⟨.other, 1, 8, K47, [], 0⟩),
 (48, ⟨.other, 1, 8, K48, [], 0⟩),
 (49, ⟨.struct, 2, 16, K49, [(0, 3), (1, 3)], 0⟩),
 (50, ⟨.struct, 2, 16, K50, [(0, 3), (1, 3)], 0⟩),
 (51, ⟨.other, 1, 8, K51, [], 0⟩),
 (52, ⟨.ptr, 1, 8, [], [], 61⟩),
 (53, ⟨.other, 1, 8, K53, [], 0⟩),
 (54, ⟨.other, 1, 8, K54, [], 0⟩),
 (55, ⟨.other, 1, 8, K55, [], 0⟩),
 (56, ⟨.other, 1, 8, K56, [], 0⟩),
 (57, ⟨.other, 1, 8, K57, [], 0⟩),
 (58, ⟨.other, 1, 8, K58, [], 0⟩),
 (59, ⟨.other, 1, 8, K59, [], 0⟩),
 (60, ⟨.struct, 3, 40, K60, [(0, 22), (1, 3), (2, 3)], 0⟩),
 (61, ⟨.struct, 3, 40, K61, [(0, 22), (1, 3), (2, 3)], 0⟩),
 (62, ⟨.other, 1, 8, K62, [], 0⟩),
 (63, ⟨.other, 1, 8, K63, [], 0⟩),
 (64, ⟨.slice, 1, 24, K64, [], 3⟩),
 (65, ⟨.other, 1, 8, K65, [], 0⟩),
 (66, ⟨.int .u64, 1, 8, K66, [], 0⟩),
 (67, ⟨.other, 1, 8, K67, [], 0⟩),
 (68, ⟨.slice, 1, 24, K68, [], 9⟩),
 (70, ⟨.other, 1, 8, K70, [], 0⟩),
 (71, ⟨.other, 1, 8, K71, [], 0⟩),
 (72, ⟨.other, 1, 8, K72, [], 0⟩),
 (78, ⟨.other, 1, 8, K78, [], 0⟩),
 (79, ⟨.int .u32, 1, 4, K79, [], 0⟩),
 (80, ⟨.int .u8, 1, 1, K80, [], 0⟩),
 (81, ⟨.int .u8, 1, 1, K81, [], 0⟩),
 (82, ⟨.other, 1, 8, K82, [], 0⟩),
 (83, ⟨.ptr, 1, 8, [], [], 5⟩),
 (84, ⟨.int .i32, 1, 4, K84, [], 0⟩),
 (85, ⟨.int .i32, 1, 4, K85, [], 0⟩)]
def ti : Ti := fun t => look? t tyTab
end Go.Abs.Pz
