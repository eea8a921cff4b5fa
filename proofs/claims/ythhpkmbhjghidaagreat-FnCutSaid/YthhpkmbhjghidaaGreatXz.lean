/- What the functions of this program answer, part z. -/
import Derived.Test.YthhpkmbhjghidaaGreatW0
import Derived.Test.YthhpkmbhjghidaaGreatProg
/- The types of the seat, as its translation has them: by a program. -/
namespace Go.Abs.Uz
def K2:List Kd:=[.int .i64]
def K3:List Kd:=[.int .i64]
def K4:List Kd:=[.bool]
def K5:List Kd:=[.int .u8]
def K6:List Kd:=[.int .u8]
def K7:List Kd:=[.int .i64,.int .i64,.bool,.int .u8]
def K8:List Kd:=[.int .i64,.int .i64,.bool,.int .u8]
def K9:List Kd:=[.str]
def K10:List Kd:=[.str]
def K11:List Kd:=[.str]
def K12:List Kd:=[.int .u64]
def K21:List Kd:=[.int .i32]
def K22:List Kd:=[.sl K5]
def K83:List Kd:=[.int .i64,.int .i64,.int .i64,.int .i64,.str]
def K125:List Kd:=[.int .i64,.int .i64,.int .i64,.int .i64,.int .i64,.str]
def K40:List Kd:=[.sl K125]
def K126:List Kd:=[.int .i64,.int .i64]
def K41:List Kd:=[.sl K126]
def K43:List Kd:=[.sl K125,.sl K126]
def K29:List Kd:=[.sl K3]
def K39:List Kd:=[.sl K3,.int .i64]
def K66:List Kd:=[.sl K43]
def K68:List Kd:=[.int .i64,.int .i64,.sl K43]
def K69:List Kd:=[.sl K29]
def K121:List Kd:=[.int .i64,.int .i64,.bool,.int .i64]
def K70:List Kd:=[.sl K121]
def K123:List Kd:=[.int .i64,.int .i64,.int .i64]
def K71:List Kd:=[.sl K123]
def K73:List Kd:=[.int .i64,.int .i64,.sl K125,.sl K126,.sl K3,.int .i64,.int .i64,.int .i64,.sl K43,.sl K3,.sl K3,.sl K29,.int .i64,.int .i64,.sl K121,.int .i64,.int .i64,.int .i64,.sl K123]
def K24:List Kd:=[.sl K73]
def K50:List Kd:=[.int .i64,.sl K5,.bool]
def K25:List Kd:=[.sl K50]
def K75:List Kd:=[.int .i64,.sl K125,.sl K126]
def K26:List Kd:=[.sl K75]
def K27:List Kd:=[.sl K73,.sl K50,.sl K75]
def K28:List Kd:=[.sl K73,.sl K50,.sl K75]
def K38:List Kd:=[.sl K3,.int .i64]
def K42:List Kd:=[.sl K125,.sl K126]
def K96:List Kd:=[.int .i64,.int .i64]
def K44:List Kd:=[.sl K96]
def K45:List Kd:=[.int .i64,.int .i64,.int .i64,.int .i64,.int .i64,.sl K3,.int .i64,.sl K3,.sl K3,.sl K125,.sl K126,.sl K96]
def K46:List Kd:=[.int .i64,.int .i64,.int .i64,.int .i64,.int .i64,.sl K3,.int .i64,.sl K3,.sl K3,.sl K125,.sl K126,.sl K96]
def K49:List Kd:=[.int .i64,.sl K5,.bool]
def K264:List Kd:=[.int .i64,.int .i64,.int .i64,.int .i64,.str]
def K266:List Kd:=[.int .i64,.int .i64,.int .i64,.int .i64,.int .i64,.str]
def K157:List Kd:=[.sl K266]
def K269:List Kd:=[.int .i64,.int .i64]
def K158:List Kd:=[.sl K269]
def K160:List Kd:=[.sl K266,.sl K269]
def K161:List Kd:=[.sl K3,.int .i64]
def K162:List Kd:=[.sl K160]
def K164:List Kd:=[.int .i64,.int .i64,.sl K160]
def K245:List Kd:=[.int .i64,.int .i64,.bool,.int .i64]
def K165:List Kd:=[.sl K245]
def K247:List Kd:=[.int .i64,.int .i64,.int .i64]
def K166:List Kd:=[.sl K247]
def K168:List Kd:=[.int .i64,.int .i64,.sl K266,.sl K269,.sl K3,.int .i64,.int .i64,.int .i64,.sl K160,.sl K3,.sl K3,.sl K29,.int .i64,.int .i64,.sl K245,.int .i64,.int .i64,.int .i64,.sl K247]
def K52:List Kd:=[.sl K168]
def K170:List Kd:=[.int .i64,.sl K5,.bool]
def K53:List Kd:=[.sl K170]
def K173:List Kd:=[.int .i64,.sl K266,.sl K269]
def K54:List Kd:=[.sl K173]
def K55:List Kd:=[.sl K168,.sl K170,.sl K173]
def K56:List Kd:=[.sl K168,.sl K170,.sl K173]
def K67:List Kd:=[.int .i64,.int .i64,.sl K43]
def K72:List Kd:=[.int .i64,.int .i64,.sl K125,.sl K126,.sl K3,.int .i64,.int .i64,.int .i64,.sl K43,.sl K3,.sl K3,.sl K29,.int .i64,.int .i64,.sl K121,.int .i64,.int .i64,.int .i64,.sl K123]
def K74:List Kd:=[.int .i64,.sl K125,.sl K126]
def K82:List Kd:=[.int .i64,.int .i64,.int .i64,.int .i64,.str]
def K88:List Kd:=[.sl K5,.int .i64,.bool]
def K89:List Kd:=[.sl K5,.int .i64,.bool]
def K95:List Kd:=[.int .i64,.int .i64]
def K120:List Kd:=[.int .i64,.int .i64,.bool,.int .i64]
def K122:List Kd:=[.int .i64,.int .i64,.int .i64]
def K124:List Kd:=[.int .i64,.int .i64,.int .i64,.int .i64,.int .i64,.str]
def K129:List Kd:=[.sl K5,.int .i64,.bool]
def K130:List Kd:=[.sl K5,.int .i64,.bool]
def K133:List Kd:=[.sl K5,.int .i64,.int .i64]
def K134:List Kd:=[.sl K5,.int .i64,.int .i64]
def K159:List Kd:=[.sl K266,.sl K269]
def K163:List Kd:=[.int .i64,.int .i64,.sl K160]
def K167:List Kd:=[.int .i64,.int .i64,.sl K266,.sl K269,.sl K3,.int .i64,.int .i64,.int .i64,.sl K160,.sl K3,.sl K3,.sl K29,.int .i64,.int .i64,.sl K245,.int .i64,.int .i64,.int .i64,.sl K247]
def K172:List Kd:=[.int .i64,.sl K266,.sl K269]
def K222:List Kd:=[.int .i64,.int .i64,.int .i64,.int .i64,.str]
def K193:List Kd:=[.sl K222]
def K200:List Kd:=[.int .u64]
def K202:List Kd:=[.sl K22]
def K221:List Kd:=[.int .i64,.int .i64,.int .i64,.int .i64,.str]
def K235:List Kd:=[.sl K9]
def K265:List Kd:=[.int .i64,.int .i64,.int .i64,.int .i64,.int .i64,.str]
def K288:List Kd:=[.sl K46]
def K302:List Kd:=[.int .u32]
def K303:List Kd:=[.int .u8]
def K304:List Kd:=[.int .u8]
def K307:List Kd:=[.int .i32]
def K308:List Kd:=[.int .i32]
def U7:List (Nat×TyI):=[(2,⟨.int .i64,1,8,K2,[],0⟩),
 (3,⟨.int .i64,1,8,K3,[],0⟩),
 (4,⟨.bool,1,1,K4,[],0⟩),
 (5,⟨.int .u8,1,1,K5,[],0⟩),
 (6,⟨.int .u8,1,1,K6,[],0⟩),
 (7,⟨.struct,4,24,K7,[(0,2),(1,3),(2,4),(3,6)],0⟩),
 (8,⟨.struct,4,24,K8,[(0,2),(1,3),(2,4),(3,6)],0⟩),
 (9,⟨.string,1,16,K9,[],0⟩),
 (10,⟨.string,1,16,K10,[],0⟩),
 (11,⟨.string,1,16,K11,[],0⟩),
 (12,⟨.int .u64,1,8,K12,[],0⟩),
 (21,⟨.int .i32,1,4,K21,[],0⟩),
 (22,⟨.slice,1,24,K22,[],5⟩),
 (24,⟨.slice,1,24,K24,[],73⟩),
 (25,⟨.slice,1,24,K25,[],50⟩),
 (26,⟨.slice,1,24,K26,[],75⟩),
 (27,⟨.struct,3,72,K27,[(0,24),(1,25),(2,26)],0⟩),
 (28,⟨.struct,3,72,K28,[(0,24),(1,25),(2,26)],0⟩),
 (29,⟨.slice,1,24,K29,[],3⟩),
 (38,⟨.struct,2,32,K38,[(0,29),(1,3)],0⟩),
 (39,⟨.struct,2,32,K39,[(0,29),(1,3)],0⟩),
 (40,⟨.slice,1,24,K40,[],125⟩),
 (41,⟨.slice,1,24,K41,[],126⟩),
 (42,⟨.struct,2,48,K42,[(0,40),(1,41)],0⟩),
 (43,⟨.struct,2,48,K43,[(0,40),(1,41)],0⟩),
 (44,⟨.slice,1,24,K44,[],96⟩),
 (45,⟨.struct,12,192,K45,[(0,3),(1,3),(2,3),(3,3),(4,3),(5,39),(7,29),(8,29),(9,43),(11,44)],0⟩),
 (46,⟨.struct,12,192,K46,[(0,3),(1,3),(2,3),(3,3),(4,3),(5,39),(7,29),(8,29),(9,43),(11,44)],0⟩),
 (49,⟨.struct,3,40,K49,[(0,3),(1,22),(2,4)],0⟩),
 (50,⟨.struct,3,40,K50,[(0,3),(1,22),(2,4)],0⟩),
 (52,⟨.slice,1,24,K52,[],168⟩),
 (53,⟨.slice,1,24,K53,[],170⟩),
 (54,⟨.slice,1,24,K54,[],173⟩),
 (55,⟨.struct,3,72,K55,[(0,52),(1,53),(2,54)],0⟩),
 (56,⟨.struct,3,72,K56,[(0,52),(1,53),(2,54)],0⟩),
 (66,⟨.slice,1,24,K66,[],43⟩),
 (67,⟨.struct,3,40,K67,[(0,3),(1,3),(2,66)],0⟩),
 (68,⟨.struct,3,40,K68,[(0,3),(1,3),(2,66)],0⟩),
 (69,⟨.slice,1,24,K69,[],29⟩),
 (70,⟨.slice,1,24,K70,[],121⟩),
 (71,⟨.slice,1,24,K71,[],123⟩),
 (72,⟨.struct,19,296,K72,[(0,3),(1,3),(2,43),(4,39),(6,68),(9,29),(10,29),(11,69),(12,3),(13,3),(14,70),(15,3),(16,3),(17,3),(18,71)],0⟩),
 (73,⟨.struct,19,296,K73,[(0,3),(1,3),(2,43),(4,39),(6,68),(9,29),(10,29),(11,69),(12,3),(13,3),(14,70),(15,3),(16,3),(17,3),(18,71)],0⟩),
 (74,⟨.struct,3,56,K74,[(0,3),(1,43)],0⟩),
 (75,⟨.struct,3,56,K75,[(0,3),(1,43)],0⟩),
 (78,⟨.ptr,1,8,[],[],134⟩),
 (82,⟨.struct,5,48,K82,[(0,3),(1,3),(2,3),(3,3),(4,9)],0⟩),
 (83,⟨.struct,5,48,K83,[(0,3),(1,3),(2,3),(3,3),(4,9)],0⟩),
 (87,⟨.ptr,1,8,[],[],89⟩),
 (88,⟨.struct,3,40,K88,[(0,22),(1,3),(2,4)],0⟩),
 (89,⟨.struct,3,40,K89,[(0,22),(1,3),(2,4)],0⟩),
 (95,⟨.struct,2,16,K95,[(0,3),(1,3)],0⟩),
 (96,⟨.struct,2,16,K96,[(0,3),(1,3)],0⟩),
 (120,⟨.struct,4,32,K120,[(0,3),(1,3),(2,4),(3,3)],0⟩),
 (121,⟨.struct,4,32,K121,[(0,3),(1,3),(2,4),(3,3)],0⟩),
 (122,⟨.struct,3,24,K122,[(0,3),(1,3),(2,3)],0⟩),
 (123,⟨.struct,3,24,K123,[(0,3),(1,3),(2,3)],0⟩),
 (124,⟨.struct,6,56,K124,[(0,3),(1,83)],0⟩),
 (125,⟨.struct,6,56,K125,[(0,3),(1,83)],0⟩),
 (126,⟨.struct,2,16,K126,[(0,3),(1,3)],0⟩),
 (128,⟨.ptr,1,8,[],[],130⟩),
 (129,⟨.struct,3,40,K129,[(0,22),(1,3),(2,4)],0⟩),
 (130,⟨.struct,3,40,K130,[(0,22),(1,3),(2,4)],0⟩),
 (133,⟨.struct,3,40,K133,[(0,22),(1,3),(2,3)],0⟩),
 (134,⟨.struct,3,40,K134,[(0,22),(1,3),(2,3)],0⟩),
 (157,⟨.slice,1,24,K157,[],266⟩),
 (158,⟨.slice,1,24,K158,[],269⟩),
 (159,⟨.struct,2,48,K159,[(0,157),(1,158)],0⟩),
 (160,⟨.struct,2,48,K160,[(0,157),(1,158)],0⟩),
 (161,⟨.struct,2,32,K161,[(0,29),(1,3)],0⟩),
 (162,⟨.slice,1,24,K162,[],160⟩),
 (163,⟨.struct,3,40,K163,[(0,3),(1,3),(2,162)],0⟩),
 (164,⟨.struct,3,40,K164,[(0,3),(1,3),(2,162)],0⟩),
 (165,⟨.slice,1,24,K165,[],245⟩),
 (166,⟨.slice,1,24,K166,[],247⟩),
 (167,⟨.struct,19,296,K167,[(0,3),(1,3),(2,160),(4,161),(6,164),(9,29),(10,29),(11,69),(12,3),(13,3),(14,165),(15,3),(16,3),(17,3),(18,166)],0⟩),
 (168,⟨.struct,19,296,K168,[(0,3),(1,3),(2,160),(4,161),(6,164),(9,29),(10,29),(11,69),(12,3),(13,3),(14,165),(15,3),(16,3),(17,3),(18,166)],0⟩),
 (170,⟨.struct,3,40,K170,[(0,3),(1,22),(2,4)],0⟩),
 (172,⟨.struct,3,56,K172,[(0,3),(1,160)],0⟩),
 (173,⟨.struct,3,56,K173,[(0,3),(1,160)],0⟩),
 (193,⟨.slice,1,24,K193,[],222⟩),
 (200,⟨.int .u64,1,8,K200,[],0⟩),
 (202,⟨.slice,1,24,K202,[],22⟩),
 (221,⟨.struct,5,48,K221,[(0,3),(1,3),(2,3),(3,3),(4,9)],0⟩),
 (222,⟨.struct,5,48,K222,[(0,3),(1,3),(2,3),(3,3),(4,9)],0⟩),
 (235,⟨.slice,1,24,K235,[],9⟩),
 (245,⟨.struct,4,32,K245,[(0,3),(1,3),(2,4),(3,3)],0⟩),
 (247,⟨.struct,3,24,K247,[(0,3),(1,3),(2,3)],0⟩),
 (264,⟨.struct,5,48,K264,[(0,3),(1,3),(2,3),(3,3),(4,9)],0⟩),
 (265,⟨.struct,6,56,K265,[(0,3),(1,264)],0⟩),
 (266,⟨.struct,6,56,K266,[(0,3),(1,264)],0⟩),
 (269,⟨.struct,2,16,K269,[(0,3),(1,3)],0⟩),
 (288,⟨.slice,1,24,K288,[],46⟩),
 (302,⟨.int .u32,1,4,K302,[],0⟩),
 (303,⟨.int .u8,1,1,K303,[],0⟩),
 (304,⟨.int .u8,1,1,K304,[],0⟩),
 (306,⟨.ptr,1,8,[],[],5⟩),
 (307,⟨.int .i32,1,4,K307,[],0⟩),
 (308,⟨.int .i32,1,4,K308,[],0⟩)]
def ti:Ti:=λt=>look? t U7
end Go.Abs.Uz
