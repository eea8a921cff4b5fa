/- What the functions of this program answer, part z. -/
import Derived.Test.YtfhgecdbldmekaaGreatW0
import Derived.Test.YtfhgecdbldmekaaGreatProg
/- The types of the seat, as its translation has them: by a program. -/
namespace Go.Abs.Pz
def K2:List Kd:=[.int .i64]
def K3:List Kd:=[.int .i64]
def K4:List Kd:=[.bool]
def K5:List Kd:=[.int .u8]
def K6:List Kd:=[.int .u8]
def K7:List Kd:=[.int .i64,.int .i64,.bool,.int .u8]
def K8:List Kd:=[.int .i64,.int .i64,.bool,.int .u8]
def K9:List Kd:=[.str]
def K10:List Kd:=[.str]
def K11:List Kd:=[.str]
def K12:List Kd:=[.int .u64]
def K21:List Kd:=[.int .i32]
def K22:List Kd:=[.sl K5]
def K104:List Kd:=[.int .i64,.int .i64,.int .i64,.int .i64,.str]
def K106:List Kd:=[.int .i64,.int .i64,.int .i64,.int .i64,.int .i64,.str]
def K47:List Kd:=[.sl K106]
def K154:List Kd:=[.int .i64,.int .i64]
def K48:List Kd:=[.sl K154]
def K50:List Kd:=[.sl K106,.sl K154]
def K38:List Kd:=[.sl K3]
def K46:List Kd:=[.sl K3,.int .i64]
def K59:List Kd:=[.sl K50]
def K61:List Kd:=[.int .i64,.int .i64,.sl K50]
def K62:List Kd:=[.sl K38]
def K125:List Kd:=[.int .i64,.int .i64,.bool,.int .i64]
def K63:List Kd:=[.sl K125]
def K127:List Kd:=[.int .i64,.int .i64,.int .i64]
def K64:List Kd:=[.sl K127]
def K66:List Kd:=[.int .i64,.int .i64,.sl K106,.sl K154,.sl K3,.int .i64,.int .i64,.int .i64,.sl K50,.sl K3,.sl K3,.sl K38,.int .i64,.int .i64,.sl K125,.int .i64,.int .i64,.int .i64,.sl K127]
def K24:List Kd:=[.sl K66]
def K57:List Kd:=[.int .i64,.sl K5,.bool]
def K25:List Kd:=[.sl K57]
def K95:List Kd:=[.int .i64,.sl K106,.sl K154]
def K26:List Kd:=[.sl K95]
def K27:List Kd:=[.sl K66,.sl K57,.sl K95]
def K28:List Kd:=[.sl K66,.sl K57,.sl K95]
def K36:List Kd:=[.int .i64,.int .i64,.int .i64,.int .i64,.str]
def K29:List Kd:=[.sl K36]
def K35:List Kd:=[.int .i64,.int .i64,.int .i64,.int .i64,.str]
def K45:List Kd:=[.sl K3,.int .i64]
def K49:List Kd:=[.sl K106,.sl K154]
def K119:List Kd:=[.int .i64,.int .i64]
def K51:List Kd:=[.sl K119]
def K52:List Kd:=[.int .i64,.int .i64,.int .i64,.int .i64,.int .i64,.sl K3,.int .i64,.sl K3,.sl K3,.sl K106,.sl K154,.sl K119]
def K53:List Kd:=[.int .i64,.int .i64,.int .i64,.int .i64,.int .i64,.sl K3,.int .i64,.sl K3,.sl K3,.sl K106,.sl K154,.sl K119]
def K56:List Kd:=[.int .i64,.sl K5,.bool]
def K60:List Kd:=[.int .i64,.int .i64,.sl K50]
def K65:List Kd:=[.int .i64,.int .i64,.sl K106,.sl K154,.sl K3,.int .i64,.int .i64,.int .i64,.sl K50,.sl K3,.sl K3,.sl K38,.int .i64,.int .i64,.sl K125,.int .i64,.int .i64,.int .i64,.sl K127]
def K312:List Kd:=[.int .i64,.int .i64,.int .i64,.int .i64,.str]
def K314:List Kd:=[.int .i64,.int .i64,.int .i64,.int .i64,.int .i64,.str]
def K194:List Kd:=[.sl K314]
def K317:List Kd:=[.int .i64,.int .i64]
def K195:List Kd:=[.sl K317]
def K197:List Kd:=[.sl K314,.sl K317]
def K198:List Kd:=[.sl K3,.int .i64]
def K199:List Kd:=[.sl K197]
def K201:List Kd:=[.int .i64,.int .i64,.sl K197]
def K298:List Kd:=[.int .i64,.int .i64,.bool,.int .i64]
def K202:List Kd:=[.sl K298]
def K300:List Kd:=[.int .i64,.int .i64,.int .i64]
def K203:List Kd:=[.sl K300]
def K205:List Kd:=[.int .i64,.int .i64,.sl K314,.sl K317,.sl K3,.int .i64,.int .i64,.int .i64,.sl K197,.sl K3,.sl K3,.sl K38,.int .i64,.int .i64,.sl K298,.int .i64,.int .i64,.int .i64,.sl K300]
def K67:List Kd:=[.sl K205]
def K207:List Kd:=[.int .i64,.sl K5,.bool]
def K68:List Kd:=[.sl K207]
def K210:List Kd:=[.int .i64,.sl K314,.sl K317]
def K69:List Kd:=[.sl K210]
def K70:List Kd:=[.sl K205,.sl K207,.sl K210]
def K71:List Kd:=[.sl K205,.sl K207,.sl K210]
def K72:List Kd:=[.int .i64,.int .i64,.int .i64,.int .i64,.str]
def K79:List Kd:=[.sl K72]
def K94:List Kd:=[.int .i64,.sl K106,.sl K154]
def K103:List Kd:=[.int .i64,.int .i64,.int .i64,.int .i64,.str]
def K105:List Kd:=[.int .i64,.int .i64,.int .i64,.int .i64,.int .i64,.str]
def K112:List Kd:=[.sl K5,.int .i64,.bool]
def K113:List Kd:=[.sl K5,.int .i64,.bool]
def K118:List Kd:=[.int .i64,.int .i64]
def K124:List Kd:=[.int .i64,.int .i64,.bool,.int .i64]
def K126:List Kd:=[.int .i64,.int .i64,.int .i64]
def K142:List Kd:=[.sl K5,.int .i64,.int .i64]
def K143:List Kd:=[.sl K5,.int .i64,.int .i64]
def K161:List Kd:=[.sl K53]
def K182:List Kd:=[.sl K9]
def K196:List Kd:=[.sl K314,.sl K317]
def K200:List Kd:=[.int .i64,.int .i64,.sl K197]
def K204:List Kd:=[.int .i64,.int .i64,.sl K314,.sl K317,.sl K3,.int .i64,.int .i64,.int .i64,.sl K197,.sl K3,.sl K3,.sl K38,.int .i64,.int .i64,.sl K298,.int .i64,.int .i64,.int .i64,.sl K300]
def K209:List Kd:=[.int .i64,.sl K314,.sl K317]
def K224:List Kd:=[.int .u64]
def K233:List Kd:=[.sl K5,.int .i64,.bool]
def K234:List Kd:=[.sl K5,.int .i64,.bool]
def K250:List Kd:=[.sl K22]
def K313:List Kd:=[.int .i64,.int .i64,.int .i64,.int .i64,.int .i64,.str]
def K330:List Kd:=[.int .u32]
def K331:List Kd:=[.int .u8]
def K332:List Kd:=[.int .u8]
def K335:List Kd:=[.int .i32]
def K336:List Kd:=[.int .i32]
def VY:List (Nat×TyI):=[(2,⟨.int .i64,1,8,K2,[],0⟩),
 (3,⟨.int .i64,1,8,K3,[],0⟩),
 (4,⟨.bool,1,1,K4,[],0⟩),
 (5,⟨.int .u8,1,1,K5,[],0⟩),
 (6,⟨.int .u8,1,1,K6,[],0⟩),
 (7,⟨.struct,4,24,K7,[(0,2),(1,3),(2,4),(3,6)],0⟩),
 (8,⟨.struct,4,24,K8,[(0,2),(1,3),(2,4),(3,6)],0⟩),
 (9,⟨.string,1,16,K9,[],0⟩),
 (10,⟨.string,1,16,K10,[],0⟩),
 (11,⟨.string,1,16,K11,[],0⟩),
 (12,⟨.int .u64,1,8,K12,[],0⟩),
 (21,⟨.int .i32,1,4,K21,[],0⟩),
 (22,⟨.slice,1,24,K22,[],5⟩),
 (24,⟨.slice,1,24,K24,[],66⟩),
 (25,⟨.slice,1,24,K25,[],57⟩),
 (26,⟨.slice,1,24,K26,[],95⟩),
 (27,⟨.struct,3,72,K27,[(0,24),(1,25),(2,26)],0⟩),
 (28,⟨.struct,3,72,K28,[(0,24),(1,25),(2,26)],0⟩),
 (29,⟨.slice,1,24,K29,[],36⟩),
 (35,⟨.struct,5,48,K35,[(0,3),(1,3),(2,3),(3,3),(4,9)],0⟩),
 (36,⟨.struct,5,48,K36,[(0,3),(1,3),(2,3),(3,3),(4,9)],0⟩),
 (38,⟨.slice,1,24,K38,[],3⟩),
 (45,⟨.struct,2,32,K45,[(0,38),(1,3)],0⟩),
 (46,⟨.struct,2,32,K46,[(0,38),(1,3)],0⟩),
 (47,⟨.slice,1,24,K47,[],106⟩),
 (48,⟨.slice,1,24,K48,[],154⟩),
 (49,⟨.struct,2,48,K49,[(0,47),(1,48)],0⟩),
 (50,⟨.struct,2,48,K50,[(0,47),(1,48)],0⟩),
 (51,⟨.slice,1,24,K51,[],119⟩),
 (52,⟨.struct,12,192,K52,[(0,3),(1,3),(2,3),(3,3),(4,3),(5,46),(7,38),(8,38),(9,50),(11,51)],0⟩),
 (53,⟨.struct,12,192,K53,[(0,3),(1,3),(2,3),(3,3),(4,3),(5,46),(7,38),(8,38),(9,50),(11,51)],0⟩),
 (56,⟨.struct,3,40,K56,[(0,3),(1,22),(2,4)],0⟩),
 (57,⟨.struct,3,40,K57,[(0,3),(1,22),(2,4)],0⟩),
 (59,⟨.slice,1,24,K59,[],50⟩),
 (60,⟨.struct,3,40,K60,[(0,3),(1,3),(2,59)],0⟩),
 (61,⟨.struct,3,40,K61,[(0,3),(1,3),(2,59)],0⟩),
 (62,⟨.slice,1,24,K62,[],38⟩),
 (63,⟨.slice,1,24,K63,[],125⟩),
 (64,⟨.slice,1,24,K64,[],127⟩),
 (65,⟨.struct,19,296,K65,[(0,3),(1,3),(2,50),(4,46),(6,61),(9,38),(10,38),(11,62),(12,3),(13,3),(14,63),(15,3),(16,3),(17,3),(18,64)],0⟩),
 (66,⟨.struct,19,296,K66,[(0,3),(1,3),(2,50),(4,46),(6,61),(9,38),(10,38),(11,62),(12,3),(13,3),(14,63),(15,3),(16,3),(17,3),(18,64)],0⟩),
 (67,⟨.slice,1,24,K67,[],205⟩),
 (68,⟨.slice,1,24,K68,[],207⟩),
 (69,⟨.slice,1,24,K69,[],210⟩),
 (70,⟨.struct,3,72,K70,[(0,67),(1,68),(2,69)],0⟩),
 (71,⟨.struct,3,72,K71,[(0,67),(1,68),(2,69)],0⟩),
 (72,⟨.struct,5,48,K72,[(0,3),(1,3),(2,3),(3,3),(4,9)],0⟩),
 (79,⟨.slice,1,24,K79,[],72⟩),
 (86,⟨.ptr,1,8,[],[],143⟩),
 (94,⟨.struct,3,56,K94,[(0,3),(1,50)],0⟩),
 (95,⟨.struct,3,56,K95,[(0,3),(1,50)],0⟩),
 (99,⟨.ptr,1,8,[],[],28⟩),
 (103,⟨.struct,5,48,K103,[(0,3),(1,3),(2,3),(3,3),(4,9)],0⟩),
 (104,⟨.struct,5,48,K104,[(0,3),(1,3),(2,3),(3,3),(4,9)],0⟩),
 (105,⟨.struct,6,56,K105,[(0,3),(1,104)],0⟩),
 (106,⟨.struct,6,56,K106,[(0,3),(1,104)],0⟩),
 (111,⟨.ptr,1,8,[],[],113⟩),
 (112,⟨.struct,3,40,K112,[(0,22),(1,3),(2,4)],0⟩),
 (113,⟨.struct,3,40,K113,[(0,22),(1,3),(2,4)],0⟩),
 (118,⟨.struct,2,16,K118,[(0,3),(1,3)],0⟩),
 (119,⟨.struct,2,16,K119,[(0,3),(1,3)],0⟩),
 (124,⟨.struct,4,32,K124,[(0,3),(1,3),(2,4),(3,3)],0⟩),
 (125,⟨.struct,4,32,K125,[(0,3),(1,3),(2,4),(3,3)],0⟩),
 (126,⟨.struct,3,24,K126,[(0,3),(1,3),(2,3)],0⟩),
 (127,⟨.struct,3,24,K127,[(0,3),(1,3),(2,3)],0⟩),
 (142,⟨.struct,3,40,K142,[(0,22),(1,3),(2,3)],0⟩),
 (143,⟨.struct,3,40,K143,[(0,22),(1,3),(2,3)],0⟩),
 (154,⟨.struct,2,16,K154,[(0,3),(1,3)],0⟩),
 (161,⟨.slice,1,24,K161,[],53⟩),
 (165,⟨.ptr,1,8,[],[],57⟩),
 (182,⟨.slice,1,24,K182,[],9⟩),
 (194,⟨.slice,1,24,K194,[],314⟩),
 (195,⟨.slice,1,24,K195,[],317⟩),
 (196,⟨.struct,2,48,K196,[(0,194),(1,195)],0⟩),
 (197,⟨.struct,2,48,K197,[(0,194),(1,195)],0⟩),
 (198,⟨.struct,2,32,K198,[(0,38),(1,3)],0⟩),
 (199,⟨.slice,1,24,K199,[],197⟩),
 (200,⟨.struct,3,40,K200,[(0,3),(1,3),(2,199)],0⟩),
 (201,⟨.struct,3,40,K201,[(0,3),(1,3),(2,199)],0⟩),
 (202,⟨.slice,1,24,K202,[],298⟩),
 (203,⟨.slice,1,24,K203,[],300⟩),
 (204,⟨.struct,19,296,K204,[(0,3),(1,3),(2,197),(4,198),(6,201),(9,38),(10,38),(11,62),(12,3),(13,3),(14,202),(15,3),(16,3),(17,3),(18,203)],0⟩),
 (205,⟨.struct,19,296,K205,[(0,3),(1,3),(2,197),(4,198),(6,201),(9,38),(10,38),(11,62),(12,3),(13,3),(14,202),(15,3),(16,3),(17,3),(18,203)],0⟩),
 (207,⟨.struct,3,40,K207,[(0,3),(1,22),(2,4)],0⟩),
 (209,⟨.struct,3,56,K209,[(0,3),(1,197)],0⟩),
 (210,⟨.struct,3,56,K210,[(0,3),(1,197)],0⟩),
 (224,⟨.int .u64,1,8,K224,[],0⟩),
 (232,⟨.ptr,1,8,[],[],234⟩),
 (233,⟨.struct,3,40,K233,[(0,22),(1,3),(2,4)],0⟩),
 (234,⟨.struct,3,40,K234,[(0,22),(1,3),(2,4)],0⟩),
 (250,⟨.slice,1,24,K250,[],22⟩),
 (286,⟨.ptr,1,8,[],[],127⟩),
 (298,⟨.struct,4,32,K298,[(0,3),(1,3),(2,4),(3,3)],0⟩),
 (300,⟨.struct,3,24,K300,[(0,3),(1,3),(2,3)],0⟩),
 (312,⟨.struct,5,48,K312,[(0,3),(1,3),(2,3),(3,3),(4,9)],0⟩),
 (313,⟨.struct,6,56,K313,[(0,3),(1,312)],0⟩),
 (314,⟨.struct,6,56,K314,[(0,3),(1,312)],0⟩),
 (317,⟨.struct,2,16,K317,[(0,3),(1,3)],0⟩),
 (330,⟨.int .u32,1,4,K330,[],0⟩),
 (331,⟨.int .u8,1,1,K331,[],0⟩),
 (332,⟨.int .u8,1,1,K332,[],0⟩),
 (334,⟨.ptr,1,8,[],[],5⟩),
 (335,⟨.int .i32,1,4,K335,[],0⟩),
 (336,⟨.int .i32,1,4,K336,[],0⟩)]
def ti:Ti:=λt=>look? t VY
end Go.Abs.Pz
