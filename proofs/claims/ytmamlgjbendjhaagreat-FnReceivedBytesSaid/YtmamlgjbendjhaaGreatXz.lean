/- What the functions of this program answer, part z. -/
import Derived.Test.YtmamlgjbendjhaaGreatW0
import Derived.Test.YtmamlgjbendjhaaGreatProg
/- The types of the seat, as its translation has them: by a program. -/
namespace Go.Abs.Xz
def K2:List Kd:=[.int .i64]
def K3:List Kd:=[.int .i64]
def K4:List Kd:=[.bool]
def K5:List Kd:=[.int .u8]
def K6:List Kd:=[.int .u8]
def K7:List Kd:=[.int .i64,.int .i64,.bool,.int .u8]
def K8:List Kd:=[.int .i64,.int .i64,.bool,.int .u8]
def K9:List Kd:=[.str]
def K10:List Kd:=[.str]
def K11:List Kd:=[.str]
def K12:List Kd:=[.int .u64]
def K21:List Kd:=[.int .i32]
def K22:List Kd:=[.sl K5]
def K161:List Kd:=[.int .i64,.int .i64,.int .i64,.int .i64,.str]
def K163:List Kd:=[.int .i64,.int .i64,.int .i64,.int .i64,.int .i64,.str]
def K24:List Kd:=[.sl K163]
def K165:List Kd:=[.int .i64,.int .i64]
def K25:List Kd:=[.sl K165]
def K26:List Kd:=[.sl K163,.sl K165]
def K27:List Kd:=[.sl K163,.sl K165]
def K28:List Kd:=[.sl K3]
def K29:List Kd:=[.sl K3,.int .i64]
def K30:List Kd:=[.sl K3,.int .i64]
def K31:List Kd:=[.sl K27]
def K32:List Kd:=[.int .i64,.int .i64,.sl K27]
def K33:List Kd:=[.int .i64,.int .i64,.sl K27]
def K34:List Kd:=[.sl K28]
def K141:List Kd:=[.int .i64,.int .i64,.bool,.int .i64]
def K35:List Kd:=[.sl K141]
def K147:List Kd:=[.int .i64,.int .i64,.int .i64]
def K36:List Kd:=[.sl K147]
def K37:List Kd:=[.int .i64,.int .i64,.sl K163,.sl K165,.sl K3,.int .i64,.int .i64,.int .i64,.sl K27,.sl K3,.sl K3,.sl K28,.int .i64,.int .i64,.sl K141,.int .i64,.int .i64,.int .i64,.sl K147]
def K38:List Kd:=[.int .i64,.int .i64,.sl K163,.sl K165,.sl K3,.int .i64,.int .i64,.int .i64,.sl K27,.sl K3,.sl K3,.sl K28,.int .i64,.int .i64,.sl K141,.int .i64,.int .i64,.int .i64,.sl K147]
def K185:List Kd:=[.int .i64,.int .i64]
def K41:List Kd:=[.sl K185]
def K42:List Kd:=[.int .i64,.int .i64,.int .i64,.int .i64,.int .i64,.sl K3,.int .i64,.sl K3,.sl K3,.sl K163,.sl K165,.sl K185]
def K43:List Kd:=[.int .i64,.int .i64,.int .i64,.int .i64,.int .i64,.sl K3,.int .i64,.sl K3,.sl K3,.sl K163,.sl K165,.sl K185]
def K49:List Kd:=[.sl K43]
def K62:List Kd:=[.sl K22]
def K327:List Kd:=[.int .i64,.int .i64,.int .i64,.int .i64,.str]
def K329:List Kd:=[.int .i64,.int .i64,.int .i64,.int .i64,.int .i64,.str]
def K86:List Kd:=[.sl K329]
def K332:List Kd:=[.int .i64,.int .i64]
def K87:List Kd:=[.sl K332]
def K89:List Kd:=[.sl K329,.sl K332]
def K90:List Kd:=[.sl K3,.int .i64]
def K91:List Kd:=[.sl K89]
def K93:List Kd:=[.int .i64,.int .i64,.sl K89]
def K295:List Kd:=[.int .i64,.int .i64,.bool,.int .i64]
def K94:List Kd:=[.sl K295]
def K297:List Kd:=[.int .i64,.int .i64,.int .i64]
def K95:List Kd:=[.sl K297]
def K97:List Kd:=[.int .i64,.int .i64,.sl K329,.sl K332,.sl K3,.int .i64,.int .i64,.int .i64,.sl K89,.sl K3,.sl K3,.sl K28,.int .i64,.int .i64,.sl K295,.int .i64,.int .i64,.int .i64,.sl K297]
def K68:List Kd:=[.sl K97]
def K277:List Kd:=[.int .i64,.sl K5,.bool]
def K69:List Kd:=[.sl K277]
def K280:List Kd:=[.int .i64,.sl K329,.sl K332]
def K70:List Kd:=[.sl K280]
def K71:List Kd:=[.sl K97,.sl K277,.sl K280]
def K72:List Kd:=[.sl K97,.sl K277,.sl K280]
def K74:List Kd:=[.sl K38]
def K195:List Kd:=[.int .i64,.sl K5,.bool]
def K75:List Kd:=[.sl K195]
def K282:List Kd:=[.int .i64,.sl K163,.sl K165]
def K76:List Kd:=[.sl K282]
def K77:List Kd:=[.sl K38,.sl K195,.sl K282]
def K78:List Kd:=[.sl K38,.sl K195,.sl K282]
def K88:List Kd:=[.sl K329,.sl K332]
def K92:List Kd:=[.int .i64,.int .i64,.sl K89]
def K96:List Kd:=[.int .i64,.int .i64,.sl K329,.sl K332,.sl K3,.int .i64,.int .i64,.int .i64,.sl K89,.sl K3,.sl K3,.sl K28,.int .i64,.int .i64,.sl K295,.int .i64,.int .i64,.int .i64,.sl K297]
def K299:List Kd:=[.int .i64,.int .i64]
def K98:List Kd:=[.sl K299]
def K99:List Kd:=[.int .i64,.int .i64,.int .i64,.int .i64,.int .i64,.sl K3,.int .i64,.sl K3,.sl K3,.sl K329,.sl K332,.sl K299]
def K100:List Kd:=[.int .i64,.int .i64,.int .i64,.int .i64,.int .i64,.sl K3,.int .i64,.sl K3,.sl K3,.sl K329,.sl K332,.sl K299]
def K122:List Kd:=[.int .i64,.int .i64,.int .i64,.int .i64,.str]
def K123:List Kd:=[.int .i64,.int .i64,.int .i64,.int .i64,.str]
def K127:List Kd:=[.int .i64,.int .i64,.int .i64,.int .i64,.str]
def K130:List Kd:=[.sl K123]
def K134:List Kd:=[.sl K127]
def K140:List Kd:=[.int .i64,.int .i64,.bool,.int .i64]
def K146:List Kd:=[.int .i64,.int .i64,.int .i64]
def K160:List Kd:=[.int .i64,.int .i64,.int .i64,.int .i64,.str]
def K162:List Kd:=[.int .i64,.int .i64,.int .i64,.int .i64,.int .i64,.str]
def K164:List Kd:=[.int .i64,.int .i64]
def K179:List Kd:=[.sl K5,.int .i64,.bool]
def K180:List Kd:=[.sl K5,.int .i64,.bool]
def K194:List Kd:=[.int .i64,.sl K5,.bool]
def K263:List Kd:=[.sl K5,.int .i64,.int .i64]
def K264:List Kd:=[.sl K5,.int .i64,.int .i64]
def K266:List Kd:=[.sl K5,.int .i64,.bool]
def K267:List Kd:=[.sl K5,.int .i64,.bool]
def K275:List Kd:=[.int .u64]
def K279:List Kd:=[.int .i64,.sl K329,.sl K332]
def K281:List Kd:=[.int .i64,.sl K163,.sl K165]
def K328:List Kd:=[.int .i64,.int .i64,.int .i64,.int .i64,.int .i64,.str]
def K340:List Kd:=[.sl K9]
def K360:List Kd:=[.int .u32]
def K361:List Kd:=[.int .u8]
def K362:List Kd:=[.int .u8]
def K365:List Kd:=[.int .i32]
def K366:List Kd:=[.int .i32]
def SV:List (Nat×TyI):=[(2,⟨.int .i64,1,8,K2,[],0⟩),
 (3,⟨.int .i64,1,8,K3,[],0⟩),
 (4,⟨.bool,1,1,K4,[],0⟩),
 (5,⟨.int .u8,1,1,K5,[],0⟩),
 (6,⟨.int .u8,1,1,K6,[],0⟩),
 (7,⟨.struct,4,24,K7,[(0,2),(1,3),(2,4),(3,6)],0⟩),
 (8,⟨.struct,4,24,K8,[(0,2),(1,3),(2,4),(3,6)],0⟩),
 (9,⟨.string,1,16,K9,[],0⟩),
 (10,⟨.string,1,16,K10,[],0⟩),
 (11,⟨.string,1,16,K11,[],0⟩),
 (12,⟨.int .u64,1,8,K12,[],0⟩),
 (21,⟨.int .i32,1,4,K21,[],0⟩),
 (22,⟨.slice,1,24,K22,[],5⟩),
 (24,⟨.slice,1,24,K24,[],163⟩),
 (25,⟨.slice,1,24,K25,[],165⟩),
 (26,⟨.struct,2,48,K26,[(0,24),(1,25)],0⟩),
 (27,⟨.struct,2,48,K27,[(0,24),(1,25)],0⟩),
 (28,⟨.slice,1,24,K28,[],3⟩),
 (29,⟨.struct,2,32,K29,[(0,28),(1,3)],0⟩),
 (30,⟨.struct,2,32,K30,[(0,28),(1,3)],0⟩),
 (31,⟨.slice,1,24,K31,[],27⟩),
 (32,⟨.struct,3,40,K32,[(0,3),(1,3),(2,31)],0⟩),
 (33,⟨.struct,3,40,K33,[(0,3),(1,3),(2,31)],0⟩),
 (34,⟨.slice,1,24,K34,[],28⟩),
 (35,⟨.slice,1,24,K35,[],141⟩),
 (36,⟨.slice,1,24,K36,[],147⟩),
 (37,⟨.struct,19,296,K37,[(0,3),(1,3),(2,27),(4,30),(6,33),(9,28),(10,28),(11,34),(12,3),(13,3),(14,35),(15,3),(16,3),(17,3),(18,36)],0⟩),
 (38,⟨.struct,19,296,K38,[(0,3),(1,3),(2,27),(4,30),(6,33),(9,28),(10,28),(11,34),(12,3),(13,3),(14,35),(15,3),(16,3),(17,3),(18,36)],0⟩),
 (41,⟨.slice,1,24,K41,[],185⟩),
 (42,⟨.struct,12,192,K42,[(0,3),(1,3),(2,3),(3,3),(4,3),(5,30),(7,28),(8,28),(9,27),(11,41)],0⟩),
 (43,⟨.struct,12,192,K43,[(0,3),(1,3),(2,3),(3,3),(4,3),(5,30),(7,28),(8,28),(9,27),(11,41)],0⟩),
 (49,⟨.slice,1,24,K49,[],43⟩),
 (62,⟨.slice,1,24,K62,[],22⟩),
 (68,⟨.slice,1,24,K68,[],97⟩),
 (69,⟨.slice,1,24,K69,[],277⟩),
 (70,⟨.slice,1,24,K70,[],280⟩),
 (71,⟨.struct,3,72,K71,[(0,68),(1,69),(2,70)],0⟩),
 (72,⟨.struct,3,72,K72,[(0,68),(1,69),(2,70)],0⟩),
 (74,⟨.slice,1,24,K74,[],38⟩),
 (75,⟨.slice,1,24,K75,[],195⟩),
 (76,⟨.slice,1,24,K76,[],282⟩),
 (77,⟨.struct,3,72,K77,[(0,74),(1,75),(2,76)],0⟩),
 (78,⟨.struct,3,72,K78,[(0,74),(1,75),(2,76)],0⟩),
 (86,⟨.slice,1,24,K86,[],329⟩),
 (87,⟨.slice,1,24,K87,[],332⟩),
 (88,⟨.struct,2,48,K88,[(0,86),(1,87)],0⟩),
 (89,⟨.struct,2,48,K89,[(0,86),(1,87)],0⟩),
 (90,⟨.struct,2,32,K90,[(0,28),(1,3)],0⟩),
 (91,⟨.slice,1,24,K91,[],89⟩),
 (92,⟨.struct,3,40,K92,[(0,3),(1,3),(2,91)],0⟩),
 (93,⟨.struct,3,40,K93,[(0,3),(1,3),(2,91)],0⟩),
 (94,⟨.slice,1,24,K94,[],295⟩),
 (95,⟨.slice,1,24,K95,[],297⟩),
 (96,⟨.struct,19,296,K96,[(0,3),(1,3),(2,89),(4,90),(6,93),(9,28),(10,28),(11,34),(12,3),(13,3),(14,94),(15,3),(16,3),(17,3),(18,95)],0⟩),
 (97,⟨.struct,19,296,K97,[(0,3),(1,3),(2,89),(4,90),(6,93),(9,28),(10,28),(11,34),(12,3),(13,3),(14,94),(15,3),(16,3),(17,3),(18,95)],0⟩),
 (98,⟨.slice,1,24,K98,[],299⟩),
 (99,⟨.struct,12,192,K99,[(0,3),(1,3),(2,3),(3,3),(4,3),(5,90),(7,28),(8,28),(9,89),(11,98)],0⟩),
 (100,⟨.struct,12,192,K100,[(0,3),(1,3),(2,3),(3,3),(4,3),(5,90),(7,28),(8,28),(9,89),(11,98)],0⟩),
 (122,⟨.struct,5,48,K122,[(0,3),(1,3),(2,3),(3,3),(4,9)],0⟩),
 (123,⟨.struct,5,48,K123,[(0,3),(1,3),(2,3),(3,3),(4,9)],0⟩),
 (127,⟨.struct,5,48,K127,[(0,3),(1,3),(2,3),(3,3),(4,9)],0⟩),
 (130,⟨.slice,1,24,K130,[],123⟩),
 (134,⟨.slice,1,24,K134,[],127⟩),
 (140,⟨.struct,4,32,K140,[(0,3),(1,3),(2,4),(3,3)],0⟩),
 (141,⟨.struct,4,32,K141,[(0,3),(1,3),(2,4),(3,3)],0⟩),
 (146,⟨.struct,3,24,K146,[(0,3),(1,3),(2,3)],0⟩),
 (147,⟨.struct,3,24,K147,[(0,3),(1,3),(2,3)],0⟩),
 (160,⟨.struct,5,48,K160,[(0,3),(1,3),(2,3),(3,3),(4,9)],0⟩),
 (161,⟨.struct,5,48,K161,[(0,3),(1,3),(2,3),(3,3),(4,9)],0⟩),
 (162,⟨.struct,6,56,K162,[(0,3),(1,161)],0⟩),
 (163,⟨.struct,6,56,K163,[(0,3),(1,161)],0⟩),
 (164,⟨.struct,2,16,K164,[(0,3),(1,3)],0⟩),
 (165,⟨.struct,2,16,K165,[(0,3),(1,3)],0⟩),
 (174,⟨.ptr,1,8,[],[],264⟩),
 (178,⟨.ptr,1,8,[],[],180⟩),
 (179,⟨.struct,3,40,K179,[(0,22),(1,3),(2,4)],0⟩),
 (180,⟨.struct,3,40,K180,[(0,22),(1,3),(2,4)],0⟩),
 (185,⟨.struct,2,16,K185,[(0,3),(1,3)],0⟩),
 (194,⟨.struct,3,40,K194,[(0,3),(1,22),(2,4)],0⟩),
 (195,⟨.struct,3,40,K195,[(0,3),(1,22),(2,4)],0⟩),
 (240,⟨.ptr,1,8,[],[],78⟩),
 (263,⟨.struct,3,40,K263,[(0,22),(1,3),(2,3)],0⟩),
 (264,⟨.struct,3,40,K264,[(0,22),(1,3),(2,3)],0⟩),
 (265,⟨.ptr,1,8,[],[],267⟩),
 (266,⟨.struct,3,40,K266,[(0,22),(1,3),(2,4)],0⟩),
 (267,⟨.struct,3,40,K267,[(0,22),(1,3),(2,4)],0⟩),
 (275,⟨.int .u64,1,8,K275,[],0⟩),
 (277,⟨.struct,3,40,K277,[(0,3),(1,22),(2,4)],0⟩),
 (279,⟨.struct,3,56,K279,[(0,3),(1,89)],0⟩),
 (280,⟨.struct,3,56,K280,[(0,3),(1,89)],0⟩),
 (281,⟨.struct,3,56,K281,[(0,3),(1,27)],0⟩),
 (282,⟨.struct,3,56,K282,[(0,3),(1,27)],0⟩),
 (295,⟨.struct,4,32,K295,[(0,3),(1,3),(2,4),(3,3)],0⟩),
 (297,⟨.struct,3,24,K297,[(0,3),(1,3),(2,3)],0⟩),
 (299,⟨.struct,2,16,K299,[(0,3),(1,3)],0⟩),
 (311,⟨.ptr,1,8,[],[],195⟩),
 (317,⟨.ptr,1,8,[],[],147⟩),
 (327,⟨.struct,5,48,K327,[(0,3),(1,3),(2,3),(3,3),(4,9)],0⟩),
 (328,⟨.struct,6,56,K328,[(0,3),(1,327)],0⟩),
 (329,⟨.struct,6,56,K329,[(0,3),(1,327)],0⟩),
 (332,⟨.struct,2,16,K332,[(0,3),(1,3)],0⟩),
 (340,⟨.slice,1,24,K340,[],9⟩),
 (360,⟨.int .u32,1,4,K360,[],0⟩),
 (361,⟨.int .u8,1,1,K361,[],0⟩),
 (362,⟨.int .u8,1,1,K362,[],0⟩),
 (364,⟨.ptr,1,8,[],[],5⟩),
 (365,⟨.int .i32,1,4,K365,[],0⟩),
 (366,⟨.int .i32,1,4,K366,[],0⟩)]
def ti:Ti:=λt=>look? t SV
end Go.Abs.Xz
