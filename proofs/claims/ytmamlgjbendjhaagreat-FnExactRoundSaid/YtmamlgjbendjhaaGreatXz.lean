/- What the functions of this program answer, part z. -/
import Derived.Test.YtmamlgjbendjhaaGreatW0
import Derived.Test.YtmamlgjbendjhaaGreatProg
/- The types of the seat, as its translation has them: by a program. -/
namespace Go.Abs.Xz
def K1:List Kd:=[.fn]
def K2:List Kd:=[.int .i64]
def K3:List Kd:=[.int .i64]
def K4:List Kd:=[.bool]
def K5:List Kd:=[.int .u8]
def K6:List Kd:=[.int .u8]
def K7:List Kd:=[.int .i64,.int .i64,.bool,.int .u8]
def K8:List Kd:=[.int .i64,.int .i64,.bool,.int .u8]
def K9:List Kd:=[.str]
def K10:List Kd:=[.str]
def K11:List Kd:=[.str]
def K12:List Kd:=[.int .u64]
def K21:List Kd:=[.int .i32]
def K22:List Kd:=[.sl K5]
def K23:List Kd:=[.fn]
def K161:List Kd:=[.int .i64,.int .i64,.int .i64,.int .i64,.str]
def K163:List Kd:=[.int .i64,.int .i64,.int .i64,.int .i64,.int .i64,.str]
def K24:List Kd:=[.sl K163]
def K165:List Kd:=[.int .i64,.int .i64]
def K25:List Kd:=[.sl K165]
def K26:List Kd:=[.sl K163,.sl K165]
def K27:List Kd:=[.sl K163,.sl K165]
def K28:List Kd:=[.sl K3]
def K29:List Kd:=[.sl K3,.int .i64]
def K30:List Kd:=[.sl K3,.int .i64]
def K31:List Kd:=[.sl K27]
def K32:List Kd:=[.int .i64,.int .i64,.sl K27]
def K33:List Kd:=[.int .i64,.int .i64,.sl K27]
def K34:List Kd:=[.sl K28]
def K141:List Kd:=[.int .i64,.int .i64,.bool,.int .i64]
def K35:List Kd:=[.sl K141]
def K147:List Kd:=[.int .i64,.int .i64,.int .i64]
def K36:List Kd:=[.sl K147]
def K37:List Kd:=[.int .i64,.int .i64,.sl K163,.sl K165,.sl K3,.int .i64,.int .i64,.int .i64,.sl K27,.sl K3,.sl K3,.sl K28,.int .i64,.int .i64,.sl K141,.int .i64,.int .i64,.int .i64,.sl K147]
def K38:List Kd:=[.int .i64,.int .i64,.sl K163,.sl K165,.sl K3,.int .i64,.int .i64,.int .i64,.sl K27,.sl K3,.sl K3,.sl K28,.int .i64,.int .i64,.sl K141,.int .i64,.int .i64,.int .i64,.sl K147]
def K40:List Kd:=[.fn]
def K185:List Kd:=[.int .i64,.int .i64]
def K41:List Kd:=[.sl K185]
def K42:List Kd:=[.int .i64,.int .i64,.int .i64,.int .i64,.int .i64,.sl K3,.int .i64,.sl K3,.sl K3,.sl K163,.sl K165,.sl K185]
def K43:List Kd:=[.int .i64,.int .i64,.int .i64,.int .i64,.int .i64,.sl K3,.int .i64,.sl K3,.sl K3,.sl K163,.sl K165,.sl K185]
def K45:List Kd:=[.fn]
def K46:List Kd:=[.fn]
def K47:List Kd:=[.fn]
def K48:List Kd:=[.fn]
def K49:List Kd:=[.sl K43]
def K51:List Kd:=[.fn]
def K52:List Kd:=[.fn]
def K54:List Kd:=[.fn]
def K55:List Kd:=[.fn]
def K57:List Kd:=[.fn]
def K58:List Kd:=[.fn]
def K59:List Kd:=[.fn]
def K61:List Kd:=[.fn]
def K62:List Kd:=[.sl K22]
def K64:List Kd:=[.fn]
def K66:List Kd:=[.fn]
def K67:List Kd:=[.fn]
def K327:List Kd:=[.int .i64,.int .i64,.int .i64,.int .i64,.str]
def K329:List Kd:=[.int .i64,.int .i64,.int .i64,.int .i64,.int .i64,.str]
def K86:List Kd:=[.sl K329]
def K332:List Kd:=[.int .i64,.int .i64]
def K87:List Kd:=[.sl K332]
def K89:List Kd:=[.sl K329,.sl K332]
def K90:List Kd:=[.sl K3,.int .i64]
def K91:List Kd:=[.sl K89]
def K93:List Kd:=[.int .i64,.int .i64,.sl K89]
def K295:List Kd:=[.int .i64,.int .i64,.bool,.int .i64]
def K94:List Kd:=[.sl K295]
def K297:List Kd:=[.int .i64,.int .i64,.int .i64]
def K95:List Kd:=[.sl K297]
def K97:List Kd:=[.int .i64,.int .i64,.sl K329,.sl K332,.sl K3,.int .i64,.int .i64,.int .i64,.sl K89,.sl K3,.sl K3,.sl K28,.int .i64,.int .i64,.sl K295,.int .i64,.int .i64,.int .i64,.sl K297]
def K68:List Kd:=[.sl K97]
def K277:List Kd:=[.int .i64,.sl K5,.bool]
def K69:List Kd:=[.sl K277]
def K280:List Kd:=[.int .i64,.sl K329,.sl K332]
def K70:List Kd:=[.sl K280]
def K71:List Kd:=[.sl K97,.sl K277,.sl K280]
def K72:List Kd:=[.sl K97,.sl K277,.sl K280]
def K73:List Kd:=[.fn]
def K74:List Kd:=[.sl K38]
def K195:List Kd:=[.int .i64,.sl K5,.bool]
def K75:List Kd:=[.sl K195]
def K282:List Kd:=[.int .i64,.sl K163,.sl K165]
def K76:List Kd:=[.sl K282]
def K77:List Kd:=[.sl K38,.sl K195,.sl K282]
def K78:List Kd:=[.sl K38,.sl K195,.sl K282]
def K79:List Kd:=[.fn]
def K80:List Kd:=[.fn]
def K81:List Kd:=[.fn]
def K82:List Kd:=[.fn]
def K83:List Kd:=[.fn]
def K84:List Kd:=[.fn]
def K85:List Kd:=[.fn]
def K88:List Kd:=[.sl K329,.sl K332]
def K92:List Kd:=[.int .i64,.int .i64,.sl K89]
def K96:List Kd:=[.int .i64,.int .i64,.sl K329,.sl K332,.sl K3,.int .i64,.int .i64,.int .i64,.sl K89,.sl K3,.sl K3,.sl K28,.int .i64,.int .i64,.sl K295,.int .i64,.int .i64,.int .i64,.sl K297]
def K299:List Kd:=[.int .i64,.int .i64]
def K98:List Kd:=[.sl K299]
def K99:List Kd:=[.int .i64,.int .i64,.int .i64,.int .i64,.int .i64,.sl K3,.int .i64,.sl K3,.sl K3,.sl K329,.sl K332,.sl K299]
def K100:List Kd:=[.int .i64,.int .i64,.int .i64,.int .i64,.int .i64,.sl K3,.int .i64,.sl K3,.sl K3,.sl K329,.sl K332,.sl K299]
def K101:List Kd:=[.fn]
def K102:List Kd:=[.fn]
def K103:List Kd:=[.fn]
def K104:List Kd:=[.fn]
def K105:List Kd:=[.fn]
def K106:List Kd:=[.fn]
def K107:List Kd:=[.fn]
def K108:List Kd:=[.fn]
def K109:List Kd:=[.fn]
def K110:List Kd:=[.fn]
def K111:List Kd:=[.fn]
def K112:List Kd:=[.fn]
def K113:List Kd:=[.fn]
def K114:List Kd:=[.fn]
def K115:List Kd:=[.fn]
def K116:List Kd:=[.fn]
def K118:List Kd:=[.fn]
def K119:List Kd:=[.fn]
def K120:List Kd:=[.fn]
def K121:List Kd:=[.fn]
def K122:List Kd:=[.int .i64,.int .i64,.int .i64,.int .i64,.str]
def K123:List Kd:=[.int .i64,.int .i64,.int .i64,.int .i64,.str]
def K124:List Kd:=[.fn]
def K126:List Kd:=[.fn]
def K127:List Kd:=[.int .i64,.int .i64,.int .i64,.int .i64,.str]
def K128:List Kd:=[.fn]
def K129:List Kd:=[.fn]
def K130:List Kd:=[.sl K123]
def K131:List Kd:=[.fn]
def K133:List Kd:=[.fn]
def K134:List Kd:=[.sl K127]
def K135:List Kd:=[.fn]
def K136:List Kd:=[.fn]
def K137:List Kd:=[.fn]
def K138:List Kd:=[.fn]
def K139:List Kd:=[.fn]
def K140:List Kd:=[.int .i64,.int .i64,.bool,.int .i64]
def K142:List Kd:=[.fn]
def K143:List Kd:=[.fn]
def K144:List Kd:=[.fn]
def K145:List Kd:=[.fn]
def K146:List Kd:=[.int .i64,.int .i64,.int .i64]
def K148:List Kd:=[.fn]
def K149:List Kd:=[.fn]
def K150:List Kd:=[.fn]
def K151:List Kd:=[.fn]
def K152:List Kd:=[.fn]
def K153:List Kd:=[.fn]
def K154:List Kd:=[.fn]
def K155:List Kd:=[.fn]
def K156:List Kd:=[.fn]
def K157:List Kd:=[.fn]
def K158:List Kd:=[.fn]
def K159:List Kd:=[.fn]
def K160:List Kd:=[.int .i64,.int .i64,.int .i64,.int .i64,.str]
def K162:List Kd:=[.int .i64,.int .i64,.int .i64,.int .i64,.int .i64,.str]
def K164:List Kd:=[.int .i64,.int .i64]
def K166:List Kd:=[.fn]
def K167:List Kd:=[.fn]
def K168:List Kd:=[.fn]
def K170:List Kd:=[.fn]
def K171:List Kd:=[.fn]
def K172:List Kd:=[.fn]
def K173:List Kd:=[.fn]
def K175:List Kd:=[.fn]
def K176:List Kd:=[.fn]
def K177:List Kd:=[.fn]
def K179:List Kd:=[.sl K5,.int .i64,.bool]
def K180:List Kd:=[.sl K5,.int .i64,.bool]
def K181:List Kd:=[.fn]
def K182:List Kd:=[.fn]
def K183:List Kd:=[.fn]
def K184:List Kd:=[.fn]
def K186:List Kd:=[.fn]
def K187:List Kd:=[.fn]
def K188:List Kd:=[.fn]
def K189:List Kd:=[.fn]
def K190:List Kd:=[.fn]
def K191:List Kd:=[.fn]
def K192:List Kd:=[.fn]
def K193:List Kd:=[.fn]
def K194:List Kd:=[.int .i64,.sl K5,.bool]
def K196:List Kd:=[.fn]
def K197:List Kd:=[.fn]
def K198:List Kd:=[.fn]
def K199:List Kd:=[.fn]
def K200:List Kd:=[.fn]
def K201:List Kd:=[.fn]
def K202:List Kd:=[.fn]
def K203:List Kd:=[.fn]
def K204:List Kd:=[.fn]
def K205:List Kd:=[.fn]
def K206:List Kd:=[.fn]
def K207:List Kd:=[.fn]
def K208:List Kd:=[.fn]
def K209:List Kd:=[.fn]
def K210:List Kd:=[.fn]
def K211:List Kd:=[.fn]
def K212:List Kd:=[.fn]
def K213:List Kd:=[.fn]
def K214:List Kd:=[.fn]
def K215:List Kd:=[.fn]
def K216:List Kd:=[.fn]
def K217:List Kd:=[.fn]
def K218:List Kd:=[.fn]
def K219:List Kd:=[.fn]
def K220:List Kd:=[.fn]
def K221:List Kd:=[.fn]
def K222:List Kd:=[.fn]
def K223:List Kd:=[.fn]
def K224:List Kd:=[.fn]
def K225:List Kd:=[.fn]
def K226:List Kd:=[.fn]
def K227:List Kd:=[.fn]
def K228:List Kd:=[.fn]
def K229:List Kd:=[.fn]
def K230:List Kd:=[.fn]
def K231:List Kd:=[.fn]
def K232:List Kd:=[.fn]
def K233:List Kd:=[.fn]
def K234:List Kd:=[.fn]
def K236:List Kd:=[.fn]
def K237:List Kd:=[.fn]
def K238:List Kd:=[.fn]
def K239:List Kd:=[.fn]
def K241:List Kd:=[.fn]
def K242:List Kd:=[.fn]
def K243:List Kd:=[.fn]
def K244:List Kd:=[.fn]
def K245:List Kd:=[.fn]
def K246:List Kd:=[.fn]
def K247:List Kd:=[.fn]
def K248:List Kd:=[.fn]
def K249:List Kd:=[.fn]
def K250:List Kd:=[.fn]
def K251:List Kd:=[.fn]
def K252:List Kd:=[.fn]
def K253:List Kd:=[.fn]
def K254:List Kd:=[.fn]
def K255:List Kd:=[.fn]
def K256:List Kd:=[.fn]
def K257:List Kd:=[.fn]
def K258:List Kd:=[.fn]
def K259:List Kd:=[.fn]
def K260:List Kd:=[.fn]
def K261:List Kd:=[.fn]
def K262:List Kd:=[.fn]
def K263:List Kd:=[.sl K5,.int .i64,.int .i64]
def K264:List Kd:=[.sl K5,.int .i64,.int .i64]
def K266:List Kd:=[.sl K5,.int .i64,.bool]
def K267:List Kd:=[.sl K5,.int .i64,.bool]
def K268:List Kd:=[.fn]
def K269:List Kd:=[.fn]
def K271:List Kd:=[.fn]
def K272:List Kd:=[.fn]
def K273:List Kd:=[.fn]
def K274:List Kd:=[.fn]
def K275:List Kd:=[.int .u64]
def K276:List Kd:=[.fn]
def K278:List Kd:=[.fn]
def K279:List Kd:=[.int .i64,.sl K329,.sl K332]
def K281:List Kd:=[.int .i64,.sl K163,.sl K165]
def K283:List Kd:=[.fn]
def K284:List Kd:=[.fn]
def K285:List Kd:=[.fn]
def K286:List Kd:=[.fn]
def K287:List Kd:=[.fn]
def K288:List Kd:=[.fn]
def K289:List Kd:=[.fn]
def K290:List Kd:=[.fn]
def K291:List Kd:=[.fn]
def K292:List Kd:=[.fn]
def K293:List Kd:=[.fn]
def K294:List Kd:=[.fn]
def K296:List Kd:=[.fn]
def K298:List Kd:=[.fn]
def K300:List Kd:=[.fn]
def K301:List Kd:=[.fn]
def K302:List Kd:=[.fn]
def K303:List Kd:=[.fn]
def K305:List Kd:=[.fn]
def K306:List Kd:=[.fn]
def K307:List Kd:=[.fn]
def K308:List Kd:=[.fn]
def K309:List Kd:=[.fn]
def K310:List Kd:=[.fn]
def K312:List Kd:=[.fn]
def K313:List Kd:=[.fn]
def K314:List Kd:=[.fn]
def K315:List Kd:=[.fn]
def K316:List Kd:=[.fn]
def K318:List Kd:=[.fn]
def K320:List Kd:=[.fn]
def K321:List Kd:=[.fn]
def K322:List Kd:=[.fn]
def K323:List Kd:=[.fn]
def K325:List Kd:=[.fn]
def K326:List Kd:=[.fn]
def K328:List Kd:=[.int .i64,.int .i64,.int .i64,.int .i64,.int .i64,.str]
def K330:List Kd:=[.fn]
def K331:List Kd:=[.fn]
def K333:List Kd:=[.fn]
def K334:List Kd:=[.fn]
def K336:List Kd:=[.fn]
def K338:List Kd:=[.fn]
def K339:List Kd:=[.fn]
def K340:List Kd:=[.sl K9]
def K341:List Kd:=[.fn]
def K342:List Kd:=[.fn]
def K343:List Kd:=[.fn]
def K344:List Kd:=[.fn]
def K345:List Kd:=[.fn]
def K346:List Kd:=[.fn]
def K347:List Kd:=[.fn]
def K348:List Kd:=[.fn]
def K349:List Kd:=[.fn]
def K350:List Kd:=[.fn]
def K351:List Kd:=[.fn]
def K353:List Kd:=[.fn]
def K354:List Kd:=[.fn]
def K360:List Kd:=[.int .u32]
def K361:List Kd:=[.int .u8]
def K362:List Kd:=[.int .u8]
def K363:List Kd:=[.fn]
def K365:List Kd:=[.int .i32]
def K366:List Kd:=[.int .i32]
def KG:List (Nat×TyI):=[(1,⟨.other,1,8,K1,[],0⟩),
 (2,⟨.int .i64,1,8,K2,[],0⟩),
 (3,⟨.int .i64,1,8,K3,[],0⟩),
 (4,⟨.bool,1,1,K4,[],0⟩),
 (5,⟨.int .u8,1,1,K5,[],0⟩),
 (6,⟨.int .u8,1,1,K6,[],0⟩),
 (7,⟨.struct,4,24,K7,[(0,2),(1,3),(2,4),(3,6)],0⟩),
 (8,⟨.struct,4,24,K8,[(0,2),(1,3),(2,4),(3,6)],0⟩),
 (9,⟨.string,1,16,K9,[],0⟩),
 (10,⟨.string,1,16,K10,[],0⟩),
 (11,⟨.string,1,16,K11,[],0⟩),
 (12,⟨.int .u64,1,8,K12,[],0⟩),
 (21,⟨.int .i32,1,4,K21,[],0⟩),
 (22,⟨.slice,1,24,K22,[],5⟩),
 (23,⟨.other,1,8,K23,[],0⟩),
 (24,⟨.slice,1,24,K24,[],163⟩),
 (25,⟨.slice,1,24,K25,[],165⟩),
 (26,⟨.struct,2,48,K26,[(0,24),(1,25)],0⟩),
 (27,⟨.struct,2,48,K27,[(0,24),(1,25)],0⟩),
 (28,⟨.slice,1,24,K28,[],3⟩),
 (29,⟨.struct,2,32,K29,[(0,28),(1,3)],0⟩),
 (30,⟨.struct,2,32,K30,[(0,28),(1,3)],0⟩),
 (31,⟨.slice,1,24,K31,[],27⟩),
 (32,⟨.struct,3,40,K32,[(0,3),(1,3),(2,31)],0⟩),
 (33,⟨.struct,3,40,K33,[(0,3),(1,3),(2,31)],0⟩),
 (34,⟨.slice,1,24,K34,[],28⟩),
 (35,⟨.slice,1,24,K35,[],141⟩),
 (36,⟨.slice,1,24,K36,[],147⟩),
 (37,⟨.struct,19,296,K37,[(0,3),(1,3),(2,27),(4,30),(6,33),(9,28),(10,28),(11,34),(12,3),(13,3),(14,35),(15,3),(16,3),(17,3),(18,36)],0⟩),
 (38,⟨.struct,19,296,K38,[(0,3),(1,3),(2,27),(4,30),(6,33),(9,28),(10,28),(11,34),(12,3),(13,3),(14,35),(15,3),(16,3),(17,3),(18,36)],0⟩),
 (40,⟨.other,1,8,K40,[],0⟩),
 (41,⟨.slice,1,24,K41,[],185⟩),
 (42,⟨.struct,12,192,K42,[(0,3),(1,3),(2,3),(3,3),(4,3),(5,30),(7,28),(8,28),(9,27),(11,41)],0⟩),
 (43,⟨.struct,12,192,K43,[(0,3),(1,3),(2,3),(3,3),(4,3),(5,30),(7,28),(8,28),(9,27),(11,41)],0⟩),
 (45,⟨.other,1,8,K45,[],0⟩),
 (46,⟨.other,1,8,K46,[],0⟩),
 (47,⟨.other,1,8,K47,[],0⟩),
 (48,⟨.other,1,8,K48,[],0⟩),
 (49,⟨.slice,1,24,K49,[],43⟩),
 (51,⟨.other,1,8,K51,[],0⟩),
 (52,⟨.other,1,8,K52,[],0⟩),
 (54,⟨.other,1,8,K54,[],0⟩),
 (55,⟨.other,1,8,K55,[],0⟩),
 (57,⟨.other,1,8,K57,[],0⟩),
 (58,⟨.other,1,8,K58,[],0⟩),
 (59,⟨.other,1,8,K59,[],0⟩),
 (61,⟨.other,1,8,K61,[],0⟩),
 (62,⟨.slice,1,24,K62,[],22⟩),
 (64,⟨.other,1,8,K64,[],0⟩),
 (66,⟨.other,1,8,K66,[],0⟩),
 (67,⟨.other,1,8,K67,[],0⟩),
 (68,⟨.slice,1,24,K68,[],97⟩),
 (69,⟨.slice,1,24,K69,[],277⟩),
 (70,⟨.slice,1,24,K70,[],280⟩),
 (71,⟨.struct,3,72,K71,[(0,68),(1,69),(2,70)],0⟩),
 (72,⟨.struct,3,72,K72,[(0,68),(1,69),(2,70)],0⟩),
 (73,⟨.other,1,8,K73,[],0⟩),
 (74,⟨.slice,1,24,K74,[],38⟩),
 (75,⟨.slice,1,24,K75,[],195⟩),
 (76,⟨.slice,1,24,K76,[],282⟩),
 (77,⟨.struct,3,72,K77,[(0,74),(1,75),(2,76)],0⟩),
 (78,⟨.struct,3,72,K78,[(0,74),(1,75),(2,76)],0⟩),
 (79,⟨.other,1,8,K79,[],0⟩),
 (80,⟨.other,1,8,K80,[],0⟩),
 (81,⟨.other,1,8,K81,[],0⟩),
 (82,⟨.other,1,8,K82,[],0⟩),
 (83,⟨.other,1,8,K83,[],0⟩),
 (84,⟨.other,1,8,K84,[],0⟩),
 (85,⟨.other,1,8,K85,[],0⟩),
 (86,⟨.slice,1,24,K86,[],329⟩),
 (87,⟨.slice,1,24,K87,[],332⟩),
 (88,⟨.struct,2,48,K88,[(0,86),(1,87)],0⟩),
 (89,⟨.struct,2,48,K89,[(0,86),(1,87)],0⟩),
 (90,⟨.struct,2,32,K90,[(0,28),(1,3)],0⟩),
 (91,⟨.slice,1,24,K91,[],89⟩),
 (92,⟨.struct,3,40,K92,[(0,3),(1,3),(2,91)],0⟩),
 (93,⟨.struct,3,40,K93,[(0,3),(1,3),(2,91)],0⟩),
 (94,⟨.slice,1,24,K94,[],295⟩),
 (95,⟨.slice,1,24,K95,[],297⟩),
 (96,⟨.struct,19,296,K96,[(0,3),(1,3),(2,89),(4,90),(6,93),(9,28),(10,28),(11,34),(12,3),(13,3),(14,94),(15,3),(16,3),(17,3),(18,95)],0⟩),
 (97,⟨.struct,19,296,K97,[(0,3),(1,3),(2,89),(4,90),(6,93),(9,28),(10,28),(11,34),(12,3),(13,3),(14,94),(15,3),(16,3),(17,3),(18,95)],0⟩),
 (98,⟨.slice,1,24,K98,[],299⟩),
 (99,⟨.struct,12,192,K99,[(0,3),(1,3),(2,3),(3,3),(4,3),(5,90),(7,28),(8,28),(9,89),(11,98)],0⟩),
 (100,⟨.struct,12,192,K100,[(0,3),(1,3),(2,3),(3,3),(4,3),(5,90),(7,28),(8,28),(9,89),(11,98)],0⟩),
 (101,⟨.other,1,8,K101,[],0⟩),
 (102,⟨.other,1,8,K102,[],0⟩),
 (103,⟨.other,1,8,K103,[],0⟩),
 (104,⟨.other,1,8,K104,[],0⟩),
 (105,⟨.other,1,8,K105,[],0⟩),
 (106,⟨.other,1,8,K106,[],0⟩),
 (107,⟨.other,1,8,K107,[],0⟩),
 (108,⟨.other,1,8,K108,[],0⟩),
 (109,⟨.other,1,8,K109,[],0⟩),
 (110,⟨.other,1,8,K110,[],0⟩),
 (111,⟨.other,1,8,K111,[],0⟩),
 (112,⟨.other,1,8,K112,[],0⟩),
 (113,⟨.other,1,8,K113,[],0⟩),
 (114,⟨.other,1,8,K114,[],0⟩),
 (115,⟨.other,1,8,K115,[],0⟩),
 (116,⟨.other,1,8,K116,[],0⟩),
 (118,⟨.other,1,8,K118,[],0⟩),
 (119,⟨.other,1,8,K119,[],0⟩),
 (120,⟨.other,1,8,K120,[],0⟩),
 (121,⟨.other,1,8,K121,[],0⟩),
 (122,⟨.struct,5,48,K122,[(0,3),(1,3),(2,3),(3,3),(4,9)],0⟩),
 (123,⟨.struct,5,48,K123,[(0,3),(1,3),(2,3),(3,3),(4,9)],0⟩),
 (124,⟨.other,1,8,K124,[],0⟩),
 (126,⟨.other,1,8,K126,[],0⟩),
 (127,⟨.struct,5,48,K127,[(0,3),(1,3),(2,3),(3,3),(4,9)],0⟩),
 (128,⟨.other,1,8,K128,[],0⟩),
 (129,⟨.other,1,8,K129,[],0⟩),
 (130,⟨.slice,1,24,K130,[],123⟩),
 (131,⟨.other,1,8,K131,[],0⟩),
 (133,⟨.other,1,8,K133,[],0⟩),
 (134,⟨.slice,1,24,K134,[],127⟩),
 (135,⟨.other,1,8,K135,[],0⟩),
 (136,⟨.other,1,8,K136,[],0⟩),
 (137,⟨.other,1,8,K137,[],0⟩),
 (138,⟨.other,1,8,K138,[],0⟩),
 (139,⟨.other,1,8,K139,[],0⟩),
 (140,⟨.struct,4,32,K140,[(0,3),(1,3),(2,4),(3,3)],0⟩),
 (141,⟨.struct,4,32,K141,[(0,3),(1,3),(2,4),(3,3)],0⟩),
 (142,⟨.other,1,8,K142,[],0⟩),
 (143,⟨.other,1,8,K143,[],0⟩),
 (144,⟨.other,1,8,K144,[],0⟩),
 (145,⟨.other,1,8,K145,[],0⟩),
 (146,⟨.struct,3,24,K146,[(0,3),(1,3),(2,3)],0⟩),
 (147,⟨.struct,3,24,K147,[(0,3),(1,3),(2,3)],0⟩),
 (148,⟨.other,1,8,K148,[],0⟩),
 (149,⟨.other,1,8,K149,[],0⟩),
 (150,⟨.other,1,8,K150,[],0⟩),
 (151,⟨.other,1,8,K151,[],0⟩),
 (152,⟨.other,1,8,K152,[],0⟩),
 (153,⟨.other,1,8,K153,[],0⟩),
 (154,⟨.other,1,8,K154,[],0⟩),
 (155,⟨.other,1,8,K155,[],0⟩),
 (156,⟨.other,1,8,K156,[],0⟩),
 (157,⟨.other,1,8,K157,[],0⟩),
 (158,⟨.other,1,8,K158,[],0⟩),
 (159,⟨.other,1,8,K159,[],0⟩),
 (160,⟨.struct,5,48,K160,[(0,3),(1,3),(2,3),(3,3),(4,9)],0⟩),
 (161,⟨.struct,5,48,K161,[(0,3),(1,3),(2,3),(3,3),(4,9)],0⟩),
 (162,⟨.struct,6,56,K162,[(0,3),(1,161)],0⟩),
 (163,⟨.struct,6,56,K163,[(0,3),(1,161)],0⟩),
 (164,⟨.struct,2,16,K164,[(0,3),(1,3)],0⟩),
 (165,⟨.struct,2,16,K165,[(0,3),(1,3)],0⟩),
 (166,⟨.other,1,8,K166,[],0⟩),
 (167,⟨.other,1,8,K167,[],0⟩),
 (168,⟨.other,1,8,K168,[],0⟩),
 (170,⟨.other,1,8,K170,[],0⟩),
 (171,⟨.other,1,8,K171,[],0⟩),
 (172,⟨.other,1,8,K172,[],0⟩),
 (173,⟨.other,1,8,K173,[],0⟩),
 (174,⟨.ptr,1,8,[],[],264⟩),
 (175,⟨.other,1,8,K175,[],0⟩),
 (176,⟨.other,1,8,K176,[],0⟩),
 (177,⟨.other,1,8,K177,[],0⟩),
 (178,⟨.ptr,1,8,[],[],180⟩),
 (179,⟨.struct,3,40,K179,[(0,22),(1,3),(2,4)],0⟩),
 (180,⟨.struct,3,40,K180,[(0,22),(1,3),(2,4)],0⟩),
 (181,⟨.other,1,8,K181,[],0⟩),
 (182,⟨.other,1,8,K182,[],0⟩),
 (183,⟨.other,1,8,K183,[],0⟩),
 (184,⟨.other,1,8,K184,[],0⟩),
 (185,⟨.struct,2,16,K185,[(0,3),(1,3)],0⟩),
 (186,⟨.other,1,8,K186,[],0⟩),
 (187,⟨.other,1,8,K187,[],0⟩),
 (188,⟨.other,1,8,K188,[],0⟩),
 (189,⟨.other,1,8,K189,[],0⟩),
 (190,⟨.other,1,8,K190,[],0⟩),
 (191,⟨.other,1,8,K191,[],0⟩),
 (192,⟨.other,1,8,K192,[],0⟩),
 (193,⟨.other,1,8,K193,[],0⟩),
 (194,⟨.struct,3,40,K194,[(0,3),(1,22),(2,4)],0⟩),
 (195,⟨.struct,3,40,K195,[(0,3),(1,22),(2,4)],0⟩),
 (196,⟨.other,1,8,K196,[],0⟩),
 (197,⟨.other,1,8,K197,[],0⟩),
 (198,⟨.other,1,8,K198,[],0⟩),
 (199,⟨.other,1,8,K199,[],0⟩),
 (200,⟨.other,1,8,K200,[],0⟩),
 (201,⟨.other,1,8,K201,[],0⟩),
 (202,⟨.other,1,8,K202,[],0⟩),
 (203,⟨.other,1,8,K203,[],0⟩),
 (204,⟨.other,1,8,K204,[],0⟩),
 (205,⟨.other,1,8,K205,[],0⟩),
 (206,⟨.other,1,8,K206,[],0⟩),
 (207,⟨.other,1,8,K207,[],0⟩),
 (208,⟨.other,1,8,K208,[],0⟩),
 (209,⟨.other,1,8,K209,[],0⟩),
 (210,⟨.other,1,8,K210,[],0⟩),
 (211,⟨.other,1,8,K211,[],0⟩),
 (212,⟨.other,1,8,K212,[],0⟩),
 (213,⟨.other,1,8,K213,[],0⟩),
 (214,⟨.other,1,8,K214,[],0⟩),
 (215,⟨.other,1,8,K215,[],0⟩),
 (216,⟨.other,1,8,K216,[],0⟩),
 (217,⟨.other,1,8,K217,[],0⟩),
 (218,⟨.other,1,8,K218,[],0⟩),
 (219,⟨.other,1,8,K219,[],0⟩),
 (220,⟨.other,1,8,K220,[],0⟩),
 (221,⟨.other,1,8,K221,[],0⟩),
 (222,⟨.other,1,8,K222,[],0⟩),
 (223,⟨.other,1,8,K223,[],0⟩),
 (224,⟨.other,1,8,K224,[],0⟩),
 (225,⟨.other,1,8,K225,[],0⟩),
 (226,⟨.other,1,8,K226,[],0⟩),
 (227,⟨.other,1,8,K227,[],0⟩),
 (228,⟨.other,1,8,K228,[],0⟩),
 (229,⟨.other,1,8,K229,[],0⟩),
 (230,⟨.other,1,8,K230,[],0⟩),
 (231,⟨.other,1,8,K231,[],0⟩),
 (232,⟨.other,1,8,K232,[],0⟩),
 (233,⟨.other,1,8,K233,[],0⟩),
 (234,⟨.other,1,8,K234,[],0⟩),
 (236,⟨.other,1,8,K236,[],0⟩),
 (237,⟨.other,1,8,K237,[],0⟩),
 (238,⟨.other,1,8,K238,[],0⟩),
 (239,⟨.other,1,8,K239,[],0⟩),
 (240,⟨.ptr,1,8,[],[],78⟩),
 (241,⟨.other,1,8,K241,[],0⟩),
 (242,⟨.other,1,8,K242,[],0⟩),
 (243,⟨.other,1,8,K243,[],0⟩),
 (244,⟨.other,1,8,K244,[],0⟩),
 (245,⟨.other,1,8,K245,[],0⟩),
 (246,⟨.other,1,8,K246,[],0⟩),
 (247,⟨.other,1,8,K247,[],0⟩),
 (248,⟨.other,1,8,K248,[],0⟩),
 (249,⟨.other,1,8,K249,[],0⟩),
 (250,⟨.other,1,8,K250,[],0⟩),
 (251,⟨.other,1,8,K251,[],0⟩),
 (252,⟨.other,1,8,K252,[],0⟩),
 (253,⟨.other,1,8,K253,[],0⟩),
 (254,⟨.other,1,8,K254,[],0⟩),
 (255,⟨.other,1,8,K255,[],0⟩),
 (256,⟨.other,1,8,K256,[],0⟩),
 (257,⟨.other,1,8,K257,[],0⟩),
 (258,⟨.other,1,8,K258,[],0⟩),
 (259,⟨.other,1,8,K259,[],0⟩),
 (260,⟨.other,1,8,K260,[],0⟩),
 (261,⟨.other,1,8,K261,[],0⟩),
 (262,⟨.other,1,8,K262,[],0⟩),
 (263,⟨.struct,3,40,K263,[(0,22),(1,3),(2,3)],0⟩),
 (264,⟨.struct,3,40,K264,[(0,22),(1,3),(2,3)],0⟩),
 (265,⟨.ptr,1,8,[],[],267⟩),
 (266,⟨.struct,3,40,K266,[(0,22),(1,3),(2,4)],0⟩),
 (267,⟨.struct,3,40,K267,[(0,22),(1,3),(2,4)],0⟩),
 (268,⟨.other,1,8,K268,[],0⟩),
 (269,⟨.other,1,8,K269,[],0⟩),
 (271,⟨.other,1,8,K271,[],0⟩),
 (272,⟨.other,1,8,K272,[],0⟩),
 (273,⟨.other,1,8,K273,[],0⟩),
 (274,⟨.other,1,8,K274,[],0⟩),
 (275,⟨.int .u64,1,8,K275,[],0⟩),
 (276,⟨.other,1,8,K276,[],0⟩),
 (277,⟨.struct,3,40,K277,[(0,3),(1,22),(2,4)],0⟩),
 (278,⟨.other,1,8,K278,[],0⟩),
 (279,⟨.struct,3,56,K279,[(0,3),(1,89)],0⟩),
 (280,⟨.struct,3,56,K280,[(0,3),(1,89)],0⟩),
 (281,⟨.struct,3,56,K281,[(0,3),(1,27)],0⟩),
 (282,⟨.struct,3,56,K282,[(0,3),(1,27)],0⟩),
 (283,⟨.other,1,8,K283,[],0⟩),
 (284,⟨.other,1,8,K284,[],0⟩),
 (285,⟨.other,1,8,K285,[],0⟩),
 (286,⟨.other,1,8,K286,[],0⟩),
 (287,⟨.other,1,8,K287,[],0⟩),
 (288,⟨.other,1,8,K288,[],0⟩),
 (289,⟨.other,1,8,K289,[],0⟩),
 (290,⟨.other,1,8,K290,[],0⟩),
 (291,⟨.other,1,8,K291,[],0⟩),
 (292,⟨.other,1,8,K292,[],0⟩),
 (293,⟨.other,1,8,K293,[],0⟩),
 (294,⟨.other,1,8,K294,[],0⟩),
 (295,⟨.struct,4,32,K295,[(0,3),(1,3),(2,4),(3,3)],0⟩),
 (296,⟨.other,1,8,K296,[],0⟩),
 (297,⟨.struct,3,24,K297,[(0,3),(1,3),(2,3)],0⟩),
 (298,⟨.other,1,8,K298,[],0⟩),
 (299,⟨.struct,2,16,K299,[(0,3),(1,3)],0⟩),
 (300,⟨.other,1,8,K300,[],0⟩),
 (301,⟨.other,1,8,K301,[],0⟩),
 (302,⟨.other,1,8,K302,[],0⟩),
 (303,⟨.other,1,8,K303,[],0⟩),
 (305,⟨.other,1,8,K305,[],0⟩),
 (306,⟨.other,1,8,K306,[],0⟩),
 (307,⟨.other,1,8,K307,[],0⟩),
 (308,⟨.other,1,8,K308,[],0⟩),
 (309,⟨.other,1,8,K309,[],0⟩),
 (310,⟨.other,1,8,K310,[],0⟩),
 (311,⟨.ptr,1,8,[],[],195⟩),
 (312,⟨.other,1,8,K312,[],0⟩),
 (313,⟨.other,1,8,K313,[],0⟩),
 (314,⟨.other,1,8,K314,[],0⟩),
 (315,⟨.other,1,8,K315,[],0⟩),
 (316,⟨.other,1,8,K316,[],0⟩),
 (317,⟨.ptr,1,8,[],[],147⟩),
 (318,⟨.other,1,8,K318,[],0⟩),
 (320,⟨.other,1,8,K320,[],0⟩),
 (321,⟨.other,1,8,K321,[],0⟩),
 (322,⟨.other,1,8,K322,[],0⟩),
 (323,⟨.other,1,8,K323,[],0⟩),
 (325,⟨.other,1,8,K325,[],0⟩),
 (326,⟨.other,1,8,K326,[],0⟩),
 (327,⟨.struct,5,48,K327,[(0,3),(1,3),(2,3),(3,3),(4,9)],0⟩),
 (328,⟨.struct,6,56,K328,[(0,3),(1,327)],0⟩),
 (329,⟨.struct,6,56,K329,[(0,3),(1,327)],0⟩),
 (330,⟨.other,1,8,K330,[],0⟩),
 (331,⟨.other,1,8,K331,[],0⟩),
 (332,⟨.struct,2,16,K332,[(0,3),(1,3)],0⟩),
 (333,⟨.other,1,8,K333,[],0⟩),
 (334,⟨.other,1,8,K334,[],0⟩),
 (336,⟨.other,1,8,K336,[],0⟩),
 (338,⟨.other,1,8,K338,[],0⟩),
 (339,⟨.other,1,8,K339,[],0⟩),
 (340,⟨.slice,1,24,K340,[],9⟩),
 (341,⟨.other,1,8,K341,[],0⟩),
 (342,⟨.other,1,8,K342,[],0⟩),
 (343,⟨.other,1,8,K343,[],0⟩),
 (344,⟨.other,1,8,K344,[],0⟩),
 (345,⟨.other,1,8,K345,[],0⟩),
 (346,⟨.other,1,8,K346,[],0⟩),
 (347,⟨.other,1,8,K347,[],0⟩),
 (348,⟨.other,1,8,K348,[],0⟩),
 (349,⟨.other,1,8,K349,[],0⟩),
 (350,⟨.other,1,8,K350,[],0⟩),
 (351,⟨.other,1,8,K351,[],0⟩),
 (353,⟨.other,1,8,K353,[],0⟩),
 (354,⟨.other,1,8,K354,[],0⟩),
 (360,⟨.int .u32,1,4,K360,[],0⟩),
 (361,⟨.int .u8,1,1,K361,[],0⟩),
 (362,⟨.int .u8,1,1,K362,[],0⟩),
 (363,⟨.other,1,8,K363,[],0⟩),
 (364,⟨.ptr,1,8,[],[],5⟩),
 (365,⟨.int .i32,1,4,K365,[],0⟩),
 (366,⟨.int .i32,1,4,K366,[],0⟩)]
def ti:Ti:=fun t=>look? t KG
end Go.Abs.Xz
