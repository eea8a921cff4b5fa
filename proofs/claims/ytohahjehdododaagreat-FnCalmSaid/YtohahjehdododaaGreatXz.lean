/- What the functions of this program answer, part z. -/
import Derived.Test.YtohahjehdododaaGreatW0
import Derived.Test.YtohahjehdododaaGreatProg
/- The types of the seat, as its translation has them: by a program. -/
namespace Go.Abs.Wz
def K2:List Kd:=[.int .i64]
def K3:List Kd:=[.int .i64]
def K4:List Kd:=[.bool]
def K5:List Kd:=[.int .u8]
def K6:List Kd:=[.int .u8]
def K7:List Kd:=[.int .i64,.int .i64,.bool,.int .u8]
def K8:List Kd:=[.int .i64,.int .i64,.bool,.int .u8]
def K9:List Kd:=[.str]
def K10:List Kd:=[.str]
def K11:List Kd:=[.str]
def K12:List Kd:=[.int .u64]
def K21:List Kd:=[.int .i32]
def K22:List Kd:=[.sl K5]
def K69:List Kd:=[.int .i64,.int .i64,.int .i64,.int .i64,.str]
def K71:List Kd:=[.int .i64,.int .i64,.int .i64,.int .i64,.int .i64,.str]
def K31:List Kd:=[.sl K71]
def K73:List Kd:=[.int .i64,.int .i64]
def K32:List Kd:=[.sl K73]
def K34:List Kd:=[.sl K71,.sl K73]
def K44:List Kd:=[.sl K3]
def K46:List Kd:=[.sl K3,.int .i64]
def K47:List Kd:=[.sl K34]
def K49:List Kd:=[.int .i64,.int .i64,.sl K34]
def K50:List Kd:=[.sl K44]
def K107:List Kd:=[.int .i64,.int .i64,.bool,.int .i64]
def K51:List Kd:=[.sl K107]
def K103:List Kd:=[.int .i64,.int .i64,.int .i64]
def K52:List Kd:=[.sl K103]
def K54:List Kd:=[.int .i64,.int .i64,.sl K71,.sl K73,.sl K3,.int .i64,.int .i64,.int .i64,.sl K34,.sl K3,.sl K3,.sl K44,.int .i64,.int .i64,.sl K107,.int .i64,.int .i64,.int .i64,.sl K103]
def K24:List Kd:=[.sl K54]
def K77:List Kd:=[.int .i64,.sl K5,.bool]
def K25:List Kd:=[.sl K77]
def K62:List Kd:=[.int .i64,.sl K71,.sl K73]
def K26:List Kd:=[.sl K62]
def K27:List Kd:=[.sl K54,.sl K77,.sl K62]
def K28:List Kd:=[.sl K54,.sl K77,.sl K62]
def K33:List Kd:=[.sl K71,.sl K73]
def K45:List Kd:=[.sl K3,.int .i64]
def K48:List Kd:=[.int .i64,.int .i64,.sl K34]
def K53:List Kd:=[.int .i64,.int .i64,.sl K71,.sl K73,.sl K3,.int .i64,.int .i64,.int .i64,.sl K34,.sl K3,.sl K3,.sl K44,.int .i64,.int .i64,.sl K107,.int .i64,.int .i64,.int .i64,.sl K103]
def K61:List Kd:=[.int .i64,.sl K71,.sl K73]
def K68:List Kd:=[.int .i64,.int .i64,.int .i64,.int .i64,.str]
def K70:List Kd:=[.int .i64,.int .i64,.int .i64,.int .i64,.int .i64,.str]
def K72:List Kd:=[.int .i64,.int .i64]
def K76:List Kd:=[.int .i64,.sl K5,.bool]
def K87:List Kd:=[.sl K5,.int .i64,.int .i64]
def K88:List Kd:=[.sl K5,.int .i64,.int .i64]
def K102:List Kd:=[.int .i64,.int .i64,.int .i64]
def K106:List Kd:=[.int .i64,.int .i64,.bool,.int .i64]
def K132:List Kd:=[.int .i64,.int .i64,.int .i64,.int .i64,.str]
def K113:List Kd:=[.sl K132]
def K119:List Kd:=[.int .u64]
def K131:List Kd:=[.int .i64,.int .i64,.int .i64,.int .i64,.str]
def K161:List Kd:=[.int .i64,.int .i64]
def K140:List Kd:=[.sl K161]
def K142:List Kd:=[.int .i64,.int .i64,.int .i64,.int .i64,.int .i64,.sl K3,.int .i64,.sl K3,.sl K3,.sl K71,.sl K73,.sl K161]
def K143:List Kd:=[.int .i64,.int .i64,.int .i64,.int .i64,.int .i64,.sl K3,.int .i64,.sl K3,.sl K3,.sl K71,.sl K73,.sl K161]
def K149:List Kd:=[.sl K9]
def K156:List Kd:=[.sl K22]
def K191:List Kd:=[.sl K143]
def K195:List Kd:=[.sl K5,.int .i64,.bool]
def K196:List Kd:=[.sl K5,.int .i64,.bool]
def K217:List Kd:=[.int .u32]
def K218:List Kd:=[.int .u8]
def K219:List Kd:=[.int .u8]
def K222:List Kd:=[.int .i32]
def K223:List Kd:=[.int .i32]
def UF:List (Nat×TyI):=[(2,⟨.int .i64,1,8,K2,[],0⟩),
 (3,⟨.int .i64,1,8,K3,[],0⟩),
 (4,⟨.bool,1,1,K4,[],0⟩),
 (5,⟨.int .u8,1,1,K5,[],0⟩),
 (6,⟨.int .u8,1,1,K6,[],0⟩),
 (7,⟨.struct,4,24,K7,[(0,2),(1,3),(2,4),(3,6)],0⟩),
 (8,⟨.struct,4,24,K8,[(0,2),(1,3),(2,4),(3,6)],0⟩),
 (9,⟨.string,1,16,K9,[],0⟩),
 (10,⟨.string,1,16,K10,[],0⟩),
 (11,⟨.string,1,16,K11,[],0⟩),
 (12,⟨.int .u64,1,8,K12,[],0⟩),
 (21,⟨.int .i32,1,4,K21,[],0⟩),
 (22,⟨.slice,1,24,K22,[],5⟩),
 (24,⟨.slice,1,24,K24,[],54⟩),
 (25,⟨.slice,1,24,K25,[],77⟩),
 (26,⟨.slice,1,24,K26,[],62⟩),
 (27,⟨.struct,3,72,K27,[(0,24),(1,25),(2,26)],0⟩),
 (28,⟨.struct,3,72,K28,[(0,24),(1,25),(2,26)],0⟩),
 (31,⟨.slice,1,24,K31,[],71⟩),
 (32,⟨.slice,1,24,K32,[],73⟩),
 (33,⟨.struct,2,48,K33,[(0,31),(1,32)],0⟩),
 (34,⟨.struct,2,48,K34,[(0,31),(1,32)],0⟩),
 (44,⟨.slice,1,24,K44,[],3⟩),
 (45,⟨.struct,2,32,K45,[(0,44),(1,3)],0⟩),
 (46,⟨.struct,2,32,K46,[(0,44),(1,3)],0⟩),
 (47,⟨.slice,1,24,K47,[],34⟩),
 (48,⟨.struct,3,40,K48,[(0,3),(1,3),(2,47)],0⟩),
 (49,⟨.struct,3,40,K49,[(0,3),(1,3),(2,47)],0⟩),
 (50,⟨.slice,1,24,K50,[],44⟩),
 (51,⟨.slice,1,24,K51,[],107⟩),
 (52,⟨.slice,1,24,K52,[],103⟩),
 (53,⟨.struct,19,296,K53,[(0,3),(1,3),(2,34),(4,46),(6,49),(9,44),(10,44),(11,50),(12,3),(13,3),(14,51),(15,3),(16,3),(17,3),(18,52)],0⟩),
 (54,⟨.struct,19,296,K54,[(0,3),(1,3),(2,34),(4,46),(6,49),(9,44),(10,44),(11,50),(12,3),(13,3),(14,51),(15,3),(16,3),(17,3),(18,52)],0⟩),
 (61,⟨.struct,3,56,K61,[(0,3),(1,34)],0⟩),
 (62,⟨.struct,3,56,K62,[(0,3),(1,34)],0⟩),
 (63,⟨.ptr,1,8,[],[],88⟩),
 (68,⟨.struct,5,48,K68,[(0,3),(1,3),(2,3),(3,3),(4,9)],0⟩),
 (69,⟨.struct,5,48,K69,[(0,3),(1,3),(2,3),(3,3),(4,9)],0⟩),
 (70,⟨.struct,6,56,K70,[(0,3),(1,69)],0⟩),
 (71,⟨.struct,6,56,K71,[(0,3),(1,69)],0⟩),
 (72,⟨.struct,2,16,K72,[(0,3),(1,3)],0⟩),
 (73,⟨.struct,2,16,K73,[(0,3),(1,3)],0⟩),
 (76,⟨.struct,3,40,K76,[(0,3),(1,22),(2,4)],0⟩),
 (77,⟨.struct,3,40,K77,[(0,3),(1,22),(2,4)],0⟩),
 (87,⟨.struct,3,40,K87,[(0,22),(1,3),(2,3)],0⟩),
 (88,⟨.struct,3,40,K88,[(0,22),(1,3),(2,3)],0⟩),
 (102,⟨.struct,3,24,K102,[(0,3),(1,3),(2,3)],0⟩),
 (103,⟨.struct,3,24,K103,[(0,3),(1,3),(2,3)],0⟩),
 (106,⟨.struct,4,32,K106,[(0,3),(1,3),(2,4),(3,3)],0⟩),
 (107,⟨.struct,4,32,K107,[(0,3),(1,3),(2,4),(3,3)],0⟩),
 (113,⟨.slice,1,24,K113,[],132⟩),
 (119,⟨.int .u64,1,8,K119,[],0⟩),
 (131,⟨.struct,5,48,K131,[(0,3),(1,3),(2,3),(3,3),(4,9)],0⟩),
 (132,⟨.struct,5,48,K132,[(0,3),(1,3),(2,3),(3,3),(4,9)],0⟩),
 (140,⟨.slice,1,24,K140,[],161⟩),
 (142,⟨.struct,12,192,K142,[(0,3),(1,3),(2,3),(3,3),(4,3),(5,46),(7,44),(8,44),(9,34),(11,140)],0⟩),
 (143,⟨.struct,12,192,K143,[(0,3),(1,3),(2,3),(3,3),(4,3),(5,46),(7,44),(8,44),(9,34),(11,140)],0⟩),
 (149,⟨.slice,1,24,K149,[],9⟩),
 (156,⟨.slice,1,24,K156,[],22⟩),
 (161,⟨.struct,2,16,K161,[(0,3),(1,3)],0⟩),
 (191,⟨.slice,1,24,K191,[],143⟩),
 (194,⟨.ptr,1,8,[],[],196⟩),
 (195,⟨.struct,3,40,K195,[(0,22),(1,3),(2,4)],0⟩),
 (196,⟨.struct,3,40,K196,[(0,22),(1,3),(2,4)],0⟩),
 (217,⟨.int .u32,1,4,K217,[],0⟩),
 (218,⟨.int .u8,1,1,K218,[],0⟩),
 (219,⟨.int .u8,1,1,K219,[],0⟩),
 (221,⟨.ptr,1,8,[],[],5⟩),
 (222,⟨.int .i32,1,4,K222,[],0⟩),
 (223,⟨.int .i32,1,4,K223,[],0⟩)]
def ti:Ti:=λt=>look? t UF
end Go.Abs.Wz
