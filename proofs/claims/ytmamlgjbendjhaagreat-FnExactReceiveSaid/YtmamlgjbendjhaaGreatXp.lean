/- What the functions of this program answer, part p. -/
import Derived.Test.YtmamlgjbendjhaaGreatXz
import Derived.Test.YtmamlgjbendjhaaGreatW2
import Derived.KernelRfl
import Derived.Test.YtmamlgjbendjhaaGreatXt
set_option linter.unusedVariables false
namespace Go.Abs.Xz
open Go Go.Abs Go.Proofs
set_option maxRecDepth 100000 in
def rts:Nat→Option (List Nat):=fun g=>look? g [(9,[4]),(21,[3]),(22,[38,49,3]),(23,[4]),(27,[38,49,3]),(30,[4]),(40,[28]),(43,[4]),(45,[3]),(47,[3]),(48,[3]),(49,[38]),(50,[43]),(51,[4]),(52,[4]),(53,[4]),(54,[3]),(55,[3]),(56,[3]),(57,[3]),(58,[3]),(79,[3]),(81,[38]),(82,[4]),(83,[43]),(84,[30]),(85,[38]),(86,[4]),(88,[3]),(89,[43]),(90,[30]),(91,[4]),(93,[4]),(94,[38]),(95,[38]),(96,[38,49,3]),(97,[38,4]),(98,[28]),(99,[27]),(100,[4]),(101,[4]),(102,[4]),(103,[30]),(104,[3]),(105,[4]),(106,[4]),(107,[3]),(108,[4]),(109,[4]),(110,[4]),(113,[4]),(114,[38]),(115,[38]),(116,[38,49,3]),(117,[3]),(118,[38]),(119,[27]),(123,[4]),(124,[4]),(125,[4]),(136,[22]),(137,[22]),(138,[22]),(162,[3]),(163,[3]),(164,[3]),(165,[3]),(166,[3]),(167,[3]),(168,[3]),(169,[3]),(170,[27]),(171,[30]),(172,[33]),(173,[34]),(174,[35]),(175,[36]),(176,[41]),(177,[4]),(178,[4]),(179,[4]),(180,[4]),(181,[4]),(182,[4]),(183,[4]),(184,[3]),(185,[3]),(186,[3]),(187,[3]),(188,[3]),(189,[3]),(190,[3]),(191,[3]),(192,[3]),(193,[3]),(194,[3]),(195,[3]),(196,[3]),(197,[3]),(198,[3]),(199,[3]),(200,[3]),(201,[3]),(211,[4]),(217,[9]),(220,[27]),(221,[33]),(222,[34]),(223,[41]),(224,[27]),(225,[33]),(226,[34]),(227,[4]),(228,[30]),(229,[4]),(230,[4]),(231,[3]),(232,[4]),(233,[4]),(234,[41]),(235,[38,4]),(236,[28]),(237,[34]),(238,[28]),(239,[27,4]),(240,[27]),(241,[27]),(242,[4]),(243,[3]),(244,[4]),(245,[3]),(246,[3]),(248,[3]),(250,[4]),(251,[4]),(252,[4]),(253,[4]),(254,[38]),(255,[28]),(256,[3]),(257,[34]),(258,[28]),(259,[27,4]),(260,[27]),(261,[27]),(271,[22]),(272,[3]),(280,[3]),(281,[3]),(282,[3]),(283,[3]),(284,[3]),(285,[24]),(286,[25]),(287,[31]),(288,[141]),(289,[147]),(290,[185]),(291,[4]),(292,[4]),(293,[4]),(294,[4]),(295,[4]),(296,[4]),(311,[3]),(312,[4]),(313,[3]),(314,[3]),(315,[3]),(316,[3]),(317,[27]),(318,[27,4]),(319,[161,4]),(320,[161]),(321,[4]),(322,[3]),(325,[27]),(326,[27,4]),(327,[161,4]),(328,[3]),(329,[4]),(330,[3]),(331,[22]),(333,[22]),(334,[3]),(339,[3]),(340,[163]),(341,[165]),(342,[4]),(343,[4]),(354,[3]),(355,[3]),(356,[3]),(357,[3]),(358,[3]),(359,[3]),(360,[22]),(361,[3]),(362,[161]),(363,[4]),(375,[3]),(376,[3]),(377,[3]),(383,[4])]
def HZ:List Nat:=[45,54,55,56,184,185,186,187,188,189,190,191,192,280]
def IL:List Nat:=[9,45,54,55,56,184,185,186,187,188,189,190,191,192,280]
def HS:List Nat:=[97]
def E1(call:Cl)(n:Nat)(h:Hints):Env:={ ti:=ti,n:=n,call:=call,fresh:=fun g=> !jK g HS,owns:=fun g=>jK g HZ,h:=h }
def h9:Hints:=⟨true,[],[],true,false,[],[],[]⟩
def h21:Hints:=⟨true,[],[(2,⟨[1,2,10,11,12],[],[]⟩)],false,false,[],[],[]⟩
def H2:Norm:=⟨[4,7,121],[4001248],[]⟩
def h22_4:Hints:=⟨true,[1000032,1000038],[],false,false,[],[],[]⟩
def H3:Norm:=⟨[3,4,7,109],[3001248],[]⟩
def h22_3:Hints:=⟨true,[1000032,1000038],[],false,false,[],[],[]⟩
def H4:Norm:=⟨[3,4,7,76],[2001248],[]⟩
def h22_2:Hints:=⟨true,[1000032,1000038],[],false,false,[],[],[]⟩
def H5:Norm:=⟨[4,67],[1001664,1001762,1001763,1001764,1001768,1001769,1001770,1001771,1001774,1001778,1002560],[]⟩
def h22_1:Hints:=⟨true,[],[],false,false,[],[],[]⟩
def h22:Hints:=⟨true,[],[],false,false,[(67,31250,H5,h22_1),(76,62500,H4,h22_2),(109,93750,H3,h22_3),(121,125000,H2,h22_4)],[],[]⟩
def h23:Hints:=⟨true,[],[],false,false,[],[],[]⟩
def h27:Hints:=⟨true,[],[],false,false,[],[],[]⟩
def h30:Hints:=⟨true,[],[(10,⟨[1,57,58,59],[32],[]⟩),(4,⟨[1,31,32,33],[32],[]⟩)],false,false,[],[],[]⟩
def h40:Hints:=⟨true,[],[(3,⟨[0,3,4],[224],[]⟩)],false,false,[],[],[]⟩
def h43:Hints:=⟨true,[],[(4,⟨[0,1,5],[],[]⟩)],false,false,[],[],[]⟩
def h45:Hints:=⟨true,[],[(2,⟨[0,1,5],[100000],[]⟩)],true,true,[],[],[]⟩
def h47:Hints:=⟨true,[],[],false,false,[],[],[]⟩
def h48:Hints:=⟨true,[],[],false,false,[],[],[]⟩
def h49:Hints:=⟨true,[],[],false,false,[],[],[]⟩
def h50:Hints:=⟨true,[],[],false,false,[],[],[]⟩
def h51:Hints:=⟨true,[],[],false,false,[],[],[]⟩
def h52:Hints:=⟨true,[],[(4,⟨[0,1,5],[],[]⟩)],false,false,[],[],[]⟩
def h53:Hints:=⟨true,[],[],false,false,[],[],[]⟩
def h54:Hints:=⟨true,[],[],true,true,[],[],[]⟩
def h55:Hints:=⟨true,[],[],true,true,[],[],[]⟩
def h56:Hints:=⟨true,[],[(2,⟨[0,1,5],[100000],[]⟩)],true,true,[],[],[]⟩
def h57:Hints:=⟨true,[],[],false,false,[],[],[]⟩
def h58:Hints:=⟨true,[],[(2,⟨[0,1,5],[],[]⟩)],false,false,[],[],[]⟩
def h79:Hints:=⟨true,[],[(2,⟨[0,1,5],[],[]⟩)],false,false,[],[],[]⟩
def h81:Hints:=⟨true,[],[],false,false,[],[],[]⟩
def h82:Hints:=⟨true,[],[],false,false,[],[],[]⟩
def h83:Hints:=⟨true,[],[],false,false,[],[],[]⟩
def h84:Hints:=⟨true,[],[],false,false,[],[],[]⟩
def h85:Hints:=⟨true,[],[],false,false,[],[],[]⟩
def h86:Hints:=⟨true,[],[(13,⟨[1,4],[32],[]⟩),(6,⟨[1,3],[32],[]⟩)],false,false,[],[],[]⟩
def h88:Hints:=⟨true,[],[(2,⟨[1,2,3,7],[96],[]⟩)],false,false,[],[],[]⟩
def h89:Hints:=⟨true,[],[],false,false,[],[],[]⟩
def h90:Hints:=⟨true,[],[],false,false,[],[],[]⟩
def h91:Hints:=⟨true,[],[],false,false,[],[],[]⟩
def h93:Hints:=⟨true,[],[(4,⟨[0,1,5],[],[]⟩)],false,false,[],[],[]⟩
def h94:Hints:=⟨true,[],[],false,false,[],[],[]⟩
def h95:Hints:=⟨true,[],[],false,false,[],[],[]⟩
def h97:Hints:=⟨false,[],[],false,false,[],[],[]⟩
def h98:Hints:=⟨true,[],[],false,false,[],[],[]⟩
def h99:Hints:=⟨true,[],[],false,false,[],[],[]⟩
def h100:Hints:=⟨true,[],[],false,false,[],[],[]⟩
def h101:Hints:=⟨true,[],[(8,⟨[1,43,44,45],[32],[]⟩),(2,⟨[1,8,9,10],[32],[]⟩)],false,false,[],[],[]⟩
def h102:Hints:=⟨true,[],[],false,false,[],[],[]⟩
def h103:Hints:=⟨true,[],[(5,⟨[1,2,3,4],[32,64,96,60080],[(some 96,0,60080,3)]⟩)],false,false,[],[],[]⟩
def h104:Hints:=⟨true,[],[],false,false,[],[],[]⟩
def h105:Hints:=⟨true,[],[(2,⟨[1,6,7,8],[32],[]⟩)],false,false,[],[],[]⟩
def h106:Hints:=⟨true,[],[(2,⟨[0,1,7,8,9],[],[]⟩)],false,false,[],[],[]⟩
def h107:Hints:=⟨true,[],[(5,⟨[0,3,4],[],[]⟩)],false,false,[],[],[]⟩
def h108:Hints:=⟨true,[],[(5,⟨[0,1,6,9,10,11,15,16,17],[],[]⟩),(2,⟨[0,1,9,10,11],[],[]⟩)],false,false,[],[],[]⟩
def h109:Hints:=⟨true,[],[(2,⟨[1,6,7,8],[32],[]⟩)],false,false,[],[],[]⟩
def h110:Hints:=⟨true,[],[(2,⟨[1,6,7,8],[32],[]⟩)],false,false,[],[],[]⟩
def h113:Hints:=⟨true,[],[(6,⟨[1,3],[32],[]⟩)],false,false,[],[],[]⟩
def h114:Hints:=⟨true,[],[],false,false,[],[],[]⟩
def h115:Hints:=⟨true,[],[],false,false,[],[],[]⟩
def h116:Hints:=⟨true,[],[],false,false,[],[],[]⟩
def h117:Hints:=⟨true,[],[],false,false,[],[],[]⟩
def h118:Hints:=⟨true,[],[],false,false,[],[],[]⟩
def h119:Hints:=⟨true,[],[],false,false,[],[],[]⟩
def h123:Hints:=⟨true,[],[],false,false,[],[],[]⟩
def h124:Hints:=⟨true,[],[(4,⟨[1,13,14,15],[32],[]⟩)],false,false,[],[],[]⟩
def h125:Hints:=⟨true,[],[(2,⟨[0,5,6,7],[],[]⟩)],false,false,[],[],[]⟩
def h136:Hints:=⟨true,[],[(12,⟨[3,55,56,57],[60192],[(none,3,60192,5)]⟩),(5,⟨[1,3,17,18,19],[32,60080],[(none,3,60080,5)]⟩)],false,false,[],[],[]⟩
def h137:Hints:=⟨true,[],[(3,⟨[3,7,8,9],[60048],[(none,3,60048,5)]⟩)],false,false,[],[],[]⟩
def h138:Hints:=⟨true,[],[(4,⟨[0,3],[60064],[(none,3,60064,5)]⟩)],false,false,[],[],[]⟩
def h162:Hints:=⟨true,[],[],false,false,[],[],[]⟩
def h163:Hints:=⟨true,[],[],false,false,[],[],[]⟩
def h164:Hints:=⟨true,[],[],false,false,[],[],[]⟩
def h165:Hints:=⟨true,[],[],false,false,[],[],[]⟩
def h166:Hints:=⟨true,[],[(5,⟨[0,1,5],[],[]⟩)],false,false,[],[],[]⟩
def h167:Hints:=⟨true,[],[],false,false,[],[],[]⟩
def h168:Hints:=⟨true,[],[],false,false,[],[],[]⟩
def h169:Hints:=⟨true,[],[],false,false,[],[],[]⟩
def h170:Hints:=⟨true,[],[],false,false,[],[],[]⟩
def h171:Hints:=⟨true,[],[],false,false,[],[],[]⟩
def h172:Hints:=⟨true,[],[],false,false,[],[],[]⟩
def h173:Hints:=⟨true,[],[(3,⟨[0,3,4],[224],[]⟩)],false,false,[],[],[]⟩
def h174:Hints:=⟨true,[],[(3,⟨[0,3,4],[224],[]⟩)],false,false,[],[],[]⟩
def h175:Hints:=⟨true,[],[(3,⟨[0,3,4],[224],[]⟩)],false,false,[],[],[]⟩
def h176:Hints:=⟨true,[],[(3,⟨[0,3,4],[224],[]⟩)],false,false,[],[],[]⟩
def h177:Hints:=⟨true,[],[],false,false,[],[],[]⟩
def h178:Hints:=⟨true,[],[],false,false,[],[],[]⟩
def h179:Hints:=⟨true,[],[],false,false,[],[],[]⟩
def h180:Hints:=⟨true,[],[(4,⟨[0,1,5],[],[]⟩)],false,false,[],[],[]⟩
def h181:Hints:=⟨true,[],[(4,⟨[0,1,5],[],[]⟩)],false,false,[],[],[]⟩
def h182:Hints:=⟨true,[],[(4,⟨[0,1,5],[],[]⟩)],false,false,[],[],[]⟩
def h183:Hints:=⟨true,[],[(4,⟨[0,1,5],[],[]⟩)],false,false,[],[],[]⟩
def h184:Hints:=⟨true,[],[],true,true,[],[],[]⟩
def h185:Hints:=⟨true,[],[],true,true,[],[],[]⟩
def h186:Hints:=⟨true,[],[],true,true,[],[],[]⟩
def h187:Hints:=⟨true,[],[(2,⟨[0,1,5],[100000],[]⟩)],true,true,[],[],[]⟩
def h188:Hints:=⟨true,[],[(2,⟨[0,1,5],[100000],[]⟩)],true,true,[],[],[]⟩
def h189:Hints:=⟨true,[],[(2,⟨[0,1,5],[100000],[]⟩)],true,true,[],[],[]⟩
def h190:Hints:=⟨true,[],[(2,⟨[0,1,5],[100000],[]⟩)],true,true,[],[],[]⟩
def h191:Hints:=⟨true,[],[(2,⟨[0,1,5],[100000],[]⟩)],true,true,[],[],[]⟩
def h192:Hints:=⟨true,[],[(2,⟨[0,1,5],[100000],[]⟩)],true,true,[],[],[]⟩
def h193:Hints:=⟨true,[],[],false,false,[],[],[]⟩
def h194:Hints:=⟨true,[],[],false,false,[],[],[]⟩
def h195:Hints:=⟨true,[],[],false,false,[],[],[]⟩
def h196:Hints:=⟨true,[],[(2,⟨[0,1,5],[],[]⟩)],false,false,[],[],[]⟩
def h197:Hints:=⟨true,[],[(2,⟨[0,1,5],[],[]⟩)],false,false,[],[],[]⟩
def h198:Hints:=⟨true,[],[(2,⟨[0,1,5],[],[]⟩)],false,false,[],[],[]⟩
def h199:Hints:=⟨true,[],[(2,⟨[0,1,5],[],[]⟩)],false,false,[],[],[]⟩
def h200:Hints:=⟨true,[],[(2,⟨[0,1,5],[],[]⟩)],false,false,[],[],[]⟩
def h201:Hints:=⟨true,[],[(2,⟨[0,1,5],[],[]⟩)],false,false,[],[],[]⟩
def h211:Hints:=⟨true,[],[],false,false,[],[],[]⟩
def h217:Hints:=⟨true,[],[(4,⟨[0,3],[],[]⟩)],false,false,[],[],[]⟩
def h220:Hints:=⟨true,[],[],false,false,[],[],[]⟩
def h221:Hints:=⟨true,[],[(3,⟨[2,3,12,13,14],[64,96,60048],[(some 96,2,60048,27)]⟩)],false,false,[],[],[]⟩
def h222:Hints:=⟨true,[],[(3,⟨[3,7,8,9],[60048],[(none,3,60048,28)]⟩)],false,false,[],[],[]⟩
def h223:Hints:=⟨true,[],[(3,⟨[1,3,4],[32,60048],[(none,3,60048,185)]⟩)],false,false,[],[],[]⟩
def h224:Hints:=⟨true,[],[],false,false,[],[],[]⟩
def h225:Hints:=⟨true,[],[(3,⟨[1,2,3,4],[32,64,96,60048],[(some 96,2,60048,27)]⟩)],false,false,[],[],[]⟩
def h226:Hints:=⟨true,[],[(3,⟨[0,3,4],[60048],[(none,3,60048,28)]⟩)],false,false,[],[],[]⟩
def h227:Hints:=⟨true,[],[(8,⟨[1,5],[32],[]⟩),(2,⟨[1,3],[32],[]⟩)],false,false,[],[],[]⟩
def h228:Hints:=⟨true,[],[(5,⟨[1,2,3,4],[32,64,96,60080],[(some 96,0,60080,3)]⟩)],false,false,[],[],[]⟩
def h229:Hints:=⟨true,[],[(4,⟨[1,3],[32],[]⟩)],false,false,[],[],[]⟩
def h230:Hints:=⟨true,[],[(4,⟨[0,1,5],[],[]⟩)],false,false,[],[],[]⟩
def h231:Hints:=⟨true,[],[],false,false,[],[],[]⟩
def h232:Hints:=⟨true,[],[(9,⟨[0,1,5,6],[],[]⟩),(4,⟨[0,1,5],[],[]⟩)],false,false,[],[],[]⟩
def h233:Hints:=⟨true,[],[(10,⟨[1,3,4,5,32,33,34,35,36,39,40,41,42,45,46,47,48,49,50],[32,128],[]⟩),(4,⟨[1,3],[32],[]⟩)],false,false,[],[],[]⟩
def h234:Hints:=⟨true,[],[(3,⟨[1,3,4],[32,60048],[(none,3,60048,185)]⟩)],false,false,[],[],[]⟩
def h235:Hints:=⟨true,[],[(9,⟨[2,4,6,45,46,47],[64,128,192,392,393,394,398,402,1024,1184,1185,1312],[]⟩)],false,false,[],[],[]⟩
def h236:Hints:=⟨true,[],[],false,false,[],[],[]⟩
def h237:Hints:=⟨true,[],[(5,⟨[1,7,32,33,34],[352],[]⟩)],false,false,[],[],[(11,[0])]⟩
def h238:Hints:=⟨true,[],[(6,⟨[2,3,5,6,7],[64,96,60096],[(none,5,60096,3)]⟩)],false,false,[],[],[]⟩
def h239:Hints:=⟨true,[],[],false,false,[],[],[]⟩
def h240:Hints:=⟨true,[],[(3,⟨[2,3,4,5,6],[64,96,128,160,60048,60049],[(some 160,0,60048,163),(some 160,1,60049,165)]⟩)],false,false,[],[],[]⟩
def h241:Hints:=⟨true,[],[(11,⟨[1,4,5,35,36,37],[128,160,60080,60176],[(some 160,1,60176,165)]⟩),(5,⟨[1,2,4,5,16,17,18],[64,128,160,60080],[(some 160,0,60080,163)]⟩)],false,false,[],[],[]⟩
def h242:Hints:=⟨true,[],[],false,false,[],[],[]⟩
def h243:Hints:=⟨true,[],[(2,⟨[1,8,9,10],[],[]⟩)],false,false,[],[],[]⟩
def h244:Hints:=⟨true,[],[(4,⟨[0,1,12,13],[],[]⟩)],false,false,[],[],[]⟩
def h245:Hints:=⟨true,[],[],false,false,[],[],[]⟩
def h246:Hints:=⟨true,[],[(3,⟨[3,7,8,9],[60048],[(none,3,60048,5)]⟩)],false,false,[],[],[]⟩
def h248:Hints:=⟨true,[],[],false,false,[],[],[]⟩
def h250:Hints:=⟨true,[],[],false,false,[],[],[]⟩
def h251:Hints:=⟨true,[],[],false,false,[],[],[]⟩
def h252:Hints:=⟨true,[],[(4,⟨[0,2,7],[],[]⟩)],false,false,[],[],[]⟩
def h253:Hints:=⟨true,[],[(2,⟨[0,3],[],[]⟩)],false,false,[],[],[]⟩
def h254:Hints:=⟨true,[],[(7,⟨[2,4,5,7],[64,128,160,360,361,362,366,370,704,864,865,992],[]⟩)],false,false,[],[],[]⟩
def h255:Hints:=⟨true,[],[],false,false,[],[],[]⟩
def h256:Hints:=⟨true,[],[],false,false,[],[],[]⟩
def h257:Hints:=⟨true,[],[(5,⟨[1,2,7,8],[320],[]⟩)],false,false,[],[],[(10,[0])]⟩
def h258:Hints:=⟨true,[],[(5,⟨[2,3,5,6],[64,96,60080],[(none,5,60080,3)]⟩)],false,false,[],[],[]⟩
def h259:Hints:=⟨true,[],[],false,false,[],[],[]⟩
def h260:Hints:=⟨true,[],[(3,⟨[2,3,4,5,6],[64,96,128,160,60048,60049],[(some 160,1,60048,165),(some 160,0,60049,163)]⟩)],false,false,[],[],[]⟩
def h261:Hints:=⟨true,[],[(8,⟨[1,2,4,5,7],[64,128,160,60048,60128],[(some 160,1,60128,165)]⟩),(3,⟨[1,2,4,5,6],[64,128,160,60048],[(some 160,0,60048,163)]⟩)],false,false,[],[],[]⟩
def h271:Hints:=⟨true,[],[],false,false,[],[],[]⟩
def h272:Hints:=⟨true,[],[(7,⟨[3,7,8,9,17],[],[]⟩),(3,⟨[3,7,8,9],[],[]⟩)],false,false,[],[],[]⟩
def h280:Hints:=⟨true,[],[(2,⟨[0,1,5],[100000],[]⟩)],true,true,[],[],[]⟩
def h281:Hints:=⟨true,[],[(2,⟨[0,1,5],[],[]⟩)],false,false,[],[],[]⟩
def h282:Hints:=⟨true,[],[(5,⟨[0,1,5],[],[]⟩)],false,false,[],[],[]⟩
def h283:Hints:=⟨true,[],[],false,false,[],[],[]⟩
def h284:Hints:=⟨true,[],[(5,⟨[0,1,5],[],[]⟩)],false,false,[],[],[]⟩
def h285:Hints:=⟨true,[],[(3,⟨[0,3,4],[224],[]⟩)],false,false,[],[],[]⟩
def h286:Hints:=⟨true,[],[(3,⟨[0,3,4],[224],[]⟩)],false,false,[],[],[]⟩
def h287:Hints:=⟨true,[],[(3,⟨[0,3,4],[224],[]⟩)],false,false,[],[],[]⟩
def h288:Hints:=⟨true,[],[],false,false,[],[],[]⟩
def h289:Hints:=⟨true,[],[],false,false,[],[],[]⟩
def h290:Hints:=⟨true,[],[],false,false,[],[],[]⟩
def h291:Hints:=⟨true,[],[(4,⟨[0,1,5],[],[]⟩)],false,false,[],[],[]⟩
def h292:Hints:=⟨true,[],[(4,⟨[0,1,5],[],[]⟩)],false,false,[],[],[]⟩
def h293:Hints:=⟨true,[],[(4,⟨[0,1,5],[],[]⟩)],false,false,[],[],[]⟩
def h294:Hints:=⟨true,[],[],false,false,[],[],[]⟩
def h295:Hints:=⟨true,[],[],false,false,[],[],[]⟩
def h296:Hints:=⟨true,[],[],false,false,[],[],[]⟩
def h311:Hints:=⟨true,[],[],false,false,[],[],[]⟩
def h312:Hints:=⟨true,[],[],false,false,[],[],[]⟩
def h313:Hints:=⟨true,[],[(2,⟨[1,2,5],[64],[]⟩)],false,false,[],[],[]⟩
def h314:Hints:=⟨true,[],[],false,false,[],[],[]⟩
def h315:Hints:=⟨true,[],[(3,⟨[0,3,4],[60048],[(none,3,60048,5)]⟩)],false,false,[],[],[]⟩
def h316:Hints:=⟨true,[],[],false,false,[],[],[]⟩
def h317:Hints:=⟨true,[],[(5,⟨[1,2,4,5,6],[64,128,160,60080],[(some 160,1,60080,165)]⟩)],false,false,[],[],[]⟩
def h318:Hints:=⟨true,[],[(5,⟨[4,6,29,30,31],[128,192,60080,60081],[(some 192,0,60080,163),(some 192,1,60081,165)]⟩)],false,false,[],[],[]⟩
def h319:Hints:=⟨true,[],[(2,⟨[1,4,9,10,11],[128],[]⟩)],false,false,[],[],[]⟩
def h320:Hints:=⟨true,[],[],false,false,[],[],[]⟩
def h321:Hints:=⟨true,[],[],false,false,[],[],[]⟩
def h322:Hints:=⟨true,[],[],false,false,[],[],[]⟩
def h325:Hints:=⟨true,[],[(5,⟨[1,2,4,5,6],[64,128,160,60080],[(some 160,1,60080,165)]⟩)],false,false,[],[],[]⟩
def h326:Hints:=⟨true,[],[(5,⟨[2,4,6,7],[64,128,192,60080,60081],[(some 192,0,60080,163),(some 192,1,60081,165)]⟩)],false,false,[],[],[]⟩
def h327:Hints:=⟨true,[],[(2,⟨[1,2,4,6],[64,128],[]⟩)],false,false,[],[],[]⟩
def h328:Hints:=⟨true,[],[(3,⟨[2,3,5,6],[64,96,864],[]⟩)],false,false,[],[],[]⟩
def h329:Hints:=⟨true,[],[(2,⟨[0,1,5],[],[]⟩)],false,false,[],[],[]⟩
def h330:Hints:=⟨true,[],[],false,false,[],[],[]⟩
def h331:Hints:=⟨true,[],[(4,⟨[0,3],[60064],[(none,3,60064,5)]⟩)],false,false,[],[],[]⟩
def h333:Hints:=⟨true,[],[(8,⟨[1,3,4,5,6,7],[32,160,1280,60128],[(none,3,60128,5)]⟩),(14,⟨[1,3,8],[32,60224],[(none,3,60224,5)]⟩),(3,⟨[1,3,4],[32,60048],[(none,3,60048,5)]⟩)],false,false,[],[],[]⟩
def h334:Hints:=⟨true,[],[(7,⟨[0,3,4,5],[],[]⟩),(3,⟨[0,3,4],[],[]⟩)],false,false,[],[],[]⟩
def h339:Hints:=⟨true,[],[],false,false,[],[],[]⟩
def h340:Hints:=⟨true,[],[],false,false,[],[],[]⟩
def h341:Hints:=⟨true,[],[],false,false,[],[],[]⟩
def h342:Hints:=⟨true,[],[],false,false,[],[],[]⟩
def h343:Hints:=⟨true,[],[],false,false,[],[],[]⟩
def h354:Hints:=⟨true,[],[(3,⟨[1,5,8,9,10],[],[]⟩)],false,false,[],[],[]⟩
def h355:Hints:=⟨true,[],[],false,false,[],[],[]⟩
def h356:Hints:=⟨true,[],[(2,⟨[0,1,7,8],[],[]⟩)],false,false,[],[],[]⟩
def h357:Hints:=⟨true,[],[(5,⟨[0,1,5,6],[],[]⟩)],false,false,[],[],[]⟩
def h358:Hints:=⟨true,[],[],false,false,[],[],[]⟩
def h359:Hints:=⟨true,[],[],false,false,[],[],[]⟩
def h360:Hints:=⟨true,[],[],false,false,[],[],[]⟩
def h361:Hints:=⟨true,[],[],false,false,[],[],[]⟩
def h362:Hints:=⟨true,[],[],false,false,[],[],[]⟩
def h363:Hints:=⟨true,[],[],false,false,[],[],[]⟩
def h375:Hints:=⟨true,[],[(3,⟨[3,6,7,8],[],[]⟩)],false,false,[],[],[]⟩
def h376:Hints:=⟨true,[],[],false,false,[],[],[]⟩
def h377:Hints:=⟨true,[],[],false,false,[],[],[]⟩
def h383:Hints:=⟨true,[],[],false,false,[],[],[]⟩
set_option maxRecDepth 100000 in
noncomputable def DX:List (Nat×Func):=[(9,Tryz.f9),(21,Tryz.f21),(22,Tryz.f22),(23,Tryz.f23),(27,Tryz.f27),(30,Tryz.f30),(40,Tryz.f40),(43,Tryz.f43),(45,Tryz.f45),(47,Tryz.f47),(48,Tryz.f48),(49,Tryz.f49),(50,Tryz.f50),(51,Tryz.f51),(52,Tryz.f52),(53,Tryz.f53),(54,Tryz.f54),(55,Tryz.f55),(56,Tryz.f56),(57,Tryz.f57),(58,Tryz.f58),(79,Tryz.f79),(81,Tryz.f81),(82,Tryz.f82),(83,Tryz.f83),(84,Tryz.f84),(85,Tryz.f85),(86,Tryz.f86),(88,Tryz.f88),(89,Tryz.f89),(90,Tryz.f90),(91,Tryz.f91),(93,Tryz.f93),(94,Tryz.f94),(95,Tryz.f95),(96,Tryz.f96),(97,Tryz.f97),(98,Tryz.f98),(99,Tryz.f99),(100,Tryz.f100),(101,Tryz.f101),(102,Tryz.f102),(103,Tryz.f103),(104,Tryz.f104),(105,Tryz.f105),(106,Tryz.f106),(107,Tryz.f107),(108,Tryz.f108),(109,Tryz.f109),(110,Tryz.f110),(113,Tryz.f113),(114,Tryz.f114),(115,Tryz.f115),(116,Tryz.f116),(117,Tryz.f117),(118,Tryz.f118),(119,Tryz.f119),(123,Tryz.f123),(124,Tryz.f124),(125,Tryz.f125),(136,Tryz.f136),(137,Tryz.f137),(138,Tryz.f138),(162,Tryz.f162),(163,Tryz.f163),(164,Tryz.f164),(165,Tryz.f165),(166,Tryz.f166),(167,Tryz.f167),(168,Tryz.f168),(169,Tryz.f169),(170,Tryz.f170),(171,Tryz.f171),(172,Tryz.f172),(173,Tryz.f173),(174,Tryz.f174),(175,Tryz.f175),(176,Tryz.f176),(177,Tryz.f177),(178,Tryz.f178),(179,Tryz.f179),(180,Tryz.f180),(181,Tryz.f181),(182,Tryz.f182),(183,Tryz.f183),(184,Tryz.f184),(185,Tryz.f185),(186,Tryz.f186),(187,Tryz.f187),(188,Tryz.f188),(189,Tryz.f189),(190,Tryz.f190),(191,Tryz.f191),(192,Tryz.f192),(193,Tryz.f193),(194,Tryz.f194),(195,Tryz.f195),(196,Tryz.f196),(197,Tryz.f197),(198,Tryz.f198),(199,Tryz.f199),(200,Tryz.f200),(201,Tryz.f201),(211,Tryz.f211),(217,Tryz.f217),(220,Tryz.f220),(221,Tryz.f221),(222,Tryz.f222),(223,Tryz.f223),(224,Tryz.f224),(225,Tryz.f225),(226,Tryz.f226),(227,Tryz.f227),(228,Tryz.f228),(229,Tryz.f229),(230,Tryz.f230),(231,Tryz.f231),(232,Tryz.f232),(233,Tryz.f233),(234,Tryz.f234),(235,Tryz.f235),(236,Tryz.f236),(237,Tryz.f237),(238,Tryz.f238),(239,Tryz.f239),(240,Tryz.f240),(241,Tryz.f241),(242,Tryz.f242),(243,Tryz.f243),(244,Tryz.f244),(245,Tryz.f245),(246,Tryz.f246),(248,Tryz.f248),(250,Tryz.f250),(251,Tryz.f251),(252,Tryz.f252),(253,Tryz.f253),(254,Tryz.f254),(255,Tryz.f255),(256,Tryz.f256),(257,Tryz.f257),(258,Tryz.f258),(259,Tryz.f259),(260,Tryz.f260),(261,Tryz.f261),(271,Tryz.f271),(272,Tryz.f272),(280,Tryz.f280),(281,Tryz.f281),(282,Tryz.f282),(283,Tryz.f283),(284,Tryz.f284),(285,Tryz.f285),(286,Tryz.f286),(287,Tryz.f287),(288,Tryz.f288),(289,Tryz.f289),(290,Tryz.f290),(291,Tryz.f291),(292,Tryz.f292),(293,Tryz.f293),(294,Tryz.f294),(295,Tryz.f295),(296,Tryz.f296),(311,Tryz.f311),(312,Tryz.f312),(313,Tryz.f313),(314,Tryz.f314),(315,Tryz.f315),(316,Tryz.f316),(317,Tryz.f317),(318,Tryz.f318),(319,Tryz.f319),(320,Tryz.f320),(321,Tryz.f321),(322,Tryz.f322),(325,Tryz.f325),(326,Tryz.f326),(327,Tryz.f327),(328,Tryz.f328),(329,Tryz.f329),(330,Tryz.f330),(331,Tryz.f331),(333,Tryz.f333),(334,Tryz.f334),(339,Tryz.f339),(340,Tryz.f340),(341,Tryz.f341),(342,Tryz.f342),(343,Tryz.f343),(354,Tryz.f354),(355,Tryz.f355),(356,Tryz.f356),(357,Tryz.f357),(358,Tryz.f358),(359,Tryz.f359),(360,Tryz.f360),(361,Tryz.f361),(362,Tryz.f362),(363,Tryz.f363),(375,Tryz.f375),(376,Tryz.f376),(377,Tryz.f377),(383,Tryz.f383)]
set_option maxRecDepth 100000 in
noncomputable def DS:List (Nat×Hints):=[(9,h9),(21,h21),(22,h22),(23,h23),(27,h27),(30,h30),(40,h40),(43,h43),(45,h45),(47,h47),(48,h48),(49,h49),(50,h50),(51,h51),(52,h52),(53,h53),(54,h54),(55,h55),(56,h56),(57,h57),(58,h58),(79,h79),(81,h81),(82,h82),(83,h83),(84,h84),(85,h85),(86,h86),(88,h88),(89,h89),(90,h90),(91,h91),(93,h93),(94,h94),(95,h95),(97,h97),(98,h98),(99,h99),(100,h100),(101,h101),(102,h102),(103,h103),(104,h104),(105,h105),(106,h106),(107,h107),(108,h108),(109,h109),(110,h110),(113,h113),(114,h114),(115,h115),(116,h116),(117,h117),(118,h118),(119,h119),(123,h123),(124,h124),(125,h125),(136,h136),(137,h137),(138,h138),(162,h162),(163,h163),(164,h164),(165,h165),(166,h166),(167,h167),(168,h168),(169,h169),(170,h170),(171,h171),(172,h172),(173,h173),(174,h174),(175,h175),(176,h176),(177,h177),(178,h178),(179,h179),(180,h180),(181,h181),(182,h182),(183,h183),(184,h184),(185,h185),(186,h186),(187,h187),(188,h188),(189,h189),(190,h190),(191,h191),(192,h192),(193,h193),(194,h194),(195,h195),(196,h196),(197,h197),(198,h198),(199,h199),(200,h200),(201,h201),(211,h211),(217,h217),(220,h220),(221,h221),(222,h222),(223,h223),(224,h224),(225,h225),(226,h226),(227,h227),(228,h228),(229,h229),(230,h230),(231,h231),(232,h232),(233,h233),(234,h234),(235,h235),(236,h236),(237,h237),(238,h238),(239,h239),(240,h240),(241,h241),(242,h242),(243,h243),(244,h244),(245,h245),(246,h246),(248,h248),(250,h250),(251,h251),(252,h252),(253,h253),(254,h254),(255,h255),(256,h256),(257,h257),(258,h258),(259,h259),(260,h260),(261,h261),(271,h271),(272,h272),(280,h280),(281,h281),(282,h282),(283,h283),(284,h284),(285,h285),(286,h286),(287,h287),(288,h288),(289,h289),(290,h290),(291,h291),(292,h292),(293,h293),(294,h294),(295,h295),(296,h296),(311,h311),(312,h312),(313,h313),(314,h314),(315,h315),(316,h316),(317,h317),(318,h318),(319,h319),(320,h320),(321,h321),(322,h322),(325,h325),(326,h326),(327,h327),(328,h328),(329,h329),(330,h330),(331,h331),(333,h333),(334,h334),(339,h339),(340,h340),(341,h341),(342,h342),(343,h343),(354,h354),(355,h355),(356,h356),(357,h357),(358,h358),(359,h359),(360,h360),(361,h361),(362,h362),(363,h363),(375,h375),(376,h376),(377,h377),(383,h383)]
def hd0:Hints:=⟨true,[],[],false,false,[],[],[]⟩
def CX:List (Nat×(List Abs.Arg→Option Out)):=[(377,HL)]
noncomputable def p:Prg:={ ti:=ti,fn:=fun g=>look? g DX,hint:=fun g=>⟨!jK g HS,((look? g DS).getD hd0).cut,((look? g DS).getD hd0).loops,jK g IL,jK g HZ,((look? g DS).getD hd0).inl,((look? g DS).getD hd0).unp,((look? g DS).getD hd0).adp⟩,own:=fun g=>look? g CX }
set_option maxRecDepth 100000 in
theorem CP:p.rts=rts:=by
 funext g
 unfold Prg.rts rts p
 rw[x9];rfl
theorem aK {g:Nat} {fn:Func} {nt:Nat} {h:Hints} {lvl:Nat} {xs:List Abs.Arg} {out:Out} (ho:p.own g=none) (hf:p.fn g=some fn) (hn:fn.ntmps=nt) (hh:p.hint g=h)
  (H:∀ n,lvl≤n→∀ JJ:Nat→lV,Ev (fun aA=>tU (E1 (aG p n) nt h) rts (JJ aA) aA fn xs) out):Ran p (lvl+1) g xs out:=by
 subst hn;subst hh
 refine Ran.of ho hf fun n hl=>?_
 rw[CP]
 exact(H n hl (fun aA=>iS p.fn (t8 p (aG p n) fn.ntmps (p.hint g)) rts aA 3)).get
theorem FD {g:Nat} {fn:Func} {nt:Nat} {h:Hints} {lvl:Nat} {xs:List Abs.Arg} {out:Out} (ho:p.own g=none) (hf:p.fn g=some fn) (hn:fn.ntmps=nt) (hh:p.hint g=h)
  (H:∀ n,lvl≤n→Ev (fun aA=>tU (E1 (aG p n) nt h) rts (iS p.fn (E1 (aG p n) nt h) rts aA 3) aA fn xs) out):Ran p (lvl+1) g xs out:=by
 subst hn;subst hh
 refine Ran.of ho hf fun n hl=>?_
 rw[CP]
 exact(H n hl).get
set_option maxRecDepth 100000 in
theorem DW:∀ q∈DX,FnOk Tryz.prog q.1 q.2:=EB (⟨⟨Tryz.func9,by kernel_rfl,by kernel_rfl⟩,⟨⟨Tryz.func21,by kernel_rfl,by kernel_rfl⟩,⟨⟨Tryz.func22,by kernel_rfl,by kernel_rfl⟩,⟨⟨Tryz.func23,by kernel_rfl,by kernel_rfl⟩,⟨⟨Tryz.func27,by kernel_rfl,by kernel_rfl⟩,⟨⟨Tryz.func30,by kernel_rfl,by kernel_rfl⟩,⟨⟨Tryz.func40,by kernel_rfl,by kernel_rfl⟩,⟨⟨Tryz.func43,by kernel_rfl,by kernel_rfl⟩,⟨⟨Tryz.func45,by kernel_rfl,by kernel_rfl⟩,⟨⟨Tryz.func47,by kernel_rfl,by kernel_rfl⟩,⟨⟨Tryz.func48,by kernel_rfl,by kernel_rfl⟩,⟨⟨Tryz.func49,by kernel_rfl,by kernel_rfl⟩,⟨⟨Tryz.func50,by kernel_rfl,by kernel_rfl⟩,⟨⟨Tryz.func51,by kernel_rfl,by kernel_rfl⟩,⟨⟨Tryz.func52,by kernel_rfl,by kernel_rfl⟩,⟨⟨Tryz.func53,by kernel_rfl,by kernel_rfl⟩,⟨⟨Tryz.func54,by kernel_rfl,by kernel_rfl⟩,⟨⟨Tryz.func55,by kernel_rfl,by kernel_rfl⟩,⟨⟨Tryz.func56,by kernel_rfl,by kernel_rfl⟩,⟨⟨Tryz.func57,by kernel_rfl,by kernel_rfl⟩,⟨⟨Tryz.func58,by kernel_rfl,by kernel_rfl⟩,⟨⟨Tryz.func79,by kernel_rfl,by kernel_rfl⟩,⟨⟨Tryz.func81,by kernel_rfl,by kernel_rfl⟩,⟨⟨Tryz.func82,by kernel_rfl,by kernel_rfl⟩,⟨⟨Tryz.func83,by kernel_rfl,by kernel_rfl⟩,⟨⟨Tryz.func84,by kernel_rfl,by kernel_rfl⟩,⟨⟨Tryz.func85,by kernel_rfl,by kernel_rfl⟩,⟨⟨Tryz.func86,by kernel_rfl,by kernel_rfl⟩,⟨⟨Tryz.func88,by kernel_rfl,by kernel_rfl⟩,⟨⟨Tryz.func89,by kernel_rfl,by kernel_rfl⟩,⟨⟨Tryz.func90,by kernel_rfl,by kernel_rfl⟩,⟨⟨Tryz.func91,by kernel_rfl,by kernel_rfl⟩,⟨⟨Tryz.func93,by kernel_rfl,by kernel_rfl⟩,⟨⟨Tryz.func94,by kernel_rfl,by kernel_rfl⟩,⟨⟨Tryz.func95,by kernel_rfl,by kernel_rfl⟩,⟨⟨Tryz.func96,by kernel_rfl,by kernel_rfl⟩,⟨⟨Tryz.func97,by kernel_rfl,by kernel_rfl⟩,⟨⟨Tryz.func98,by kernel_rfl,by kernel_rfl⟩,⟨⟨Tryz.func99,by kernel_rfl,by kernel_rfl⟩,⟨⟨Tryz.func100,by kernel_rfl,by kernel_rfl⟩,⟨⟨Tryz.func101,by kernel_rfl,by kernel_rfl⟩,⟨⟨Tryz.func102,by kernel_rfl,by kernel_rfl⟩,⟨⟨Tryz.func103,by kernel_rfl,by kernel_rfl⟩,⟨⟨Tryz.func104,by kernel_rfl,by kernel_rfl⟩,⟨⟨Tryz.func105,by kernel_rfl,by kernel_rfl⟩,⟨⟨Tryz.func106,by kernel_rfl,by kernel_rfl⟩,⟨⟨Tryz.func107,by kernel_rfl,by kernel_rfl⟩,⟨⟨Tryz.func108,by kernel_rfl,by kernel_rfl⟩,⟨⟨Tryz.func109,by kernel_rfl,by kernel_rfl⟩,⟨⟨Tryz.func110,by kernel_rfl,by kernel_rfl⟩,⟨⟨Tryz.func113,by kernel_rfl,by kernel_rfl⟩,⟨⟨Tryz.func114,by kernel_rfl,by kernel_rfl⟩,⟨⟨Tryz.func115,by kernel_rfl,by kernel_rfl⟩,⟨⟨Tryz.func116,by kernel_rfl,by kernel_rfl⟩,⟨⟨Tryz.func117,by kernel_rfl,by kernel_rfl⟩,⟨⟨Tryz.func118,by kernel_rfl,by kernel_rfl⟩,⟨⟨Tryz.func119,by kernel_rfl,by kernel_rfl⟩,⟨⟨Tryz.func123,by kernel_rfl,by kernel_rfl⟩,⟨⟨Tryz.func124,by kernel_rfl,by kernel_rfl⟩,⟨⟨Tryz.func125,by kernel_rfl,by kernel_rfl⟩,⟨⟨Tryz.func136,by kernel_rfl,by kernel_rfl⟩,⟨⟨Tryz.func137,by kernel_rfl,by kernel_rfl⟩,⟨⟨Tryz.func138,by kernel_rfl,by kernel_rfl⟩,⟨⟨Tryz.func162,by kernel_rfl,by kernel_rfl⟩,⟨⟨Tryz.func163,by kernel_rfl,by kernel_rfl⟩,⟨⟨Tryz.func164,by kernel_rfl,by kernel_rfl⟩,⟨⟨Tryz.func165,by kernel_rfl,by kernel_rfl⟩,⟨⟨Tryz.func166,by kernel_rfl,by kernel_rfl⟩,⟨⟨Tryz.func167,by kernel_rfl,by kernel_rfl⟩,⟨⟨Tryz.func168,by kernel_rfl,by kernel_rfl⟩,⟨⟨Tryz.func169,by kernel_rfl,by kernel_rfl⟩,⟨⟨Tryz.func170,by kernel_rfl,by kernel_rfl⟩,⟨⟨Tryz.func171,by kernel_rfl,by kernel_rfl⟩,⟨⟨Tryz.func172,by kernel_rfl,by kernel_rfl⟩,⟨⟨Tryz.func173,by kernel_rfl,by kernel_rfl⟩,⟨⟨Tryz.func174,by kernel_rfl,by kernel_rfl⟩,⟨⟨Tryz.func175,by kernel_rfl,by kernel_rfl⟩,⟨⟨Tryz.func176,by kernel_rfl,by kernel_rfl⟩,⟨⟨Tryz.func177,by kernel_rfl,by kernel_rfl⟩,⟨⟨Tryz.func178,by kernel_rfl,by kernel_rfl⟩,⟨⟨Tryz.func179,by kernel_rfl,by kernel_rfl⟩,⟨⟨Tryz.func180,by kernel_rfl,by kernel_rfl⟩,⟨⟨Tryz.func181,by kernel_rfl,by kernel_rfl⟩,⟨⟨Tryz.func182,by kernel_rfl,by kernel_rfl⟩,⟨⟨Tryz.func183,by kernel_rfl,by kernel_rfl⟩,⟨⟨Tryz.func184,by kernel_rfl,by kernel_rfl⟩,⟨⟨Tryz.func185,by kernel_rfl,by kernel_rfl⟩,⟨⟨Tryz.func186,by kernel_rfl,by kernel_rfl⟩,⟨⟨Tryz.func187,by kernel_rfl,by kernel_rfl⟩,⟨⟨Tryz.func188,by kernel_rfl,by kernel_rfl⟩,⟨⟨Tryz.func189,by kernel_rfl,by kernel_rfl⟩,⟨⟨Tryz.func190,by kernel_rfl,by kernel_rfl⟩,⟨⟨Tryz.func191,by kernel_rfl,by kernel_rfl⟩,⟨⟨Tryz.func192,by kernel_rfl,by kernel_rfl⟩,⟨⟨Tryz.func193,by kernel_rfl,by kernel_rfl⟩,⟨⟨Tryz.func194,by kernel_rfl,by kernel_rfl⟩,⟨⟨Tryz.func195,by kernel_rfl,by kernel_rfl⟩,⟨⟨Tryz.func196,by kernel_rfl,by kernel_rfl⟩,⟨⟨Tryz.func197,by kernel_rfl,by kernel_rfl⟩,⟨⟨Tryz.func198,by kernel_rfl,by kernel_rfl⟩,⟨⟨Tryz.func199,by kernel_rfl,by kernel_rfl⟩,⟨⟨Tryz.func200,by kernel_rfl,by kernel_rfl⟩,⟨⟨Tryz.func201,by kernel_rfl,by kernel_rfl⟩,⟨⟨Tryz.func211,by kernel_rfl,by kernel_rfl⟩,⟨⟨Tryz.func217,by kernel_rfl,by kernel_rfl⟩,⟨⟨Tryz.func220,by kernel_rfl,by kernel_rfl⟩,⟨⟨Tryz.func221,by kernel_rfl,by kernel_rfl⟩,⟨⟨Tryz.func222,by kernel_rfl,by kernel_rfl⟩,⟨⟨Tryz.func223,by kernel_rfl,by kernel_rfl⟩,⟨⟨Tryz.func224,by kernel_rfl,by kernel_rfl⟩,⟨⟨Tryz.func225,by kernel_rfl,by kernel_rfl⟩,⟨⟨Tryz.func226,by kernel_rfl,by kernel_rfl⟩,⟨⟨Tryz.func227,by kernel_rfl,by kernel_rfl⟩,⟨⟨Tryz.func228,by kernel_rfl,by kernel_rfl⟩,⟨⟨Tryz.func229,by kernel_rfl,by kernel_rfl⟩,⟨⟨Tryz.func230,by kernel_rfl,by kernel_rfl⟩,⟨⟨Tryz.func231,by kernel_rfl,by kernel_rfl⟩,⟨⟨Tryz.func232,by kernel_rfl,by kernel_rfl⟩,⟨⟨Tryz.func233,by kernel_rfl,by kernel_rfl⟩,⟨⟨Tryz.func234,by kernel_rfl,by kernel_rfl⟩,⟨⟨Tryz.func235,by kernel_rfl,by kernel_rfl⟩,⟨⟨Tryz.func236,by kernel_rfl,by kernel_rfl⟩,⟨⟨Tryz.func237,by kernel_rfl,by kernel_rfl⟩,⟨⟨Tryz.func238,by kernel_rfl,by kernel_rfl⟩,⟨⟨Tryz.func239,by kernel_rfl,by kernel_rfl⟩,⟨⟨Tryz.func240,by kernel_rfl,by kernel_rfl⟩,⟨⟨Tryz.func241,by kernel_rfl,by kernel_rfl⟩,⟨⟨Tryz.func242,by kernel_rfl,by kernel_rfl⟩,⟨⟨Tryz.func243,by kernel_rfl,by kernel_rfl⟩,⟨⟨Tryz.func244,by kernel_rfl,by kernel_rfl⟩,⟨⟨Tryz.func245,by kernel_rfl,by kernel_rfl⟩,⟨⟨Tryz.func246,by kernel_rfl,by kernel_rfl⟩,⟨⟨Tryz.func248,by kernel_rfl,by kernel_rfl⟩,⟨⟨Tryz.func250,by kernel_rfl,by kernel_rfl⟩,⟨⟨Tryz.func251,by kernel_rfl,by kernel_rfl⟩,⟨⟨Tryz.func252,by kernel_rfl,by kernel_rfl⟩,⟨⟨Tryz.func253,by kernel_rfl,by kernel_rfl⟩,⟨⟨Tryz.func254,by kernel_rfl,by kernel_rfl⟩,⟨⟨Tryz.func255,by kernel_rfl,by kernel_rfl⟩,⟨⟨Tryz.func256,by kernel_rfl,by kernel_rfl⟩,⟨⟨Tryz.func257,by kernel_rfl,by kernel_rfl⟩,⟨⟨Tryz.func258,by kernel_rfl,by kernel_rfl⟩,⟨⟨Tryz.func259,by kernel_rfl,by kernel_rfl⟩,⟨⟨Tryz.func260,by kernel_rfl,by kernel_rfl⟩,⟨⟨Tryz.func261,by kernel_rfl,by kernel_rfl⟩,⟨⟨Tryz.func271,by kernel_rfl,by kernel_rfl⟩,⟨⟨Tryz.func272,by kernel_rfl,by kernel_rfl⟩,⟨⟨Tryz.func280,by kernel_rfl,by kernel_rfl⟩,⟨⟨Tryz.func281,by kernel_rfl,by kernel_rfl⟩,⟨⟨Tryz.func282,by kernel_rfl,by kernel_rfl⟩,⟨⟨Tryz.func283,by kernel_rfl,by kernel_rfl⟩,⟨⟨Tryz.func284,by kernel_rfl,by kernel_rfl⟩,⟨⟨Tryz.func285,by kernel_rfl,by kernel_rfl⟩,⟨⟨Tryz.func286,by kernel_rfl,by kernel_rfl⟩,⟨⟨Tryz.func287,by kernel_rfl,by kernel_rfl⟩,⟨⟨Tryz.func288,by kernel_rfl,by kernel_rfl⟩,⟨⟨Tryz.func289,by kernel_rfl,by kernel_rfl⟩,⟨⟨Tryz.func290,by kernel_rfl,by kernel_rfl⟩,⟨⟨Tryz.func291,by kernel_rfl,by kernel_rfl⟩,⟨⟨Tryz.func292,by kernel_rfl,by kernel_rfl⟩,⟨⟨Tryz.func293,by kernel_rfl,by kernel_rfl⟩,⟨⟨Tryz.func294,by kernel_rfl,by kernel_rfl⟩,⟨⟨Tryz.func295,by kernel_rfl,by kernel_rfl⟩,⟨⟨Tryz.func296,by kernel_rfl,by kernel_rfl⟩,⟨⟨Tryz.func311,by kernel_rfl,by kernel_rfl⟩,⟨⟨Tryz.func312,by kernel_rfl,by kernel_rfl⟩,⟨⟨Tryz.func313,by kernel_rfl,by kernel_rfl⟩,⟨⟨Tryz.func314,by kernel_rfl,by kernel_rfl⟩,⟨⟨Tryz.func315,by kernel_rfl,by kernel_rfl⟩,⟨⟨Tryz.func316,by kernel_rfl,by kernel_rfl⟩,⟨⟨Tryz.func317,by kernel_rfl,by kernel_rfl⟩,⟨⟨Tryz.func318,by kernel_rfl,by kernel_rfl⟩,⟨⟨Tryz.func319,by kernel_rfl,by kernel_rfl⟩,⟨⟨Tryz.func320,by kernel_rfl,by kernel_rfl⟩,⟨⟨Tryz.func321,by kernel_rfl,by kernel_rfl⟩,⟨⟨Tryz.func322,by kernel_rfl,by kernel_rfl⟩,⟨⟨Tryz.func325,by kernel_rfl,by kernel_rfl⟩,⟨⟨Tryz.func326,by kernel_rfl,by kernel_rfl⟩,⟨⟨Tryz.func327,by kernel_rfl,by kernel_rfl⟩,⟨⟨Tryz.func328,by kernel_rfl,by kernel_rfl⟩,⟨⟨Tryz.func329,by kernel_rfl,by kernel_rfl⟩,⟨⟨Tryz.func330,by kernel_rfl,by kernel_rfl⟩,⟨⟨Tryz.func331,by kernel_rfl,by kernel_rfl⟩,⟨⟨Tryz.func333,by kernel_rfl,by kernel_rfl⟩,⟨⟨Tryz.func334,by kernel_rfl,by kernel_rfl⟩,⟨⟨Tryz.func339,by kernel_rfl,by kernel_rfl⟩,⟨⟨Tryz.func340,by kernel_rfl,by kernel_rfl⟩,⟨⟨Tryz.func341,by kernel_rfl,by kernel_rfl⟩,⟨⟨Tryz.func342,by kernel_rfl,by kernel_rfl⟩,⟨⟨Tryz.func343,by kernel_rfl,by kernel_rfl⟩,⟨⟨Tryz.func354,by kernel_rfl,by kernel_rfl⟩,⟨⟨Tryz.func355,by kernel_rfl,by kernel_rfl⟩,⟨⟨Tryz.func356,by kernel_rfl,by kernel_rfl⟩,⟨⟨Tryz.func357,by kernel_rfl,by kernel_rfl⟩,⟨⟨Tryz.func358,by kernel_rfl,by kernel_rfl⟩,⟨⟨Tryz.func359,by kernel_rfl,by kernel_rfl⟩,⟨⟨Tryz.func360,by kernel_rfl,by kernel_rfl⟩,⟨⟨Tryz.func361,by kernel_rfl,by kernel_rfl⟩,⟨⟨Tryz.func362,by kernel_rfl,by kernel_rfl⟩,⟨⟨Tryz.func363,by kernel_rfl,by kernel_rfl⟩,⟨⟨Tryz.func375,by kernel_rfl,by kernel_rfl⟩,⟨⟨Tryz.func376,by kernel_rfl,by kernel_rfl⟩,⟨⟨Tryz.func377,by kernel_rfl,by kernel_rfl⟩,⟨⟨Tryz.func383,by kernel_rfl,by kernel_rfl⟩,trivial⟩⟩⟩⟩⟩⟩⟩⟩⟩⟩⟩⟩⟩⟩⟩⟩⟩⟩⟩⟩⟩⟩⟩⟩⟩⟩⟩⟩⟩⟩⟩⟩⟩⟩⟩⟩⟩⟩⟩⟩⟩⟩⟩⟩⟩⟩⟩⟩⟩⟩⟩⟩⟩⟩⟩⟩⟩⟩⟩⟩⟩⟩⟩⟩⟩⟩⟩⟩⟩⟩⟩⟩⟩⟩⟩⟩⟩⟩⟩⟩⟩⟩⟩⟩⟩⟩⟩⟩⟩⟩⟩⟩⟩⟩⟩⟩⟩⟩⟩⟩⟩⟩⟩⟩⟩⟩⟩⟩⟩⟩⟩⟩⟩⟩⟩⟩⟩⟩⟩⟩⟩⟩⟩⟩⟩⟩⟩⟩⟩⟩⟩⟩⟩⟩⟩⟩⟩⟩⟩⟩⟩⟩⟩⟩⟩⟩⟩⟩⟩⟩⟩⟩⟩⟩⟩⟩⟩⟩⟩⟩⟩⟩⟩⟩⟩⟩⟩⟩⟩⟩⟩⟩⟩⟩⟩⟩⟩⟩⟩⟩⟩⟩⟩⟩⟩⟩⟩⟩⟩⟩⟩⟩⟩⟩⟩⟩⟩⟩⟩⟩⟩⟩⟩⟩)
theorem prg_ok:PrgOk Tryz.prog p where
 ti:=E5 (by kernel_rfl)
 depth:=Nat.le_of_ble_eq_true (by kernel_rfl)
 mixed:=by kernel_rfl
 fn:=fun g fn h=>(DW _ (mK DX h)).out
 own:=fun g F h xs out ho=>by
  have hm:=mK CX h
  rcases List.mem_singleton.1 hm with e
  cases e
  exact B8 ⟨Tryz.f377,FnOk.out (P:=Tryz.prog) (g:=377) ⟨Tryz.func377,by kernel_rfl,by kernel_rfl⟩⟩ (by kernel_rfl) Tryz.strings_Compare xs out ho
theorem k_ok:KOk p.ti:=BQ (by kernel_rfl)
end Go.Abs.Xz
