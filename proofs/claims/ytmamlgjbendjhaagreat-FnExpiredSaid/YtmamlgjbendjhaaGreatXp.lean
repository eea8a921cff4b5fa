/- What the functions of this program answer, part p. -/
import Derived.Test.YtmamlgjbendjhaaGreatXz
import Derived.Test.YtmamlgjbendjhaaGreatW2
import Derived.KernelRfl
import Derived.Test.YtmamlgjbendjhaaGreatXt
set_option linter.unusedVariables false
namespace Go.Abs.Xz
open Go Go.Abs Go.Proofs
set_option maxRecDepth 100000 in
def rts:Nat→Option (List Nat):=fun g=>look? g [(3,[4]),(15,[4]),(16,[38,3]),(17,[38,43,4]),(18,[38,43,4]),(19,[4]),(20,[38]),(21,[3]),(22,[38,49,3]),(23,[4]),(25,[4]),(30,[4]),(80,[38,3]),(81,[38]),(82,[4]),(83,[43]),(84,[30]),(85,[38]),(86,[4]),(87,[4]),(88,[3]),(89,[43]),(90,[30]),(91,[4]),(92,[4]),(93,[4]),(94,[38]),(95,[38]),(96,[38,49,3]),(97,[38,4]),(98,[28]),(99,[27]),(100,[4]),(101,[4]),(102,[4]),(103,[30]),(104,[3]),(105,[4]),(106,[4]),(107,[3]),(108,[4]),(109,[4]),(110,[4]),(123,[4]),(124,[4]),(125,[4]),(126,[174]),(128,[4]),(136,[22]),(137,[22]),(138,[22]),(211,[4]),(218,[38]),(219,[3]),(220,[27]),(221,[33]),(222,[34]),(223,[41]),(224,[27]),(225,[33]),(226,[34]),(227,[4]),(228,[30]),(229,[4]),(230,[4]),(231,[3]),(232,[4]),(233,[4]),(234,[41]),(235,[38,4]),(236,[28]),(237,[34]),(238,[28]),(239,[27,4]),(240,[27]),(241,[27]),(242,[4]),(243,[3]),(244,[4]),(245,[3]),(246,[3]),(248,[3]),(249,[3]),(250,[4]),(253,[4]),(254,[38]),(256,[3]),(257,[34]),(260,[27]),(261,[27]),(271,[22]),(272,[3]),(297,[38]),(298,[38,27,3]),(306,[38]),(307,[34]),(308,[27]),(309,[33]),(310,[3]),(311,[3]),(312,[4]),(313,[3]),(314,[3]),(315,[3]),(316,[3]),(317,[27]),(318,[27,4]),(319,[161,4]),(320,[161]),(321,[4]),(322,[3]),(325,[27]),(327,[161,4]),(328,[3]),(329,[4]),(330,[3]),(331,[22]),(333,[22]),(334,[3]),(344,[27,3]),(345,[33,4]),(348,[38,4]),(349,[27]),(350,[9]),(351,[34]),(352,[161]),(353,[33]),(354,[3]),(355,[3]),(356,[3]),(357,[3]),(358,[3]),(359,[3]),(360,[22]),(364,[27,3]),(365,[27,3]),(366,[27,3]),(367,[27,3]),(372,[34]),(373,[27,4]),(374,[161]),(375,[3]),(376,[3]),(377,[3]),(378,[161,4]),(379,[27,3]),(380,[161,3]),(383,[4]),(385,[24])]
def HA:List Nat:=[]
def IQ:List Nat:=[]
def GZ:List Nat:=[16,80,97,218,307]
def E1(call:Cl)(n:Nat)(h:Hints):Env:={ ti:=ti,n:=n,call:=call,fresh:=fun g=> !hO g GZ,owns:=fun g=>hO g HA,h:=h }
def E2(call:Cl)(n b:Nat)(h:Hints):Env:={ ti:=ti,n:=n,call:=call,fresh:=fun g=> !hO g GZ,owns:=fun g=>hO g HA,h:=h,base:=b }
def h3:Hints:=⟨true,[],[(11,⟨[3,4,5,6,11],[96,160,192,952,954,955,956,957,958,60176,60177,60178,60179,60180,60181,60182,60183,60184],[(some 160,2,60176,163),(some 160,3,60177,165),(some 160,4,60178,3),(some 160,8,60179,27),(some 160,9,60180,3),(some 160,10,60181,3),(some 160,11,60182,28),(some 160,14,60183,141),(some 160,18,60184,147)]⟩)],false,false,[],[],[]⟩
def h15:Hints:=⟨true,[],[],false,false,[],[],[]⟩
def h16:Hints:=⟨false,[],[],false,false,[],[],[]⟩
def h17:Hints:=⟨true,[],[],false,false,[],[],[]⟩
def h18:Hints:=⟨true,[],[],false,false,[],[],[]⟩
def h19:Hints:=⟨true,[],[(16,⟨[2,3,7],[64,96],[]⟩),(11,⟨[2,3,6],[64,96],[]⟩),(6,⟨[2,3,5],[64,96],[]⟩)],false,false,[],[],[]⟩
def h20:Hints:=⟨true,[],[(7,⟨[1,2,3,23,24,25],[32,64,96,226,227,228,232,233,234,235,242,60112],[(some 96,14,60112,141)]⟩)],false,false,[],[],[]⟩
def h21:Hints:=⟨true,[],[(2,⟨[1,2,10,11,12],[],[]⟩)],false,false,[],[],[]⟩
def H7:Norm:=⟨[4,7,121],[4001248],[]⟩
def h22_4:Hints:=⟨true,[1000032,1000038],[],false,false,[],[],[]⟩
def H8:Norm:=⟨[3,4,7,109],[3001248],[]⟩
def h22_3:Hints:=⟨true,[1000032,1000038],[],false,false,[],[],[]⟩
def H9:Norm:=⟨[3,4,7,76],[2001248],[]⟩
def h22_2:Hints:=⟨true,[1000032,1000038],[],false,false,[],[],[]⟩
def IA:Norm:=⟨[4,67],[1001664,1001762,1001763,1001764,1001768,1001769,1001770,1001771,1001774,1001778,1002560],[]⟩
def h22_1:Hints:=⟨true,[],[],false,false,[],[],[]⟩
def h22:Hints:=⟨true,[],[],false,false,[(67,31250,IA,h22_1),(76,62500,H9,h22_2),(109,93750,H8,h22_3),(121,125000,H7,h22_4)],[],[]⟩
def h23:Hints:=⟨true,[],[],false,false,[],[],[]⟩
def h25:Hints:=⟨true,[],[(9,⟨[2,3,6],[64,96],[]⟩),(4,⟨[2,3,5],[64,96],[]⟩)],false,false,[],[],[]⟩
def h30:Hints:=⟨true,[],[(10,⟨[1,57,58,59],[32],[]⟩),(4,⟨[1,31,32,33],[32],[]⟩)],false,false,[],[],[]⟩
def GQ:Norm:=⟨[2,7],[1000992],[]⟩
def h80_1:Hints:=⟨true,[],[(3,⟨[0,3,4],[64],[]⟩)],false,false,[],[],[]⟩
def h80:Hints:=⟨false,[],[],false,false,[(7,31250,GQ,h80_1)],[],[]⟩
def h81:Hints:=⟨true,[],[],false,false,[],[],[]⟩
def h82:Hints:=⟨true,[],[],false,false,[],[],[]⟩
def h83:Hints:=⟨true,[],[],false,false,[],[],[]⟩
def h84:Hints:=⟨true,[],[],false,false,[],[],[]⟩
def h85:Hints:=⟨true,[],[],false,false,[],[],[]⟩
def h86:Hints:=⟨true,[],[(13,⟨[1,4],[32],[]⟩),(6,⟨[1,3],[32],[]⟩)],false,false,[],[],[]⟩
def h87:Hints:=⟨true,[],[],false,false,[],[],[]⟩
def h88:Hints:=⟨true,[],[(2,⟨[1,2,3,7],[96],[]⟩)],false,false,[],[],[]⟩
def h89:Hints:=⟨true,[],[],false,false,[],[],[]⟩
def h90:Hints:=⟨true,[],[],false,false,[],[],[]⟩
def h91:Hints:=⟨true,[],[],false,false,[],[],[]⟩
def h92:Hints:=⟨true,[],[(4,⟨[2,3,5],[64,96],[]⟩)],false,false,[],[],[]⟩
def h93:Hints:=⟨true,[],[(4,⟨[0,1,5],[],[]⟩)],false,false,[],[],[]⟩
def h94:Hints:=⟨true,[],[],false,false,[],[],[]⟩
def h95:Hints:=⟨true,[],[],false,false,[],[],[]⟩
def h97:Hints:=⟨false,[],[],false,false,[],[],[]⟩
def h98:Hints:=⟨true,[],[],false,false,[],[],[]⟩
def h99:Hints:=⟨true,[],[],false,false,[],[],[]⟩
def h100:Hints:=⟨true,[],[],false,false,[],[],[]⟩
def h101:Hints:=⟨true,[],[(8,⟨[1,43,44,45],[32],[]⟩),(2,⟨[1,8,9,10],[32],[]⟩)],false,false,[],[],[]⟩
def h102:Hints:=⟨true,[],[],false,false,[],[],[]⟩
def h103:Hints:=⟨true,[],[(5,⟨[1,2,3,4],[32,64,96,60080],[(some 96,0,60080,3)]⟩)],false,false,[],[],[]⟩
def h104:Hints:=⟨true,[],[],false,false,[],[],[]⟩
def h105:Hints:=⟨true,[],[(2,⟨[1,6,7,8],[32],[]⟩)],false,false,[],[],[]⟩
def h106:Hints:=⟨true,[],[(2,⟨[0,1,7,8,9],[],[]⟩)],false,false,[],[],[]⟩
def h107:Hints:=⟨true,[],[(5,⟨[0,3,4],[],[]⟩)],false,false,[],[],[]⟩
def h108:Hints:=⟨true,[],[(5,⟨[0,1,6,9,10,11,15,16,17],[],[]⟩),(2,⟨[0,1,9,10,11],[],[]⟩)],false,false,[],[],[]⟩
def h109:Hints:=⟨true,[],[(2,⟨[1,6,7,8],[32],[]⟩)],false,false,[],[],[]⟩
def h110:Hints:=⟨true,[],[(2,⟨[1,6,7,8],[32],[]⟩)],false,false,[],[],[]⟩
def h123:Hints:=⟨true,[],[],false,false,[],[],[]⟩
def h124:Hints:=⟨true,[],[(4,⟨[1,13,14,15],[32],[]⟩)],false,false,[],[],[]⟩
def h125:Hints:=⟨true,[],[(2,⟨[0,5,6,7],[],[]⟩)],false,false,[],[],[]⟩
def h128:Hints:=⟨true,[],[],false,false,[],[],[]⟩
def h136:Hints:=⟨true,[],[(12,⟨[3,55,56,57],[60192],[(none,3,60192,5)]⟩),(5,⟨[1,3,17,18,19],[32,60080],[(none,3,60080,5)]⟩)],false,false,[],[],[]⟩
def h137:Hints:=⟨true,[],[(3,⟨[3,7,8,9],[60048],[(none,3,60048,5)]⟩)],false,false,[],[],[]⟩
def h138:Hints:=⟨true,[],[(4,⟨[0,3],[60064],[(none,3,60064,5)]⟩)],false,false,[],[],[]⟩
def h211:Hints:=⟨true,[],[],false,false,[],[],[]⟩
def h218:Hints:=⟨false,[],[],false,false,[],[],[]⟩
def h219:Hints:=⟨true,[],[],false,false,[],[],[]⟩
def h220:Hints:=⟨true,[],[],false,false,[],[],[]⟩
def h221:Hints:=⟨true,[],[(3,⟨[2,3,12,13,14],[64,96,60048],[(some 96,2,60048,27)]⟩)],false,false,[],[],[]⟩
def h222:Hints:=⟨true,[],[(3,⟨[3,7,8,9],[60048],[(none,3,60048,28)]⟩)],false,false,[],[],[]⟩
def h223:Hints:=⟨true,[],[(3,⟨[1,3,4],[32,60048],[(none,3,60048,185)]⟩)],false,false,[],[],[]⟩
def h224:Hints:=⟨true,[],[],false,false,[],[],[]⟩
def h225:Hints:=⟨true,[],[(3,⟨[1,2,3,4],[32,64,96,60048],[(some 96,2,60048,27)]⟩)],false,false,[],[],[]⟩
def h226:Hints:=⟨true,[],[(3,⟨[0,3,4],[60048],[(none,3,60048,28)]⟩)],false,false,[],[],[]⟩
def h227:Hints:=⟨true,[],[(8,⟨[1,5],[32],[]⟩),(2,⟨[1,3],[32],[]⟩)],false,false,[],[],[]⟩
def h228:Hints:=⟨true,[],[(5,⟨[1,2,3,4],[32,64,96,60080],[(some 96,0,60080,3)]⟩)],false,false,[],[],[]⟩
def h229:Hints:=⟨true,[],[(4,⟨[1,3],[32],[]⟩)],false,false,[],[],[]⟩
def h230:Hints:=⟨true,[],[(4,⟨[0,1,5],[],[]⟩)],false,false,[],[],[]⟩
def h231:Hints:=⟨true,[],[],false,false,[],[],[]⟩
def h232:Hints:=⟨true,[],[(9,⟨[0,1,5,6],[],[]⟩),(4,⟨[0,1,5],[],[]⟩)],false,false,[],[],[]⟩
def h233:Hints:=⟨true,[],[(10,⟨[1,3,4,5,32,33,34,35,36,39,40,41,42,45,46,47,48,49,50],[32,128],[]⟩),(4,⟨[1,3],[32],[]⟩)],false,false,[],[],[]⟩
def h234:Hints:=⟨true,[],[(3,⟨[1,3,4],[32,60048],[(none,3,60048,185)]⟩)],false,false,[],[],[]⟩
def h235:Hints:=⟨true,[],[(9,⟨[2,4,6,45,46,47],[64,128,192,392,393,394,398,402,1024,1184,1185,1312],[]⟩)],false,false,[],[],[]⟩
def h236:Hints:=⟨true,[],[],false,false,[],[],[]⟩
def h237:Hints:=⟨true,[],[(5,⟨[1,7,32,33,34],[352],[]⟩)],false,false,[],[],[(11,[0])]⟩
def h238:Hints:=⟨true,[],[(6,⟨[2,3,5,6,7],[64,96,60096],[(none,5,60096,3)]⟩)],false,false,[],[],[]⟩
def h239:Hints:=⟨true,[],[],false,false,[],[],[]⟩
def h240:Hints:=⟨true,[],[(3,⟨[2,3,4,5,6],[64,96,128,160,60048,60049],[(some 160,0,60048,163),(some 160,1,60049,165)]⟩)],false,false,[],[],[]⟩
def h241:Hints:=⟨true,[],[(11,⟨[1,4,5,35,36,37],[128,160,60080,60176],[(some 160,1,60176,165)]⟩),(5,⟨[1,2,4,5,16,17,18],[64,128,160,60080],[(some 160,0,60080,163)]⟩)],false,false,[],[],[]⟩
def h242:Hints:=⟨true,[],[],false,false,[],[],[]⟩
def h243:Hints:=⟨true,[],[(2,⟨[1,8,9,10],[],[]⟩)],false,false,[],[],[]⟩
def h244:Hints:=⟨true,[],[(4,⟨[0,1,12,13],[],[]⟩)],false,false,[],[],[]⟩
def h245:Hints:=⟨true,[],[],false,false,[],[],[]⟩
def h246:Hints:=⟨true,[],[(3,⟨[3,7,8,9],[60048],[(none,3,60048,5)]⟩)],false,false,[],[],[]⟩
def h248:Hints:=⟨true,[],[],false,false,[],[],[]⟩
def h249:Hints:=⟨true,[],[],false,false,[],[],[]⟩
def h250:Hints:=⟨true,[],[],false,false,[],[],[]⟩
def h253:Hints:=⟨true,[],[(2,⟨[0,3],[],[]⟩)],false,false,[],[],[]⟩
def h254:Hints:=⟨true,[],[(7,⟨[2,4,5,7],[64,128,160,360,361,362,366,370,704,864,865,992],[]⟩)],false,false,[],[],[]⟩
def h256:Hints:=⟨true,[],[],false,false,[],[],[]⟩
def h257:Hints:=⟨true,[],[(5,⟨[1,2,7,8],[320],[]⟩)],false,false,[],[],[(10,[0])]⟩
def h260:Hints:=⟨true,[],[(3,⟨[2,3,4,5,6],[64,96,128,160,60048,60049],[(some 160,1,60048,165),(some 160,0,60049,163)]⟩)],false,false,[],[],[]⟩
def h261:Hints:=⟨true,[],[(8,⟨[1,2,4,5,7],[64,128,160,60048,60128],[(some 160,1,60128,165)]⟩),(3,⟨[1,2,4,5,6],[64,128,160,60048],[(some 160,0,60048,163)]⟩)],false,false,[],[],[]⟩
def h271:Hints:=⟨true,[],[],false,false,[],[],[]⟩
def h272:Hints:=⟨true,[],[(7,⟨[3,7,8,9,17],[],[]⟩),(3,⟨[3,7,8,9],[],[]⟩)],false,false,[],[],[]⟩
def h297:Hints:=⟨true,[],[(7,⟨[1,2,3,4],[32,64,96,226,227,228,232,233,234,235,242,60112],[(some 96,14,60112,141)]⟩)],false,false,[],[],[]⟩
def h298:Hints:=⟨true,[],[],false,false,[],[],[]⟩
def h306:Hints:=⟨true,[],[(18,⟨[0,2,3,4,8],[64,128,60080,60081,60082,60083,60084,60085,60086,60087,60088,100000],[]⟩),(5,⟨[0,2,3,4,6,7],[64,128,60080,60081,60082,60083,60084,60085,60086,60087,60088,100000],[(some 128,2,60080,163),(some 128,3,60081,165),(some 128,4,60082,3),(some 128,8,60083,27),(some 128,9,60084,3),(some 128,10,60085,3),(some 128,11,60086,28),(some 128,14,60087,141),(some 128,18,60088,147)]⟩)],false,false,[],[],[]⟩
def DS:Norm:=⟨[0,5],[1060064],[]⟩
def h307_1:Hints:=⟨true,[],[(4,⟨[0,3,4,5],[100000,1060064],[(none,4,1060064,28)]⟩)],false,false,[],[],[(10,[0]),(21,[0])]⟩
def h307:Hints:=⟨false,[],[],false,false,[(5,31250,DS,h307_1)],[13],[]⟩
def h308:Hints:=⟨true,[],[],false,false,[],[],[]⟩
def h309:Hints:=⟨true,[],[],false,false,[],[],[]⟩
def h310:Hints:=⟨true,[],[],false,false,[],[],[]⟩
def h311:Hints:=⟨true,[],[],false,false,[],[],[]⟩
def h312:Hints:=⟨true,[],[],false,false,[],[],[]⟩
def h313:Hints:=⟨true,[],[(2,⟨[1,2,5],[64],[]⟩)],false,false,[],[],[]⟩
def h314:Hints:=⟨true,[],[],false,false,[],[],[]⟩
def h315:Hints:=⟨true,[],[(3,⟨[0,3,4],[60048],[(none,3,60048,5)]⟩)],false,false,[],[],[]⟩
def h316:Hints:=⟨true,[],[],false,false,[],[],[]⟩
def h317:Hints:=⟨true,[],[(5,⟨[1,2,4,5,6],[64,128,160,60080],[(some 160,1,60080,165)]⟩)],false,false,[],[],[]⟩
def h318:Hints:=⟨true,[],[(5,⟨[4,6,29,30,31],[128,192,60080,60081],[(some 192,0,60080,163),(some 192,1,60081,165)]⟩)],false,false,[],[],[]⟩
def h319:Hints:=⟨true,[],[(2,⟨[1,4,9,10,11],[128],[]⟩)],false,false,[],[],[]⟩
def h320:Hints:=⟨true,[],[],false,false,[],[],[]⟩
def h321:Hints:=⟨true,[],[],false,false,[],[],[]⟩
def h322:Hints:=⟨true,[],[],false,false,[],[],[]⟩
def h325:Hints:=⟨true,[],[(5,⟨[1,2,4,5,6],[64,128,160,60080],[(some 160,1,60080,165)]⟩)],false,false,[],[],[]⟩
def h327:Hints:=⟨true,[],[(2,⟨[1,2,4,6],[64,128],[]⟩)],false,false,[],[],[]⟩
def h328:Hints:=⟨true,[],[(3,⟨[2,3,5,6],[64,96,864],[]⟩)],false,false,[],[],[]⟩
def h329:Hints:=⟨true,[],[(2,⟨[0,1,5],[],[]⟩)],false,false,[],[],[]⟩
def h330:Hints:=⟨true,[],[],false,false,[],[],[]⟩
def h331:Hints:=⟨true,[],[(4,⟨[0,3],[60064],[(none,3,60064,5)]⟩)],false,false,[],[],[]⟩
def h333:Hints:=⟨true,[],[(8,⟨[1,3,4,5,6,7],[32,160,1280,60128],[(none,3,60128,5)]⟩),(14,⟨[1,3,8],[32,60224],[(none,3,60224,5)]⟩),(3,⟨[1,3,4],[32,60048],[(none,3,60048,5)]⟩)],false,false,[],[],[]⟩
def h334:Hints:=⟨true,[],[(7,⟨[0,3,4,5],[],[]⟩),(3,⟨[0,3,4],[],[]⟩)],false,false,[],[],[]⟩
def h344:Hints:=⟨true,[],[],false,false,[],[],[]⟩
def h345:Hints:=⟨true,[43],[],false,false,[],[],[]⟩
def h348:Hints:=⟨true,[],[],false,false,[],[],[]⟩
def h349:Hints:=⟨true,[],[(10,⟨[0,2,3,8,9],[64,96,60160,60161,100000],[(some 96,0,60160,163),(some 96,1,60161,165)]⟩),(4,⟨[0,2,3,4,5],[64,96,60064,60065,100000],[(some 96,0,60064,163),(some 96,1,60065,165)]⟩)],false,false,[],[],[]⟩
def h350:Hints:=⟨true,[],[],false,false,[],[],[]⟩
def h351:Hints:=⟨true,[],[(4,⟨[0,3,4,5],[60064,100000],[(none,4,60064,28)]⟩)],false,false,[],[],[(10,[0]),(21,[0])]⟩
def h352:Hints:=⟨true,[],[],false,false,[],[],[]⟩
def h353:Hints:=⟨true,[],[(4,⟨[0,2,3,4,5],[64,96,60064,100000],[(some 96,2,60064,27)]⟩)],false,false,[],[],[]⟩
def h354:Hints:=⟨true,[],[(3,⟨[1,5,8,9,10],[],[]⟩)],false,false,[],[],[]⟩
def h355:Hints:=⟨true,[],[],false,false,[],[],[]⟩
def h356:Hints:=⟨true,[],[(2,⟨[0,1,7,8],[],[]⟩)],false,false,[],[],[]⟩
def h357:Hints:=⟨true,[],[(5,⟨[0,1,5,6],[],[]⟩)],false,false,[],[],[]⟩
def h358:Hints:=⟨true,[],[],false,false,[],[],[]⟩
def h359:Hints:=⟨true,[],[],false,false,[],[],[]⟩
def h360:Hints:=⟨true,[],[],false,false,[],[],[]⟩
def h364:Hints:=⟨true,[],[],false,false,[],[],[]⟩
def h365:Hints:=⟨true,[],[],false,false,[],[],[]⟩
def h366:Hints:=⟨true,[],[],false,false,[],[],[]⟩
def h367:Hints:=⟨true,[],[],false,false,[],[],[]⟩
def h372:Hints:=⟨true,[],[(5,⟨[0,3,4],[60080],[(none,3,60080,28)]⟩)],false,false,[],[],[]⟩
def h373:Hints:=⟨true,[],[],false,false,[],[],[]⟩
def h374:Hints:=⟨true,[],[],false,false,[],[],[]⟩
def h375:Hints:=⟨true,[],[(3,⟨[3,6,7,8],[],[]⟩)],false,false,[],[],[]⟩
def h376:Hints:=⟨true,[],[],false,false,[],[],[]⟩
def h377:Hints:=⟨true,[],[],false,false,[],[],[]⟩
def h378:Hints:=⟨true,[],[],false,false,[],[],[]⟩
def h379:Hints:=⟨true,[],[],false,false,[],[],[]⟩
def h380:Hints:=⟨true,[],[],false,false,[],[],[]⟩
def h383:Hints:=⟨true,[],[],false,false,[],[],[]⟩
def h385:Hints:=⟨true,[],[(5,⟨[1,3,4],[32,60080],[(none,3,60080,163)]⟩)],false,false,[],[],[]⟩
set_option maxRecDepth 100000 in
noncomputable def EO:List (Nat×Func):=[(3,Tryz.f3),(15,Tryz.f15),(16,Tryz.f16),(17,Tryz.f17),(18,Tryz.f18),(19,Tryz.f19),(20,Tryz.f20),(21,Tryz.f21),(22,Tryz.f22),(23,Tryz.f23),(25,Tryz.f25),(30,Tryz.f30),(80,Tryz.f80),(81,Tryz.f81),(82,Tryz.f82),(83,Tryz.f83),(84,Tryz.f84),(85,Tryz.f85),(86,Tryz.f86),(87,Tryz.f87),(88,Tryz.f88),(89,Tryz.f89),(90,Tryz.f90),(91,Tryz.f91),(92,Tryz.f92),(93,Tryz.f93),(94,Tryz.f94),(95,Tryz.f95),(96,Tryz.f96),(97,Tryz.f97),(98,Tryz.f98),(99,Tryz.f99),(100,Tryz.f100),(101,Tryz.f101),(102,Tryz.f102),(103,Tryz.f103),(104,Tryz.f104),(105,Tryz.f105),(106,Tryz.f106),(107,Tryz.f107),(108,Tryz.f108),(109,Tryz.f109),(110,Tryz.f110),(123,Tryz.f123),(124,Tryz.f124),(125,Tryz.f125),(126,Tryz.f126),(128,Tryz.f128),(136,Tryz.f136),(137,Tryz.f137),(138,Tryz.f138),(211,Tryz.f211),(218,Tryz.f218),(219,Tryz.f219),(220,Tryz.f220),(221,Tryz.f221),(222,Tryz.f222),(223,Tryz.f223),(224,Tryz.f224),(225,Tryz.f225),(226,Tryz.f226),(227,Tryz.f227),(228,Tryz.f228),(229,Tryz.f229),(230,Tryz.f230),(231,Tryz.f231),(232,Tryz.f232),(233,Tryz.f233),(234,Tryz.f234),(235,Tryz.f235),(236,Tryz.f236),(237,Tryz.f237),(238,Tryz.f238),(239,Tryz.f239),(240,Tryz.f240),(241,Tryz.f241),(242,Tryz.f242),(243,Tryz.f243),(244,Tryz.f244),(245,Tryz.f245),(246,Tryz.f246),(248,Tryz.f248),(249,Tryz.f249),(250,Tryz.f250),(253,Tryz.f253),(254,Tryz.f254),(256,Tryz.f256),(257,Tryz.f257),(260,Tryz.f260),(261,Tryz.f261),(271,Tryz.f271),(272,Tryz.f272),(297,Tryz.f297),(298,Tryz.f298),(306,Tryz.f306),(307,Tryz.f307),(308,Tryz.f308),(309,Tryz.f309),(310,Tryz.f310),(311,Tryz.f311),(312,Tryz.f312),(313,Tryz.f313),(314,Tryz.f314),(315,Tryz.f315),(316,Tryz.f316),(317,Tryz.f317),(318,Tryz.f318),(319,Tryz.f319),(320,Tryz.f320),(321,Tryz.f321),(322,Tryz.f322),(325,Tryz.f325),(327,Tryz.f327),(328,Tryz.f328),(329,Tryz.f329),(330,Tryz.f330),(331,Tryz.f331),(333,Tryz.f333),(334,Tryz.f334),(344,Tryz.f344),(345,Tryz.f345),(348,Tryz.f348),(349,Tryz.f349),(350,Tryz.f350),(351,Tryz.f351),(352,Tryz.f352),(353,Tryz.f353),(354,Tryz.f354),(355,Tryz.f355),(356,Tryz.f356),(357,Tryz.f357),(358,Tryz.f358),(359,Tryz.f359),(360,Tryz.f360),(364,Tryz.f364),(365,Tryz.f365),(366,Tryz.f366),(367,Tryz.f367),(372,Tryz.f372),(373,Tryz.f373),(374,Tryz.f374),(375,Tryz.f375),(376,Tryz.f376),(377,Tryz.f377),(378,Tryz.f378),(379,Tryz.f379),(380,Tryz.f380),(383,Tryz.f383),(385,Tryz.f385)]
set_option maxRecDepth 100000 in
noncomputable def EH:List (Nat×Hints):=[(3,h3),(15,h15),(16,h16),(17,h17),(18,h18),(19,h19),(20,h20),(21,h21),(22,h22),(23,h23),(25,h25),(30,h30),(80,h80),(81,h81),(82,h82),(83,h83),(84,h84),(85,h85),(86,h86),(87,h87),(88,h88),(89,h89),(90,h90),(91,h91),(92,h92),(93,h93),(94,h94),(95,h95),(97,h97),(98,h98),(99,h99),(100,h100),(101,h101),(102,h102),(103,h103),(104,h104),(105,h105),(106,h106),(107,h107),(108,h108),(109,h109),(110,h110),(123,h123),(124,h124),(125,h125),(128,h128),(136,h136),(137,h137),(138,h138),(211,h211),(218,h218),(219,h219),(220,h220),(221,h221),(222,h222),(223,h223),(224,h224),(225,h225),(226,h226),(227,h227),(228,h228),(229,h229),(230,h230),(231,h231),(232,h232),(233,h233),(234,h234),(235,h235),(236,h236),(237,h237),(238,h238),(239,h239),(240,h240),(241,h241),(242,h242),(243,h243),(244,h244),(245,h245),(246,h246),(248,h248),(249,h249),(250,h250),(253,h253),(254,h254),(256,h256),(257,h257),(260,h260),(261,h261),(271,h271),(272,h272),(297,h297),(298,h298),(306,h306),(307,h307),(308,h308),(309,h309),(310,h310),(311,h311),(312,h312),(313,h313),(314,h314),(315,h315),(316,h316),(317,h317),(318,h318),(319,h319),(320,h320),(321,h321),(322,h322),(325,h325),(327,h327),(328,h328),(329,h329),(330,h330),(331,h331),(333,h333),(334,h334),(344,h344),(345,h345),(348,h348),(349,h349),(350,h350),(351,h351),(352,h352),(353,h353),(354,h354),(355,h355),(356,h356),(357,h357),(358,h358),(359,h359),(360,h360),(364,h364),(365,h365),(366,h366),(367,h367),(372,h372),(373,h373),(374,h374),(375,h375),(376,h376),(377,h377),(378,h378),(379,h379),(380,h380),(383,h383),(385,h385)]
def hd0:Hints:=⟨true,[],[],false,false,[],[],[]⟩
def DH:List (Nat×(List Abs.Arg→Option Out)):=[(377,HQ)]
noncomputable def p:Prg:={ ti:=ti,fn:=fun g=>look? g EO,hint:=fun g=>⟨!hO g GZ,((look? g EH).getD hd0).cut,((look? g EH).getD hd0).loops,hO g IQ,hO g HA,((look? g EH).getD hd0).inl,((look? g EH).getD hd0).unp,((look? g EH).getD hd0).adp⟩,own:=fun g=>look? g DH }
set_option maxRecDepth 100000 in
theorem C8:p.rts=rts:=by
 funext g
 unfold Prg.rts rts p
 rw[yJ];rfl
abbrev Go(lvl g:Nat)(xs:List Abs.Arg)(out:Out)(T:Cl→Nat→Option Out):Prop:=(∀ n,lvl≤n→Ev (fun aA=>T (aJ p n) aA) out)→Ran p (lvl+1) g xs out
theorem gO {g lvl:Nat} {xs:List Abs.Arg} {out:Out} {T:Cl→Nat→Option Out} (fn:Func) (nt:Nat) (h:Hints) (ho:(p.own g,p.fn g,fn.ntmps,p.hint g)=(none,some fn,nt,h))
  (e:∀ (c:Cl) (J:jL) (f:Nat),tP (E1 c nt h) rts J f fn xs=T c f):Go lvl g xs out T:=fun H=>by
 simp only[Prod.mk.injEq] at ho
 obtain⟨h1,h2,h3,h4⟩:=ho
 subst h3;subst h4
 refine Ran.of h1 h2 fun n hl=>?_
 rw[C8]
 exact(Ev.eq (fun aA=>e (aJ p n) (f5 p.fn (tY p (aJ p n) fn.ntmps (p.hint g)) rts aA 3) aA) (H n hl)).get
theorem gOI {g lvl:Nat} {xs:List Abs.Arg} {out:Out} {T:Cl→Nat→Option Out} (fn:Func) (nt:Nat) (h:Hints) (ho:(p.own g,p.fn g,fn.ntmps,p.hint g)=(none,some fn,nt,h))
  (e:∀ (c:Cl) (f:Nat),tP (E1 c nt h) rts (f5 p.fn (E1 c nt h) rts f 3) f fn xs=T c f):Go lvl g xs out T:=fun H=>by
 simp only[Prod.mk.injEq] at ho
 obtain⟨h1,h2,h3,h4⟩:=ho
 subst h3;subst h4
 refine Ran.of h1 h2 fun n hl=>?_
 rw[C8]
 exact(Ev.eq (fun aA=>e (aJ p n) aA) (H n hl)).get
abbrev qq{β:Type}(o:Option Out)(A B:List (List Kd))(f:Rows A×Rows B→Option β):Option β:=(o.bind (dP A B)).bind f
abbrev va(K:List Kd)(r:Row K):Abs.Arg:= .val true ⟨K,r⟩
abbrev rB(b:Bool):Option Out:=some ⟨[⟨K4,(b,())⟩],[]⟩
abbrev vi(x:Int):Abs.Arg:= .val false ⟨K3,(x,())⟩

noncomputable def sT(E:Env)(xs:List Abs.Arg)(J:jL)(aA:Nat)(path:List Nat)(fn:Func):St→(St→Option Out)→Option Out:=fX E rts J aA path (cX fn) (uQ E fn xs)
set_option maxRecDepth 100000 in
theorem EN:∀ q∈EO,FnOk Tryz.prog q.1 q.2:=E6 (⟨⟨Tryz.func3,by kernel_rfl,by kernel_rfl⟩,⟨⟨Tryz.func15,by kernel_rfl,by kernel_rfl⟩,⟨⟨Tryz.func16,by kernel_rfl,by kernel_rfl⟩,⟨⟨Tryz.func17,by kernel_rfl,by kernel_rfl⟩,⟨⟨Tryz.func18,by kernel_rfl,by kernel_rfl⟩,⟨⟨Tryz.func19,by kernel_rfl,by kernel_rfl⟩,⟨⟨Tryz.func20,by kernel_rfl,by kernel_rfl⟩,⟨⟨Tryz.func21,by kernel_rfl,by kernel_rfl⟩,⟨⟨Tryz.func22,by kernel_rfl,by kernel_rfl⟩,⟨⟨Tryz.func23,by kernel_rfl,by kernel_rfl⟩,⟨⟨Tryz.func25,by kernel_rfl,by kernel_rfl⟩,⟨⟨Tryz.func30,by kernel_rfl,by kernel_rfl⟩,⟨⟨Tryz.func80,by kernel_rfl,by kernel_rfl⟩,⟨⟨Tryz.func81,by kernel_rfl,by kernel_rfl⟩,⟨⟨Tryz.func82,by kernel_rfl,by kernel_rfl⟩,⟨⟨Tryz.func83,by kernel_rfl,by kernel_rfl⟩,⟨⟨Tryz.func84,by kernel_rfl,by kernel_rfl⟩,⟨⟨Tryz.func85,by kernel_rfl,by kernel_rfl⟩,⟨⟨Tryz.func86,by kernel_rfl,by kernel_rfl⟩,⟨⟨Tryz.func87,by kernel_rfl,by kernel_rfl⟩,⟨⟨Tryz.func88,by kernel_rfl,by kernel_rfl⟩,⟨⟨Tryz.func89,by kernel_rfl,by kernel_rfl⟩,⟨⟨Tryz.func90,by kernel_rfl,by kernel_rfl⟩,⟨⟨Tryz.func91,by kernel_rfl,by kernel_rfl⟩,⟨⟨Tryz.func92,by kernel_rfl,by kernel_rfl⟩,⟨⟨Tryz.func93,by kernel_rfl,by kernel_rfl⟩,⟨⟨Tryz.func94,by kernel_rfl,by kernel_rfl⟩,⟨⟨Tryz.func95,by kernel_rfl,by kernel_rfl⟩,⟨⟨Tryz.func96,by kernel_rfl,by kernel_rfl⟩,⟨⟨Tryz.func97,by kernel_rfl,by kernel_rfl⟩,⟨⟨Tryz.func98,by kernel_rfl,by kernel_rfl⟩,⟨⟨Tryz.func99,by kernel_rfl,by kernel_rfl⟩,⟨⟨Tryz.func100,by kernel_rfl,by kernel_rfl⟩,⟨⟨Tryz.func101,by kernel_rfl,by kernel_rfl⟩,⟨⟨Tryz.func102,by kernel_rfl,by kernel_rfl⟩,⟨⟨Tryz.func103,by kernel_rfl,by kernel_rfl⟩,⟨⟨Tryz.func104,by kernel_rfl,by kernel_rfl⟩,⟨⟨Tryz.func105,by kernel_rfl,by kernel_rfl⟩,⟨⟨Tryz.func106,by kernel_rfl,by kernel_rfl⟩,⟨⟨Tryz.func107,by kernel_rfl,by kernel_rfl⟩,⟨⟨Tryz.func108,by kernel_rfl,by kernel_rfl⟩,⟨⟨Tryz.func109,by kernel_rfl,by kernel_rfl⟩,⟨⟨Tryz.func110,by kernel_rfl,by kernel_rfl⟩,⟨⟨Tryz.func123,by kernel_rfl,by kernel_rfl⟩,⟨⟨Tryz.func124,by kernel_rfl,by kernel_rfl⟩,⟨⟨Tryz.func125,by kernel_rfl,by kernel_rfl⟩,⟨⟨Tryz.func126,by kernel_rfl,by kernel_rfl⟩,⟨⟨Tryz.func128,by kernel_rfl,by kernel_rfl⟩,⟨⟨Tryz.func136,by kernel_rfl,by kernel_rfl⟩,⟨⟨Tryz.func137,by kernel_rfl,by kernel_rfl⟩,⟨⟨Tryz.func138,by kernel_rfl,by kernel_rfl⟩,⟨⟨Tryz.func211,by kernel_rfl,by kernel_rfl⟩,⟨⟨Tryz.func218,by kernel_rfl,by kernel_rfl⟩,⟨⟨Tryz.func219,by kernel_rfl,by kernel_rfl⟩,⟨⟨Tryz.func220,by kernel_rfl,by kernel_rfl⟩,⟨⟨Tryz.func221,by kernel_rfl,by kernel_rfl⟩,⟨⟨Tryz.func222,by kernel_rfl,by kernel_rfl⟩,⟨⟨Tryz.func223,by kernel_rfl,by kernel_rfl⟩,⟨⟨Tryz.func224,by kernel_rfl,by kernel_rfl⟩,⟨⟨Tryz.func225,by kernel_rfl,by kernel_rfl⟩,⟨⟨Tryz.func226,by kernel_rfl,by kernel_rfl⟩,⟨⟨Tryz.func227,by kernel_rfl,by kernel_rfl⟩,⟨⟨Tryz.func228,by kernel_rfl,by kernel_rfl⟩,⟨⟨Tryz.func229,by kernel_rfl,by kernel_rfl⟩,⟨⟨Tryz.func230,by kernel_rfl,by kernel_rfl⟩,⟨⟨Tryz.func231,by kernel_rfl,by kernel_rfl⟩,⟨⟨Tryz.func232,by kernel_rfl,by kernel_rfl⟩,⟨⟨Tryz.func233,by kernel_rfl,by kernel_rfl⟩,⟨⟨Tryz.func234,by kernel_rfl,by kernel_rfl⟩,⟨⟨Tryz.func235,by kernel_rfl,by kernel_rfl⟩,⟨⟨Tryz.func236,by kernel_rfl,by kernel_rfl⟩,⟨⟨Tryz.func237,by kernel_rfl,by kernel_rfl⟩,⟨⟨Tryz.func238,by kernel_rfl,by kernel_rfl⟩,⟨⟨Tryz.func239,by kernel_rfl,by kernel_rfl⟩,⟨⟨Tryz.func240,by kernel_rfl,by kernel_rfl⟩,⟨⟨Tryz.func241,by kernel_rfl,by kernel_rfl⟩,⟨⟨Tryz.func242,by kernel_rfl,by kernel_rfl⟩,⟨⟨Tryz.func243,by kernel_rfl,by kernel_rfl⟩,⟨⟨Tryz.func244,by kernel_rfl,by kernel_rfl⟩,⟨⟨Tryz.func245,by kernel_rfl,by kernel_rfl⟩,⟨⟨Tryz.func246,by kernel_rfl,by kernel_rfl⟩,⟨⟨Tryz.func248,by kernel_rfl,by kernel_rfl⟩,⟨⟨Tryz.func249,by kernel_rfl,by kernel_rfl⟩,⟨⟨Tryz.func250,by kernel_rfl,by kernel_rfl⟩,⟨⟨Tryz.func253,by kernel_rfl,by kernel_rfl⟩,⟨⟨Tryz.func254,by kernel_rfl,by kernel_rfl⟩,⟨⟨Tryz.func256,by kernel_rfl,by kernel_rfl⟩,⟨⟨Tryz.func257,by kernel_rfl,by kernel_rfl⟩,⟨⟨Tryz.func260,by kernel_rfl,by kernel_rfl⟩,⟨⟨Tryz.func261,by kernel_rfl,by kernel_rfl⟩,⟨⟨Tryz.func271,by kernel_rfl,by kernel_rfl⟩,⟨⟨Tryz.func272,by kernel_rfl,by kernel_rfl⟩,⟨⟨Tryz.func297,by kernel_rfl,by kernel_rfl⟩,⟨⟨Tryz.func298,by kernel_rfl,by kernel_rfl⟩,⟨⟨Tryz.func306,by kernel_rfl,by kernel_rfl⟩,⟨⟨Tryz.func307,by kernel_rfl,by kernel_rfl⟩,⟨⟨Tryz.func308,by kernel_rfl,by kernel_rfl⟩,⟨⟨Tryz.func309,by kernel_rfl,by kernel_rfl⟩,⟨⟨Tryz.func310,by kernel_rfl,by kernel_rfl⟩,⟨⟨Tryz.func311,by kernel_rfl,by kernel_rfl⟩,⟨⟨Tryz.func312,by kernel_rfl,by kernel_rfl⟩,⟨⟨Tryz.func313,by kernel_rfl,by kernel_rfl⟩,⟨⟨Tryz.func314,by kernel_rfl,by kernel_rfl⟩,⟨⟨Tryz.func315,by kernel_rfl,by kernel_rfl⟩,⟨⟨Tryz.func316,by kernel_rfl,by kernel_rfl⟩,⟨⟨Tryz.func317,by kernel_rfl,by kernel_rfl⟩,⟨⟨Tryz.func318,by kernel_rfl,by kernel_rfl⟩,⟨⟨Tryz.func319,by kernel_rfl,by kernel_rfl⟩,⟨⟨Tryz.func320,by kernel_rfl,by kernel_rfl⟩,⟨⟨Tryz.func321,by kernel_rfl,by kernel_rfl⟩,⟨⟨Tryz.func322,by kernel_rfl,by kernel_rfl⟩,⟨⟨Tryz.func325,by kernel_rfl,by kernel_rfl⟩,⟨⟨Tryz.func327,by kernel_rfl,by kernel_rfl⟩,⟨⟨Tryz.func328,by kernel_rfl,by kernel_rfl⟩,⟨⟨Tryz.func329,by kernel_rfl,by kernel_rfl⟩,⟨⟨Tryz.func330,by kernel_rfl,by kernel_rfl⟩,⟨⟨Tryz.func331,by kernel_rfl,by kernel_rfl⟩,⟨⟨Tryz.func333,by kernel_rfl,by kernel_rfl⟩,⟨⟨Tryz.func334,by kernel_rfl,by kernel_rfl⟩,⟨⟨Tryz.func344,by kernel_rfl,by kernel_rfl⟩,⟨⟨Tryz.func345,by kernel_rfl,by kernel_rfl⟩,⟨⟨Tryz.func348,by kernel_rfl,by kernel_rfl⟩,⟨⟨Tryz.func349,by kernel_rfl,by kernel_rfl⟩,⟨⟨Tryz.func350,by kernel_rfl,by kernel_rfl⟩,⟨⟨Tryz.func351,by kernel_rfl,by kernel_rfl⟩,⟨⟨Tryz.func352,by kernel_rfl,by kernel_rfl⟩,⟨⟨Tryz.func353,by kernel_rfl,by kernel_rfl⟩,⟨⟨Tryz.func354,by kernel_rfl,by kernel_rfl⟩,⟨⟨Tryz.func355,by kernel_rfl,by kernel_rfl⟩,⟨⟨Tryz.func356,by kernel_rfl,by kernel_rfl⟩,⟨⟨Tryz.func357,by kernel_rfl,by kernel_rfl⟩,⟨⟨Tryz.func358,by kernel_rfl,by kernel_rfl⟩,⟨⟨Tryz.func359,by kernel_rfl,by kernel_rfl⟩,⟨⟨Tryz.func360,by kernel_rfl,by kernel_rfl⟩,⟨⟨Tryz.func364,by kernel_rfl,by kernel_rfl⟩,⟨⟨Tryz.func365,by kernel_rfl,by kernel_rfl⟩,⟨⟨Tryz.func366,by kernel_rfl,by kernel_rfl⟩,⟨⟨Tryz.func367,by kernel_rfl,by kernel_rfl⟩,⟨⟨Tryz.func372,by kernel_rfl,by kernel_rfl⟩,⟨⟨Tryz.func373,by kernel_rfl,by kernel_rfl⟩,⟨⟨Tryz.func374,by kernel_rfl,by kernel_rfl⟩,⟨⟨Tryz.func375,by kernel_rfl,by kernel_rfl⟩,⟨⟨Tryz.func376,by kernel_rfl,by kernel_rfl⟩,⟨⟨Tryz.func377,by kernel_rfl,by kernel_rfl⟩,⟨⟨Tryz.func378,by kernel_rfl,by kernel_rfl⟩,⟨⟨Tryz.func379,by kernel_rfl,by kernel_rfl⟩,⟨⟨Tryz.func380,by kernel_rfl,by kernel_rfl⟩,⟨⟨Tryz.func383,by kernel_rfl,by kernel_rfl⟩,⟨⟨Tryz.func385,by kernel_rfl,by kernel_rfl⟩,trivial⟩⟩⟩⟩⟩⟩⟩⟩⟩⟩⟩⟩⟩⟩⟩⟩⟩⟩⟩⟩⟩⟩⟩⟩⟩⟩⟩⟩⟩⟩⟩⟩⟩⟩⟩⟩⟩⟩⟩⟩⟩⟩⟩⟩⟩⟩⟩⟩⟩⟩⟩⟩⟩⟩⟩⟩⟩⟩⟩⟩⟩⟩⟩⟩⟩⟩⟩⟩⟩⟩⟩⟩⟩⟩⟩⟩⟩⟩⟩⟩⟩⟩⟩⟩⟩⟩⟩⟩⟩⟩⟩⟩⟩⟩⟩⟩⟩⟩⟩⟩⟩⟩⟩⟩⟩⟩⟩⟩⟩⟩⟩⟩⟩⟩⟩⟩⟩⟩⟩⟩⟩⟩⟩⟩⟩⟩⟩⟩⟩⟩⟩⟩⟩⟩⟩⟩⟩⟩⟩⟩⟩⟩⟩⟩⟩⟩⟩⟩⟩)
theorem prg_ok:PrgOk Tryz.prog p where
 ti:=FH (by kernel_rfl)
 depth:=Nat.le_of_ble_eq_true (by kernel_rfl)
 mixed:=by kernel_rfl
 fn:=fun g fn h=>(EN _ (lT EO h)).out
 own:=fun g F h xs out ho=>by
  have hm:=lT DH h
  rcases List.mem_singleton.1 hm with e
  cases e
  exact CN ⟨Tryz.f377,FnOk.out (P:=Tryz.prog) (g:=377) ⟨Tryz.func377,by kernel_rfl,by kernel_rfl⟩⟩ (by kernel_rfl) Tryz.strings_Compare xs out ho
theorem k_ok:KOk p.ti:=B9 (by kernel_rfl)
end Go.Abs.Xz
