/- What the functions of this program answer, part p. -/
import Derived.Test.YtmamlgjbendjhaaGreatXz
import Derived.Test.YtmamlgjbendjhaaGreatW2
import Derived.KernelRfl
import Derived.Test.YtmamlgjbendjhaaGreatXt
set_option linter.unusedVariables false
namespace Go.Abs.Xz
open Go Go.Abs Go.Proofs
set_option maxRecDepth 100000 in
def rts:Nat→Option (List Nat):=fun g=>look? g [(6,[4]),(15,[4]),(18,[38,43,4]),(19,[4]),(21,[3]),(22,[38,49,3]),(23,[4]),(25,[4]),(26,[38,43]),(27,[38,49,3]),(28,[4]),(29,[4]),(30,[4]),(31,[4]),(81,[38]),(82,[4]),(83,[43]),(84,[30]),(85,[38]),(86,[4]),(87,[4]),(88,[3]),(89,[43]),(90,[30]),(91,[4]),(92,[4]),(93,[4]),(94,[38]),(95,[38]),(96,[38,49,3]),(97,[38,4]),(98,[28]),(99,[27]),(100,[4]),(101,[4]),(102,[4]),(103,[30]),(104,[3]),(105,[4]),(106,[4]),(107,[3]),(108,[4]),(109,[4]),(110,[4]),(112,[38,43]),(113,[4]),(114,[38]),(115,[38]),(116,[38,49,3]),(117,[3]),(118,[38]),(119,[27]),(120,[27,4]),(121,[4]),(122,[3]),(123,[4]),(124,[4]),(125,[4]),(126,[174]),(128,[4]),(136,[22]),(137,[22]),(138,[22]),(211,[4]),(218,[38]),(219,[3]),(220,[27]),(221,[33]),(222,[34]),(223,[41]),(224,[27]),(225,[33]),(226,[34]),(227,[4]),(228,[30]),(229,[4]),(230,[4]),(231,[3]),(232,[4]),(233,[4]),(234,[41]),(235,[38,4]),(236,[28]),(237,[34]),(238,[28]),(239,[27,4]),(240,[27]),(241,[27]),(242,[4]),(243,[3]),(244,[4]),(245,[3]),(246,[3]),(247,[43]),(248,[3]),(249,[3]),(250,[4]),(251,[4]),(252,[4]),(253,[4]),(254,[38]),(255,[28]),(256,[3]),(257,[34]),(258,[28]),(259,[27,4]),(260,[27]),(261,[27]),(262,[4]),(263,[4]),(271,[22]),(272,[3]),(297,[38]),(298,[38,27,3]),(306,[38]),(307,[34]),(308,[27]),(309,[33]),(310,[3]),(311,[3]),(312,[4]),(313,[3]),(314,[3]),(315,[3]),(316,[3]),(317,[27]),(318,[27,4]),(319,[161,4]),(320,[161]),(321,[4]),(322,[3]),(323,[43]),(324,[41]),(325,[27]),(326,[27,4]),(327,[161,4]),(328,[3]),(329,[4]),(330,[3]),(331,[22]),(333,[22]),(334,[3]),(344,[27,3]),(345,[33,4]),(348,[38,4]),(349,[27]),(350,[9]),(351,[34]),(352,[161]),(353,[33]),(354,[3]),(355,[3]),(356,[3]),(357,[3]),(358,[3]),(359,[3]),(360,[22]),(364,[27,3]),(365,[27,3]),(366,[27,3]),(367,[27,3]),(372,[34]),(373,[27,4]),(374,[161]),(375,[3]),(376,[3]),(377,[3]),(378,[161,4]),(379,[27,3]),(380,[161,3]),(383,[4]),(385,[24])]
def MT:List Nat:=[]
def N2:List Nat:=[]
def MG:List Nat:=[26,97,112,218,307]
def E1(call:Cl)(n:Nat)(h:Hints):Env:={ ti:=ti,n:=n,call:=call,fresh:=fun g=> !jP g MG,owns:=fun g=>jP g MT,h:=h }
def E2(call:Cl)(n b:Nat)(h:Hints):Env:={ ti:=ti,n:=n,call:=call,fresh:=fun g=> !jP g MG,owns:=fun g=>jP g MT,h:=h,base:=b }
def hOO:Hints:=⟨true,[],[],false,false,[],[],[],[]⟩
def h6:Hints:=⟨true,[],[(13,⟨[3,4,5,6,11],[96,128,160,802,803,804,808,809,810,811,814,818,819],[]⟩)],false,false,[],[],[],[]⟩
def h15:=hOO
def h18:=hOO
def h19:Hints:=⟨true,[],[(16,⟨[2,3,7],[64,96],[]⟩),(11,⟨[2,3,6],[64,96],[]⟩),(6,⟨[2,3,5],[64,96],[]⟩)],false,false,[],[],[],[]⟩
def h21:Hints:=⟨true,[],[(2,⟨[1,2,10,11,12],[],[]⟩)],false,false,[],[],[],[]⟩
def NP:Norm:=⟨[4,7,121],[4001248],[]⟩
def h22_4:Hints:=⟨true,[1000032,1000038],[],false,false,[],[],[],[]⟩
def NQ:Norm:=⟨[3,4,7,109],[3001248],[]⟩
def h22_3:Hints:=⟨true,[1000032,1000038],[],false,false,[],[],[],[]⟩
def NR:Norm:=⟨[3,4,7,76],[2001248],[]⟩
def h22_2:Hints:=⟨true,[1000032,1000038],[],false,false,[],[],[],[]⟩
def NS:Norm:=⟨[4,67],[1001664,1001762,1001763,1001764,1001768,1001769,1001770,1001771,1001774,1001778,1002560],[]⟩
def h22_1:=hOO
def h22:Hints:=⟨true,[],[],false,false,[(67,31250,NS,h22_1),(76,62500,NR,h22_2),(109,93750,NQ,h22_3),(121,125000,NP,h22_4)],[],[],[]⟩
def h23:=hOO
def h25:Hints:=⟨true,[],[(9,⟨[2,3,6],[64,96],[]⟩),(4,⟨[2,3,5],[64,96],[]⟩)],false,false,[],[],[],[]⟩
def h26:Hints:=⟨false,[],[],false,false,[],[],[],[]⟩
def h27:=hOO
def h28:=hOO
def h29:Hints:=⟨true,[],[(2,⟨[1,7,8,9],[],[]⟩)],false,false,[],[],[],[]⟩
def h30:Hints:=⟨true,[],[(10,⟨[1,57,58,59],[32],[]⟩),(4,⟨[1,31,32,33],[32],[]⟩)],false,false,[],[],[],[]⟩
def h31:Hints:=⟨true,[],[(4,⟨[0,1,5],[],[]⟩)],false,false,[],[],[],[]⟩
def h81:=hOO
def h82:=hOO
def h83:=hOO
def h84:=hOO
def h85:=hOO
def h86:Hints:=⟨true,[],[(13,⟨[1,4],[32],[]⟩),(6,⟨[1,3],[32],[]⟩)],false,false,[],[],[],[]⟩
def h87:=hOO
def h88:Hints:=⟨true,[],[(2,⟨[1,2,3,7],[96],[]⟩)],false,false,[],[],[],[]⟩
def h89:=hOO
def h90:=hOO
def h91:=hOO
def h92:Hints:=⟨true,[],[(4,⟨[2,3,5],[64,96],[]⟩)],false,false,[],[],[],[]⟩
def h93:Hints:=⟨true,[],[(4,⟨[0,1,5],[],[]⟩)],false,false,[],[],[],[]⟩
def h94:=hOO
def h95:=hOO
def h97:Hints:=⟨false,[],[],false,false,[],[],[],[]⟩
def h98:=hOO
def h99:=hOO
def h100:=hOO
def h101:Hints:=⟨true,[],[(8,⟨[1,43,44,45],[32],[]⟩),(2,⟨[1,8,9,10],[32],[]⟩)],false,false,[],[],[],[]⟩
def h102:=hOO
def h103:Hints:=⟨true,[],[(5,⟨[1,2,3,4],[32,64,96,60080],[(some 96,0,60080,3)]⟩)],false,false,[],[],[],[]⟩
def h104:=hOO
def h105:Hints:=⟨true,[],[(2,⟨[1,6,7,8],[32],[]⟩)],false,false,[],[],[],[]⟩
def h106:Hints:=⟨true,[],[(2,⟨[0,1,7,8,9],[],[]⟩)],false,false,[],[],[],[]⟩
def h107:Hints:=⟨true,[],[(5,⟨[0,3,4],[],[]⟩)],false,false,[],[],[],[]⟩
def h108:Hints:=⟨true,[],[(5,⟨[0,1,6,9,10,11,15,16,17],[],[]⟩),(2,⟨[0,1,9,10,11],[],[]⟩)],false,false,[],[],[],[]⟩
def h109:Hints:=⟨true,[],[(2,⟨[1,6,7,8],[32],[]⟩)],false,false,[],[],[],[]⟩
def h110:Hints:=⟨true,[],[(2,⟨[1,6,7,8],[32],[]⟩)],false,false,[],[],[],[]⟩
def IJ:Norm:=⟨[2,3,10,19,20,21,59,60],[1000992],[]⟩
def h112_1:Hints:=⟨true,[],[(3,⟨[0,3,4],[64,96],[]⟩)],false,false,[],[],[],[]⟩
def h112:Hints:=⟨false,[],[(9,⟨[2,3,4,5,6,7],[64,96,160,192,453,456,457,458,459,60144,1000992],[(some 192,7,60144,3)]⟩)],false,false,[(10,31250,IJ,h112_1)],[],[],[]⟩
def h113:Hints:=⟨true,[],[(6,⟨[1,3],[32],[]⟩)],false,false,[],[],[],[]⟩
def h114:=hOO
def h115:=hOO
def h116:=hOO
def h117:=hOO
def h118:=hOO
def h119:=hOO
def h120:=hOO
def h121:=hOO
def h122:=hOO
def h123:=hOO
def h124:Hints:=⟨true,[],[(4,⟨[1,13,14,15],[32],[]⟩)],false,false,[],[],[],[]⟩
def h125:Hints:=⟨true,[],[(2,⟨[0,5,6,7],[],[]⟩)],false,false,[],[],[],[]⟩
def h128:=hOO
def h136:Hints:=⟨true,[],[(12,⟨[3,55,56,57],[60192],[(none,3,60192,5)]⟩),(5,⟨[1,3,17,18,19],[32,60080],[(none,3,60080,5)]⟩)],false,false,[],[],[],[]⟩
def h137:Hints:=⟨true,[],[(3,⟨[3,7,8,9],[60048],[(none,3,60048,5)]⟩)],false,false,[],[],[],[]⟩
def h138:Hints:=⟨true,[],[(4,⟨[0,3],[60064],[(none,3,60064,5)]⟩)],false,false,[],[],[],[]⟩
def h211:=hOO
def h218:Hints:=⟨false,[],[],false,false,[],[],[],[]⟩
def h219:=hOO
def h220:=hOO
def h221:Hints:=⟨true,[],[(3,⟨[2,3,12,13,14],[64,96,60048],[(some 96,2,60048,27)]⟩)],false,false,[],[],[],[]⟩
def h222:Hints:=⟨true,[],[(3,⟨[3,7,8,9],[60048],[(none,3,60048,28)]⟩)],false,false,[],[],[],[]⟩
def h223:Hints:=⟨true,[],[(3,⟨[1,3,4],[32,60048],[(none,3,60048,185)]⟩)],false,false,[],[],[],[]⟩
def h224:=hOO
def h225:Hints:=⟨true,[],[(3,⟨[1,2,3,4],[32,64,96,60048],[(some 96,2,60048,27)]⟩)],false,false,[],[],[],[]⟩
def h226:Hints:=⟨true,[],[(3,⟨[0,3,4],[60048],[(none,3,60048,28)]⟩)],false,false,[],[],[],[]⟩
def h227:Hints:=⟨true,[],[(8,⟨[1,5],[32],[]⟩),(2,⟨[1,3],[32],[]⟩)],false,false,[],[],[],[]⟩
def h228:Hints:=⟨true,[],[(5,⟨[1,2,3,4],[32,64,96,60080],[(some 96,0,60080,3)]⟩)],false,false,[],[],[],[]⟩
def h229:Hints:=⟨true,[],[(4,⟨[1,3],[32],[]⟩)],false,false,[],[],[],[]⟩
def h230:Hints:=⟨true,[],[(4,⟨[0,1,5],[],[]⟩)],false,false,[],[],[],[]⟩
def h231:=hOO
def h232:Hints:=⟨true,[],[(9,⟨[0,1,5,6],[],[]⟩),(4,⟨[0,1,5],[],[]⟩)],false,false,[],[],[],[]⟩
def h233:Hints:=⟨true,[],[(10,⟨[1,3,4,5,32,33,34,35,36,39,40,41,42,45,46,47,48,49,50],[32,128],[]⟩),(4,⟨[1,3],[32],[]⟩)],false,false,[],[],[],[]⟩
def h234:Hints:=⟨true,[],[(3,⟨[1,3,4],[32,60048],[(none,3,60048,185)]⟩)],false,false,[],[],[],[]⟩
def h235:Hints:=⟨true,[],[(9,⟨[2,4,6,45,46,47],[64,128,192,392,393,394,398,402,1024,1184,1185,1312],[]⟩)],false,false,[],[],[],[]⟩
def h236:=hOO
def h237:Hints:=⟨true,[],[(5,⟨[1,7,32,33,34],[352],[]⟩)],false,false,[],[],[(11,[0])],[]⟩
def h238:Hints:=⟨true,[],[(6,⟨[2,3,5,6,7],[64,96,60096],[(none,5,60096,3)]⟩)],false,false,[],[],[],[]⟩
def h239:=hOO
def h240:Hints:=⟨true,[],[(3,⟨[2,3,4,5,6],[64,96,128,160,60048,60049],[(some 160,0,60048,163),(some 160,1,60049,165)]⟩)],false,false,[],[],[],[]⟩
def h241:Hints:=⟨true,[],[(11,⟨[1,4,5,35,36,37],[128,160,60080,60176],[(some 160,1,60176,165)]⟩),(5,⟨[1,2,4,5,16,17,18],[64,128,160,60080],[(some 160,0,60080,163)]⟩)],false,false,[],[],[],[]⟩
def h242:=hOO
def h243:Hints:=⟨true,[],[(2,⟨[1,8,9,10],[],[]⟩)],false,false,[],[],[],[]⟩
def h244:Hints:=⟨true,[],[(4,⟨[0,1,12,13],[],[]⟩)],false,false,[],[],[],[]⟩
def h245:=hOO
def h246:Hints:=⟨true,[],[(3,⟨[3,7,8,9],[60048],[(none,3,60048,5)]⟩)],false,false,[],[],[],[]⟩
def h247:=hOO
def h248:=hOO
def h249:=hOO
def h250:=hOO
def h251:=hOO
def h252:Hints:=⟨true,[],[(4,⟨[0,2,7],[],[]⟩)],false,false,[],[],[],[]⟩
def h253:Hints:=⟨true,[],[(2,⟨[0,3],[],[]⟩)],false,false,[],[],[],[]⟩
def h254:Hints:=⟨true,[],[(7,⟨[2,4,5,7],[64,128,160,360,361,362,366,370,704,864,865,992],[]⟩)],false,false,[],[],[],[]⟩
def h255:=hOO
def h256:=hOO
def h257:Hints:=⟨true,[],[(5,⟨[1,2,7,8],[320],[]⟩)],false,false,[],[],[(10,[0])],[]⟩
def h258:Hints:=⟨true,[],[(5,⟨[2,3,5,6],[64,96,60080],[(none,5,60080,3)]⟩)],false,false,[],[],[],[]⟩
def h259:=hOO
def h260:Hints:=⟨true,[],[(3,⟨[2,3,4,5,6],[64,96,128,160,60048,60049],[(some 160,1,60048,165),(some 160,0,60049,163)]⟩)],false,false,[],[],[],[]⟩
def h261:Hints:=⟨true,[],[(8,⟨[1,2,4,5,7],[64,128,160,60048,60128],[(some 160,1,60128,165)]⟩),(3,⟨[1,2,4,5,6],[64,128,160,60048],[(some 160,0,60048,163)]⟩)],false,false,[],[],[],[]⟩
def h262:Hints:=⟨true,[],[(4,⟨[0,1,12,13],[],[]⟩)],false,false,[],[],[],[]⟩
def h263:Hints:=⟨true,[],[(4,⟨[0,1,12,13],[],[]⟩)],false,false,[],[],[],[]⟩
def h271:=hOO
def h272:Hints:=⟨true,[],[(7,⟨[3,7,8,9,17],[],[]⟩),(3,⟨[3,7,8,9],[],[]⟩)],false,false,[],[],[],[]⟩
def h297:Hints:=⟨true,[],[(7,⟨[1,2,3,4],[32,64,96,226,227,228,232,233,234,235,242,60112],[(some 96,14,60112,141)]⟩)],false,false,[],[],[],[]⟩
def h298:=hOO
def h306:Hints:=⟨true,[],[(18,⟨[0,2,3,4,8],[64,128,60080,60081,60082,60083,60084,60085,60086,60087,60088,100000],[]⟩),(5,⟨[0,2,3,4,6,7],[64,128,60080,60081,60082,60083,60084,60085,60086,60087,60088,100000],[(some 128,2,60080,163),(some 128,3,60081,165),(some 128,4,60082,3),(some 128,8,60083,27),(some 128,9,60084,3),(some 128,10,60085,3),(some 128,11,60086,28),(some 128,14,60087,141),(some 128,18,60088,147)]⟩)],false,false,[],[],[],[]⟩
def II:Norm:=⟨[0,5],[1060064],[]⟩
def h307_1:Hints:=⟨true,[],[(4,⟨[0,3,4,5],[100000,1060064],[(none,4,1060064,28)]⟩)],false,false,[],[],[(10,[0]),(21,[0])],[]⟩
def h307:Hints:=⟨false,[],[],false,false,[(5,31250,II,h307_1)],[13],[],[]⟩
def h308:=hOO
def h309:=hOO
def h310:=hOO
def h311:=hOO
def h312:=hOO
def h313:Hints:=⟨true,[],[(2,⟨[1,2,5],[64],[]⟩)],false,false,[],[],[],[]⟩
def h314:=hOO
def h315:Hints:=⟨true,[],[(3,⟨[0,3,4],[60048],[(none,3,60048,5)]⟩)],false,false,[],[],[],[]⟩
def h316:=hOO
def h317:Hints:=⟨true,[],[(5,⟨[1,2,4,5,6],[64,128,160,60080],[(some 160,1,60080,165)]⟩)],false,false,[],[],[],[]⟩
def h318:Hints:=⟨true,[],[(5,⟨[4,6,29,30,31],[128,192,60080,60081],[(some 192,0,60080,163),(some 192,1,60081,165)]⟩)],false,false,[],[],[],[]⟩
def h319:Hints:=⟨true,[],[(2,⟨[1,4,9,10,11],[128],[]⟩)],false,false,[],[],[],[]⟩
def h320:=hOO
def h321:=hOO
def h322:=hOO
def h323:Hints:=⟨true,[],[(12,⟨[0,2,3,5,8],[64,96,160,320,321,60128,60192,60193,100000],[(some 160,8,60192,3),(some 160,5,60193,3)]⟩),(8,⟨[0,2,3,5,6,7],[64,96,160,320,321,60128,60129,100000],[(some 160,7,60128,3),(some 160,5,60129,3)]⟩)],false,false,[],[],[],[]⟩
def h324:=hOO
def h325:Hints:=⟨true,[],[(5,⟨[1,2,4,5,6],[64,128,160,60080],[(some 160,1,60080,165)]⟩)],false,false,[],[],[],[]⟩
def h326:Hints:=⟨true,[],[(5,⟨[2,4,6,7],[64,128,192,60080,60081],[(some 192,0,60080,163),(some 192,1,60081,165)]⟩)],false,false,[],[],[],[]⟩
def h327:Hints:=⟨true,[],[(2,⟨[1,2,4,6],[64,128],[]⟩)],false,false,[],[],[],[]⟩
def h328:Hints:=⟨true,[],[(3,⟨[2,3,5,6],[64,96,864],[]⟩)],false,false,[],[],[],[]⟩
def h329:Hints:=⟨true,[],[(2,⟨[0,1,5],[],[]⟩)],false,false,[],[],[],[]⟩
def h330:=hOO
def h331:Hints:=⟨true,[],[(4,⟨[0,3],[60064],[(none,3,60064,5)]⟩)],false,false,[],[],[],[]⟩
def h333:Hints:=⟨true,[],[(8,⟨[1,3,4,5,6,7],[32,160,1280,60128],[(none,3,60128,5)]⟩),(14,⟨[1,3,8],[32,60224],[(none,3,60224,5)]⟩),(3,⟨[1,3,4],[32,60048],[(none,3,60048,5)]⟩)],false,false,[],[],[],[]⟩
def h334:Hints:=⟨true,[],[(7,⟨[0,3,4,5],[],[]⟩),(3,⟨[0,3,4],[],[]⟩)],false,false,[],[],[],[]⟩
def h344:=hOO
def h345:Hints:=⟨true,[43],[],false,false,[],[],[],[]⟩
def h348:=hOO
def h349:Hints:=⟨true,[],[(10,⟨[0,2,3,8,9],[64,96,60160,60161,100000],[(some 96,0,60160,163),(some 96,1,60161,165)]⟩),(4,⟨[0,2,3,4,5],[64,96,60064,60065,100000],[(some 96,0,60064,163),(some 96,1,60065,165)]⟩)],false,false,[],[],[],[]⟩
def h350:=hOO
def h351:Hints:=⟨true,[],[(4,⟨[0,3,4,5],[60064,100000],[(none,4,60064,28)]⟩)],false,false,[],[],[(10,[0]),(21,[0])],[]⟩
def h352:=hOO
def h353:Hints:=⟨true,[],[(4,⟨[0,2,3,4,5],[64,96,60064,100000],[(some 96,2,60064,27)]⟩)],false,false,[],[],[],[]⟩
def h354:Hints:=⟨true,[],[(3,⟨[1,5,8,9,10],[],[]⟩)],false,false,[],[],[],[]⟩
def h355:=hOO
def h356:Hints:=⟨true,[],[(2,⟨[0,1,7,8],[],[]⟩)],false,false,[],[],[],[]⟩
def h357:Hints:=⟨true,[],[(5,⟨[0,1,5,6],[],[]⟩)],false,false,[],[],[],[]⟩
def h358:=hOO
def h359:=hOO
def h360:=hOO
def h364:=hOO
def h365:=hOO
def h366:=hOO
def h367:=hOO
def h372:Hints:=⟨true,[],[(5,⟨[0,3,4],[60080],[(none,3,60080,28)]⟩)],false,false,[],[],[],[]⟩
def h373:=hOO
def h374:=hOO
def h375:Hints:=⟨true,[],[(3,⟨[3,6,7,8],[],[]⟩)],false,false,[],[],[],[]⟩
def h376:=hOO
def h377:=hOO
def h378:=hOO
def h379:=hOO
def h380:=hOO
def h383:=hOO
def h385:Hints:=⟨true,[],[(5,⟨[1,3,4],[32,60080],[(none,3,60080,163)]⟩)],false,false,[],[],[],[]⟩
set_option maxRecDepth 100000 in
noncomputable def JK:List (Nat×Func):=[(6,Tryz.f6),(15,Tryz.f15),(18,Tryz.f18),(19,Tryz.f19),(21,Tryz.f21),(22,Tryz.f22),(23,Tryz.f23),(25,Tryz.f25),(26,Tryz.f26),(27,Tryz.f27),(28,Tryz.f28),(29,Tryz.f29),(30,Tryz.f30),(31,Tryz.f31),(81,Tryz.f81),(82,Tryz.f82),(83,Tryz.f83),(84,Tryz.f84),(85,Tryz.f85),(86,Tryz.f86),(87,Tryz.f87),(88,Tryz.f88),(89,Tryz.f89),(90,Tryz.f90),(91,Tryz.f91),(92,Tryz.f92),(93,Tryz.f93),(94,Tryz.f94),(95,Tryz.f95),(96,Tryz.f96),(97,Tryz.f97),(98,Tryz.f98),(99,Tryz.f99),(100,Tryz.f100),(101,Tryz.f101),(102,Tryz.f102),(103,Tryz.f103),(104,Tryz.f104),(105,Tryz.f105),(106,Tryz.f106),(107,Tryz.f107),(108,Tryz.f108),(109,Tryz.f109),(110,Tryz.f110),(112,Tryz.f112),(113,Tryz.f113),(114,Tryz.f114),(115,Tryz.f115),(116,Tryz.f116),(117,Tryz.f117),(118,Tryz.f118),(119,Tryz.f119),(120,Tryz.f120),(121,Tryz.f121),(122,Tryz.f122),(123,Tryz.f123),(124,Tryz.f124),(125,Tryz.f125),(126,Tryz.f126),(128,Tryz.f128),(136,Tryz.f136),(137,Tryz.f137),(138,Tryz.f138),(211,Tryz.f211),(218,Tryz.f218),(219,Tryz.f219),(220,Tryz.f220),(221,Tryz.f221),(222,Tryz.f222),(223,Tryz.f223),(224,Tryz.f224),(225,Tryz.f225),(226,Tryz.f226),(227,Tryz.f227),(228,Tryz.f228),(229,Tryz.f229),(230,Tryz.f230),(231,Tryz.f231),(232,Tryz.f232),(233,Tryz.f233),(234,Tryz.f234),(235,Tryz.f235),(236,Tryz.f236),(237,Tryz.f237),(238,Tryz.f238),(239,Tryz.f239),(240,Tryz.f240),(241,Tryz.f241),(242,Tryz.f242),(243,Tryz.f243),(244,Tryz.f244),(245,Tryz.f245),(246,Tryz.f246),(247,Tryz.f247),(248,Tryz.f248),(249,Tryz.f249),(250,Tryz.f250),(251,Tryz.f251),(252,Tryz.f252),(253,Tryz.f253),(254,Tryz.f254),(255,Tryz.f255),(256,Tryz.f256),(257,Tryz.f257),(258,Tryz.f258),(259,Tryz.f259),(260,Tryz.f260),(261,Tryz.f261),(262,Tryz.f262),(263,Tryz.f263),(271,Tryz.f271),(272,Tryz.f272),(297,Tryz.f297),(298,Tryz.f298),(306,Tryz.f306),(307,Tryz.f307),(308,Tryz.f308),(309,Tryz.f309),(310,Tryz.f310),(311,Tryz.f311),(312,Tryz.f312),(313,Tryz.f313),(314,Tryz.f314),(315,Tryz.f315),(316,Tryz.f316),(317,Tryz.f317),(318,Tryz.f318),(319,Tryz.f319),(320,Tryz.f320),(321,Tryz.f321),(322,Tryz.f322),(323,Tryz.f323),(324,Tryz.f324),(325,Tryz.f325),(326,Tryz.f326),(327,Tryz.f327),(328,Tryz.f328),(329,Tryz.f329),(330,Tryz.f330),(331,Tryz.f331),(333,Tryz.f333),(334,Tryz.f334),(344,Tryz.f344),(345,Tryz.f345),(348,Tryz.f348),(349,Tryz.f349),(350,Tryz.f350),(351,Tryz.f351),(352,Tryz.f352),(353,Tryz.f353),(354,Tryz.f354),(355,Tryz.f355),(356,Tryz.f356),(357,Tryz.f357),(358,Tryz.f358),(359,Tryz.f359),(360,Tryz.f360),(364,Tryz.f364),(365,Tryz.f365),(366,Tryz.f366),(367,Tryz.f367),(372,Tryz.f372),(373,Tryz.f373),(374,Tryz.f374),(375,Tryz.f375),(376,Tryz.f376),(377,Tryz.f377),(378,Tryz.f378),(379,Tryz.f379),(380,Tryz.f380),(383,Tryz.f383),(385,Tryz.f385)]
set_option maxRecDepth 100000 in
noncomputable def GO:List (Nat×Hints):=[(6,h6),(15,h15),(18,h18),(19,h19),(21,h21),(22,h22),(23,h23),(25,h25),(26,h26),(27,h27),(28,h28),(29,h29),(30,h30),(31,h31),(81,h81),(82,h82),(83,h83),(84,h84),(85,h85),(86,h86),(87,h87),(88,h88),(89,h89),(90,h90),(91,h91),(92,h92),(93,h93),(94,h94),(95,h95),(97,h97),(98,h98),(99,h99),(100,h100),(101,h101),(102,h102),(103,h103),(104,h104),(105,h105),(106,h106),(107,h107),(108,h108),(109,h109),(110,h110),(112,h112),(113,h113),(114,h114),(115,h115),(116,h116),(117,h117),(118,h118),(119,h119),(120,h120),(121,h121),(122,h122),(123,h123),(124,h124),(125,h125),(128,h128),(136,h136),(137,h137),(138,h138),(211,h211),(218,h218),(219,h219),(220,h220),(221,h221),(222,h222),(223,h223),(224,h224),(225,h225),(226,h226),(227,h227),(228,h228),(229,h229),(230,h230),(231,h231),(232,h232),(233,h233),(234,h234),(235,h235),(236,h236),(237,h237),(238,h238),(239,h239),(240,h240),(241,h241),(242,h242),(243,h243),(244,h244),(245,h245),(246,h246),(247,h247),(248,h248),(249,h249),(250,h250),(251,h251),(252,h252),(253,h253),(254,h254),(255,h255),(256,h256),(257,h257),(258,h258),(259,h259),(260,h260),(261,h261),(262,h262),(263,h263),(271,h271),(272,h272),(297,h297),(298,h298),(306,h306),(307,h307),(308,h308),(309,h309),(310,h310),(311,h311),(312,h312),(313,h313),(314,h314),(315,h315),(316,h316),(317,h317),(318,h318),(319,h319),(320,h320),(321,h321),(322,h322),(323,h323),(324,h324),(325,h325),(326,h326),(327,h327),(328,h328),(329,h329),(330,h330),(331,h331),(333,h333),(334,h334),(344,h344),(345,h345),(348,h348),(349,h349),(350,h350),(351,h351),(352,h352),(353,h353),(354,h354),(355,h355),(356,h356),(357,h357),(358,h358),(359,h359),(360,h360),(364,h364),(365,h365),(366,h366),(367,h367),(372,h372),(373,h373),(374,h374),(375,h375),(376,h376),(377,h377),(378,h378),(379,h379),(380,h380),(383,h383),(385,h385)]
def hd0:=hOO
def H4:List (Nat×(List Abs.Arg→Option Out)):=[(377,M8)]
noncomputable def p:Prg:={ ti:=ti,fn:=fun g=>look? g JK,hint:=fun g=>⟨!jP g MG,((look? g GO).getD hd0).cut,((look? g GO).getD hd0).loops,jP g N2,jP g MT,((look? g GO).getD hd0).inl,((look? g GO).getD hd0).unp,((look? g GO).getD hd0).adp,((look? g GO).getD hd0).reg⟩,own:=fun g=>look? g H4 }
set_option maxRecDepth 100000 in
theorem HT:p.rts=rts:=by
 funext g
 unfold Prg.rts rts p
 rw[BI];rfl
abbrev Go(lvl g:Nat)(xs:List Abs.Arg)(out:Out)(T:Cl→Nat→Option Out):Prop:=(∀ n,lvl≤n→Ev (fun aA=>T (aK p n) aA) out)→Ran p (lvl+1) g xs out
theorem gO {g lvl:Nat} {xs:List Abs.Arg} {out:Out} {T:Cl→Nat→Option Out} (fn:Func) (nt:Nat) (h:Hints) (ho:(p.own g,p.fn g,fn.ntmps,p.hint g)=(none,some fn,nt,h))
  (e:∀ (c:Cl) (J:lA) (f:Nat),wD (E1 c nt h) rts J f fn xs=T c f):Go lvl g xs out T:=fun H=>by
 simp only[Prod.mk.injEq] at ho
 obtain⟨h1,h2,h3,h4⟩:=ho
 subst h3;subst h4
 refine Ran.of h1 h2 fun n hl=>?_
 rw[HT]
 exact(Ev.eq (fun aA=>e (aK p n) (iJ p.fn (wN p (aK p n) fn.ntmps (p.hint g)) rts aA 3) aA) (H n hl)).get
theorem gOI {g lvl:Nat} {xs:List Abs.Arg} {out:Out} {T:Cl→Nat→Option Out} (fn:Func) (nt:Nat) (h:Hints) (ho:(p.own g,p.fn g,fn.ntmps,p.hint g)=(none,some fn,nt,h))
  (e:∀ (c:Cl) (f:Nat),wD (E1 c nt h) rts (iJ p.fn (E1 c nt h) rts f 3) f fn xs=T c f):Go lvl g xs out T:=fun H=>by
 simp only[Prod.mk.injEq] at ho
 obtain⟨h1,h2,h3,h4⟩:=ho
 subst h3;subst h4
 refine Ran.of h1 h2 fun n hl=>?_
 rw[HT]
 exact(Ev.eq (fun aA=>e (aK p n) aA) (H n hl)).get
abbrev qq{β:Type}(o:Option Out)(A B:List (List Kd))(f:Rows A×Rows B→Option β):Option β:=(o.bind (eR A B)).bind f
abbrev va(K:List Kd)(r:Row K):Abs.Arg:= .val true ⟨K,r⟩
abbrev rB(b:Bool):Option Out:=some ⟨[⟨K4,(b,())⟩],[]⟩
abbrev vi(x:Int):Abs.Arg:= .val false ⟨K3,(x,())⟩

noncomputable def sT(E:Env)(xs:List Abs.Arg)(J:lA)(aA:Nat)(path:List Nat)(fn:Func):St→(St→Option Out)→Option Out:=iB E rts J aA path (dN fn) (xG E fn xs)
open Tryz in
set_option maxRecDepth 100000 in
theorem JJ:∀ q∈JK,FnOk Tryz.prog q.1 q.2:=J5 (by refine ⟨⟨func6,?_,?_⟩,⟨func15,?_,?_⟩,⟨func18,?_,?_⟩,⟨func19,?_,?_⟩,⟨func21,?_,?_⟩,⟨func22,?_,?_⟩,⟨func23,?_,?_⟩,⟨func25,?_,?_⟩,⟨func26,?_,?_⟩,⟨func27,?_,?_⟩,⟨func28,?_,?_⟩,⟨func29,?_,?_⟩,⟨func30,?_,?_⟩,⟨func31,?_,?_⟩,⟨func81,?_,?_⟩,⟨func82,?_,?_⟩,⟨func83,?_,?_⟩,⟨func84,?_,?_⟩,⟨func85,?_,?_⟩,⟨func86,?_,?_⟩,⟨func87,?_,?_⟩,⟨func88,?_,?_⟩,⟨func89,?_,?_⟩,⟨func90,?_,?_⟩,⟨func91,?_,?_⟩,⟨func92,?_,?_⟩,⟨func93,?_,?_⟩,⟨func94,?_,?_⟩,⟨func95,?_,?_⟩,⟨func96,?_,?_⟩,⟨func97,?_,?_⟩,⟨func98,?_,?_⟩,⟨func99,?_,?_⟩,⟨func100,?_,?_⟩,⟨func101,?_,?_⟩,⟨func102,?_,?_⟩,⟨func103,?_,?_⟩,⟨func104,?_,?_⟩,⟨func105,?_,?_⟩,⟨func106,?_,?_⟩,⟨func107,?_,?_⟩,⟨func108,?_,?_⟩,⟨func109,?_,?_⟩,⟨func110,?_,?_⟩,⟨func112,?_,?_⟩,⟨func113,?_,?_⟩,⟨func114,?_,?_⟩,⟨func115,?_,?_⟩,⟨func116,?_,?_⟩,⟨func117,?_,?_⟩,⟨func118,?_,?_⟩,⟨func119,?_,?_⟩,⟨func120,?_,?_⟩,⟨func121,?_,?_⟩,⟨func122,?_,?_⟩,⟨func123,?_,?_⟩,⟨func124,?_,?_⟩,⟨func125,?_,?_⟩,⟨func126,?_,?_⟩,⟨func128,?_,?_⟩,⟨func136,?_,?_⟩,⟨func137,?_,?_⟩,⟨func138,?_,?_⟩,⟨func211,?_,?_⟩,⟨func218,?_,?_⟩,⟨func219,?_,?_⟩,⟨func220,?_,?_⟩,⟨func221,?_,?_⟩,⟨func222,?_,?_⟩,⟨func223,?_,?_⟩,⟨func224,?_,?_⟩,⟨func225,?_,?_⟩,⟨func226,?_,?_⟩,⟨func227,?_,?_⟩,⟨func228,?_,?_⟩,⟨func229,?_,?_⟩,⟨func230,?_,?_⟩,⟨func231,?_,?_⟩,⟨func232,?_,?_⟩,⟨func233,?_,?_⟩,⟨func234,?_,?_⟩,⟨func235,?_,?_⟩,⟨func236,?_,?_⟩,⟨func237,?_,?_⟩,⟨func238,?_,?_⟩,⟨func239,?_,?_⟩,⟨func240,?_,?_⟩,⟨func241,?_,?_⟩,⟨func242,?_,?_⟩,⟨func243,?_,?_⟩,⟨func244,?_,?_⟩,⟨func245,?_,?_⟩,⟨func246,?_,?_⟩,⟨func247,?_,?_⟩,⟨func248,?_,?_⟩,⟨func249,?_,?_⟩,⟨func250,?_,?_⟩,⟨func251,?_,?_⟩,⟨func252,?_,?_⟩,⟨func253,?_,?_⟩,⟨func254,?_,?_⟩,⟨func255,?_,?_⟩,⟨func256,?_,?_⟩,⟨func257,?_,?_⟩,⟨func258,?_,?_⟩,⟨func259,?_,?_⟩,⟨func260,?_,?_⟩,⟨func261,?_,?_⟩,⟨func262,?_,?_⟩,⟨func263,?_,?_⟩,⟨func271,?_,?_⟩,⟨func272,?_,?_⟩,⟨func297,?_,?_⟩,⟨func298,?_,?_⟩,⟨func306,?_,?_⟩,⟨func307,?_,?_⟩,⟨func308,?_,?_⟩,⟨func309,?_,?_⟩,⟨func310,?_,?_⟩,⟨func311,?_,?_⟩,⟨func312,?_,?_⟩,⟨func313,?_,?_⟩,⟨func314,?_,?_⟩,⟨func315,?_,?_⟩,⟨func316,?_,?_⟩,⟨func317,?_,?_⟩,⟨func318,?_,?_⟩,⟨func319,?_,?_⟩,⟨func320,?_,?_⟩,⟨func321,?_,?_⟩,⟨func322,?_,?_⟩,⟨func323,?_,?_⟩,⟨func324,?_,?_⟩,⟨func325,?_,?_⟩,⟨func326,?_,?_⟩,⟨func327,?_,?_⟩,⟨func328,?_,?_⟩,⟨func329,?_,?_⟩,⟨func330,?_,?_⟩,⟨func331,?_,?_⟩,⟨func333,?_,?_⟩,⟨func334,?_,?_⟩,⟨func344,?_,?_⟩,⟨func345,?_,?_⟩,⟨func348,?_,?_⟩,⟨func349,?_,?_⟩,⟨func350,?_,?_⟩,⟨func351,?_,?_⟩,⟨func352,?_,?_⟩,⟨func353,?_,?_⟩,⟨func354,?_,?_⟩,⟨func355,?_,?_⟩,⟨func356,?_,?_⟩,⟨func357,?_,?_⟩,⟨func358,?_,?_⟩,⟨func359,?_,?_⟩,⟨func360,?_,?_⟩,⟨func364,?_,?_⟩,⟨func365,?_,?_⟩,⟨func366,?_,?_⟩,⟨func367,?_,?_⟩,⟨func372,?_,?_⟩,⟨func373,?_,?_⟩,⟨func374,?_,?_⟩,⟨func375,?_,?_⟩,⟨func376,?_,?_⟩,⟨func377,?_,?_⟩,⟨func378,?_,?_⟩,⟨func379,?_,?_⟩,⟨func380,?_,?_⟩,⟨func383,?_,?_⟩,⟨func385,?_,?_⟩,trivial⟩<;>kernel_rfl)
theorem prg_ok:PrgOk Tryz.prog p where
 ti:=KJ (by kernel_rfl)
 depth:=Nat.le_of_ble_eq_true (by kernel_rfl)
 mixed:=by kernel_rfl
 fn:=fun g fn h=>(JJ _ (nO JK h)).out
 own:=fun g F h xs out ho=>by
  have hm:=nO H4 h
  rcases List.mem_singleton.1 hm with e
  cases e
  exact G0 ⟨Tryz.f377,FnOk.out (P:=Tryz.prog) (g:=377) ⟨Tryz.func377,by kernel_rfl,by kernel_rfl⟩⟩ (by kernel_rfl) Tryz.strings_Compare xs out ho
theorem k_ok:KOk p.ti:=GF (by kernel_rfl)
end Go.Abs.Xz
