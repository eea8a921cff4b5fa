/- What the functions of this program answer, part p. -/
import Derived.Test.YtohahjehdododaaGreatXz
import Derived.Test.YtohahjehdododaaGreatW2
import Derived.KernelRfl
import Derived.Test.YtohahjehdododaaGreatXt
set_option linter.unusedVariables false
namespace Go.Abs.Wz
open Go Go.Abs Go.Proofs
set_option maxRecDepth 100000 in
def rts:Nat->Option (List Nat):=λg=>look? g [(5,[4]),(6,[4]),(9,[4]),(11,[4]),(12,[34,4]),(13,[4]),(14,[4]),(15,[34]),(20,[4]),(21,[28,34]),(22,[4]),(23,[4]),(24,[34]),(25,[4]),(26,[44]),(27,[34]),(28,[63]),(29,[28]),(30,[3]),(31,[34]),(32,[34]),(33,[4]),(34,[4]),(35,[4]),(36,[4]),(37,[4]),(41,[28]),(42,[54]),(43,[4]),(44,[4]),(45,[4]),(46,[28,34]),(47,[4]),(48,[4]),(49,[31]),(50,[34]),(51,[44]),(52,[4]),(53,[4]),(54,[3]),(55,[28]),(56,[54]),(57,[3]),(58,[69,4]),(59,[69]),(60,[3]),(61,[3]),(62,[69,4]),(63,[3]),(64,[4]),(65,[46]),(66,[4]),(67,[4]),(68,[3]),(69,[4]),(70,[4]),(71,[4]),(72,[4]),(77,[4]),(78,[54]),(79,[77]),(80,[34]),(81,[4]),(82,[46]),(83,[3]),(84,[4]),(85,[4]),(86,[3]),(87,[4]),(88,[4]),(89,[4]),(90,[4]),(91,[34]),(92,[31]),(93,[4]),(94,[28,113,28]),(95,[54]),(96,[3]),(97,[50]),(98,[49]),(99,[3]),(100,[3]),(101,[3]),(102,[3]),(103,[3]),(108,[22]),(109,[46]),(110,[49]),(111,[50]),(112,[4]),(113,[3]),(114,[3]),(115,[4]),(116,[3]),(117,[34]),(118,[69]),(119,[28,4]),(120,[132]),(121,[28,3]),(122,[54,4]),(123,[54]),(124,[50]),(125,[140]),(126,[54,143,4]),(127,[54,34,3]),(128,[9]),(129,[50]),(130,[49]),(131,[3]),(132,[3]),(133,[3]),(134,[3]),(135,[22]),(136,[34]),(137,[22]),(138,[3]),(139,[22]),(140,[34]),(141,[22]),(142,[34,4]),(143,[69]),(144,[28,3]),(145,[28,3]),(146,[50]),(147,[34]),(148,[4]),(149,[3]),(150,[4]),(151,[3]),(152,[143]),(153,[34,3]),(154,[49,4]),(155,[4]),(157,[22]),(158,[4]),(159,[3]),(160,[22]),(161,[4]),(162,[3]),(163,[143,4]),(164,[22]),(165,[28]),(166,[25]),(167,[3]),(168,[3]),(169,[34,3]),(170,[34,3]),(171,[34,3]),(172,[34,3]),(174,[3]),(175,[34,4]),(176,[4]),(177,[22]),(178,[22]),(179,[54,156,3]),(180,[143,4]),(181,[69,4]),(182,[34,3]),(183,[69,3]),(184,[34,4]),(185,[4]),(186,[4]),(187,[22]),(188,[54,191,3]),(189,[3]),(190,[44]),(191,[34,4]),(192,[54]),(193,[54]),(194,[54,191,3]),(195,[3]),(196,[54]),(197,[34]),(198,[3,3,4]),(199,[9,3,4]),(200,[44]),(201,[44])]
def TB:List Nat:=[]
def U2:List Nat:=[]
def unfL:List Nat:=[21,29,46,55,56,97,121,145,165,166,1000121,1000145,1000165,1000166]
def E1(call:Cl)(n:Nat)(h:Hints):Env:={ ti:=ti,n:=n,call:=call,fresh:=λg=> !gU g unfL,owns:=λg=>gU g TB,h:=h }
def E2(call:Cl)(n b:Nat)(h:Hints):Env:={ ti:=ti,n:=n,call:=call,fresh:=λg=> !gU g unfL,owns:=λg=>gU g TB,h:=h,base:=b }
def hOO:Hints:=⟨true,[],[],false,false,[],[],[],[]⟩
def h5:Hints:=⟨true,[],[(15,⟨[3,4,6,7,8,9],[96,128,192,256,832,833,1632,1728,1729],[]⟩)],false,false,[],[],[],[]⟩
def h6:=hOO
def h9:Hints:=⟨true,[],[(9,⟨[2,3,6],[64,96],[]⟩),(4,⟨[2,3,5],[64,96],[]⟩)],false,false,[],[],[],[]⟩
def h11:Hints:=⟨true,[],[(15,⟨[1,3,6],[32],[]⟩),(10,⟨[1,3,5],[32],[]⟩),(5,⟨[1,3,4],[32],[]⟩)],false,false,[],[],[],[]⟩
def h12:=hOO
def h13:=hOO
def h14:=hOO
def h15:Hints:=⟨true,[],[(5,⟨[2,3,12,13,14],[64,96,60080,60081],[(some 96,0,60080,71),(some 96,1,60081,73)]⟩)],false,false,[],[],[],[]⟩
def h20:Hints:=⟨true,[],[(16,⟨[1,66,67,68],[32],[]⟩),(10,⟨[1,53,54,55],[32],[]⟩),(4,⟨[1,27,28,29],[32],[]⟩)],false,false,[],[],[],[]⟩
def h21:Hints:=⟨false,[],[],false,false,[],[],[],[]⟩
def h22:=hOO
def h23:=hOO
def h24:Hints:=⟨true,[],[(5,⟨[1,2,3,4],[32,64,96,60080,60081],[(some 96,0,60080,71),(some 96,1,60081,73)]⟩)],false,false,[],[],[],[]⟩
def h25:Hints:=⟨true,[],[(8,⟨[1,5],[32],[]⟩),(2,⟨[1,3],[32],[]⟩)],false,false,[],[],[],[]⟩
def h26:Hints:=⟨true,[],[(5,⟨[3,5,19,20,21],[96,60080],[(none,5,60080,3)]⟩)],false,false,[],[],[],[]⟩
def h27:Hints:=⟨true,[],[(5,⟨[2,4,5,13,14,15],[64,128,160,60080,60081],[(some 160,0,60080,71),(some 160,1,60081,73)]⟩)],false,false,[],[],[],[]⟩
def SN:Norm:=⟨[2,10],[2060083,2060084,2060085,2060086],[]⟩
def h29_2:Hints:=⟨true,[],[(5,⟨[0,1,4,6,7,9,10,11],[64,100000,1000064,2000128,2000192,2000224,2000320,2060083,2060084,2060085,2060086],[(some 2000224,0,2,54),(some 2000224,1,2,77),(some 2000224,2,2,62),(none,9,2060083,132),(some 2000320,0,2060084,54),(some 2000320,1,2060085,77),(some 2000320,2,2060086,62),(some 2000320,0,1,54),(some 2000320,1,1,77),(some 2000320,2,1,62)]⟩)],false,false,[],[],[],[]⟩
def SO:Norm:=⟨[0,2,5],[],[]⟩
def h29_1:Hints:=⟨true,[],[],false,false,[(10,62500,SN,h29_2)],[],[],[]⟩
def h29:Hints:=⟨false,[],[],false,false,[(5,31250,SO,h29_1)],[],[],[]⟩
def h30:=hOO
def h31:Hints:=⟨true,[],[(3,⟨[2,3,4,5,6],[64,96,128,160,60048,60049],[(some 160,0,60048,71),(some 160,1,60049,73)]⟩)],false,false,[],[],[],[]⟩
def h32:Hints:=⟨true,[],[(3,⟨[2,3,4,5,6],[64,96,128,160,60048,60049],[(some 160,1,60048,73),(some 160,0,60049,71)]⟩)],false,false,[],[],[],[]⟩
def h33:=hOO
def h34:Hints:=⟨true,[],[(13,⟨[1,4],[32],[]⟩),(6,⟨[1,3],[32],[]⟩)],false,false,[],[],[],[]⟩
def h35:Hints:=⟨true,[],[(8,⟨[1,43,44,45],[32],[]⟩),(2,⟨[1,8,9,10],[32],[]⟩)],false,false,[],[],[],[]⟩
def h36:Hints:=⟨true,[],[(4,⟨[0,1,12,13],[],[]⟩)],false,false,[],[],[],[]⟩
def h37:Hints:=⟨true,[],[(4,⟨[0,1,12,13],[],[]⟩)],false,false,[],[],[],[]⟩
def h41:Hints:=⟨true,[],[(11,⟨[1,2,3,6],[32,64,96,60048,60112,60176],[(some 96,2,60176,62)]⟩),(7,⟨[1,2,3,5],[32,64,96,60048,60112],[(some 96,1,60112,77)]⟩),(3,⟨[1,2,3,4],[32,64,96,60048],[(some 96,0,60048,54)]⟩)],false,false,[],[],[],[]⟩
def h42:Hints:=⟨true,[],[(7,⟨[1,2,3,4],[32,64,96,226,227,228,232,233,234,235,242,60112],[(some 96,14,60112,107)]⟩)],false,false,[],[],[],[]⟩
def h43:=hOO
def h44:=hOO
def h45:=hOO
def SM:Norm:=⟨[2,3,7,15,16,17],[1000992],[]⟩
def h46_1:Hints:=⟨true,[],[(3,⟨[0,3,4],[64,96],[]⟩)],false,false,[],[],[],[]⟩
def h46:Hints:=⟨false,[],[],false,false,[(7,31250,SM,h46_1)],[],[],[]⟩
def h47:=hOO
def h48:=hOO
def h49:Hints:=⟨true,[],[(5,⟨[1,3,4],[32,60080],[(none,3,60080,71)]⟩)],false,false,[],[],[],[]⟩
def h50:Hints:=⟨true,[],[(5,⟨[1,2,4,5,6],[64,128,160,60080,60081],[(some 160,0,60080,71),(some 160,1,60081,73)]⟩)],false,false,[],[],[],[]⟩
def h51:Hints:=⟨true,[],[(5,⟨[2,3,5,6],[64,96,60080],[(none,5,60080,3)]⟩)],false,false,[],[],[],[]⟩
def h52:=hOO
def h53:=hOO
def h54:Hints:=⟨true,[],[(2,⟨[1,2,5],[64],[]⟩)],false,false,[],[],[],[]⟩
def UL:Norm:=⟨[2,10],[1060083,1060084,1060085,1060086],[]⟩
def h55_1:Hints:=⟨true,[],[(5,⟨[0,1,4,6,7,9,10,11],[64,100000,1000128,1000192,1000224,1000320,1060083,1060084,1060085,1060086],[(some 1000224,0,2,54),(some 1000224,1,2,77),(some 1000224,2,2,62),(none,9,1060083,132),(some 1000320,0,1060084,54),(some 1000320,1,1060085,77),(some 1000320,2,1060086,62),(some 1000320,0,1,54),(some 1000320,1,1,77),(some 1000320,2,1,62)]⟩)],false,false,[],[],[],[]⟩
def h55:Hints:=⟨false,[],[],false,false,[(10,31250,UL,h55_1)],[],[],[]⟩
def h56:Hints:=⟨false,[],[],false,false,[],[],[],[]⟩
def h57:=hOO
def h58:Hints:=⟨true,[],[(2,⟨[1,4,9,10,11],[128],[]⟩)],false,false,[],[],[],[]⟩
def h59:=hOO
def h60:Hints:=⟨true,[],[(2,⟨[1,8,9,10],[],[]⟩)],false,false,[],[],[],[]⟩
def h61:=hOO
def h62:Hints:=⟨true,[],[(2,⟨[1,2,4,6],[64,128],[]⟩)],false,false,[],[],[],[]⟩
def h63:Hints:=⟨true,[],[(3,⟨[2,3,5,6],[64,96,864],[]⟩)],false,false,[],[],[],[]⟩
def h64:=hOO
def h65:Hints:=⟨true,[],[(5,⟨[1,2,3,4],[32,64,96,60080],[(some 96,0,60080,3)]⟩)],false,false,[],[],[],[]⟩
def h66:Hints:=⟨true,[],[(4,⟨[1,3],[32],[]⟩)],false,false,[],[],[],[]⟩
def h67:Hints:=⟨true,[],[(4,⟨[0,1,5],[],[]⟩)],false,false,[],[],[],[]⟩
def h68:=hOO
def h69:Hints:=⟨true,[],[(9,⟨[0,1,5,6],[],[]⟩),(4,⟨[0,1,5],[],[]⟩)],false,false,[],[],[],[]⟩
def h70:Hints:=⟨true,[],[(10,⟨[1,3,4,5,32,33,34,35,36,39,40,41,42,45,46,47,48,49,50],[32,128],[]⟩),(4,⟨[1,3],[32],[]⟩)],false,false,[],[],[],[]⟩
def h71:=hOO
def h72:=hOO
def h77:Hints:=⟨true,[],[(4,⟨[0,1,5],[],[]⟩)],false,false,[],[],[],[]⟩
def h78:=hOO
def h79:=hOO
def h80:=hOO
def h81:=hOO
def h82:Hints:=⟨true,[],[(5,⟨[1,2,3,4],[32,64,96,60080],[(some 96,0,60080,3)]⟩)],false,false,[],[],[],[]⟩
def h83:=hOO
def h84:Hints:=⟨true,[],[(2,⟨[1,6,7,8],[32],[]⟩)],false,false,[],[],[],[]⟩
def h85:Hints:=⟨true,[],[(2,⟨[0,1,7,8,9],[],[]⟩)],false,false,[],[],[],[]⟩
def h86:Hints:=⟨true,[],[(5,⟨[0,3,4],[],[]⟩)],false,false,[],[],[],[]⟩
def h87:Hints:=⟨true,[],[(5,⟨[0,1,6,9,10,11,15,16,17],[],[]⟩),(2,⟨[0,1,9,10,11],[],[]⟩)],false,false,[],[],[],[]⟩
def h88:Hints:=⟨true,[],[(2,⟨[1,6,7,8],[32],[]⟩)],false,false,[],[],[],[]⟩
def h89:Hints:=⟨true,[],[(2,⟨[1,6,7,8],[32],[]⟩)],false,false,[],[],[],[]⟩
def h90:=hOO
def h91:=hOO
def h92:Hints:=⟨true,[],[(5,⟨[3,12,13,14],[60080],[(none,3,60080,71)]⟩)],false,false,[],[],[],[]⟩
def h93:=hOO
def h95:Hints:=⟨true,[],[(18,⟨[0,2,3,4,8],[64,128,60080,60081,60082,60083,60084,60085,60086,60087,60088,100000],[]⟩),(5,⟨[0,2,3,4,6,7],[64,128,60080,60081,60082,60083,60084,60085,60086,60087,60088,100000],[(some 128,2,60080,71),(some 128,3,60081,73),(some 128,4,60082,3),(some 128,8,60083,34),(some 128,9,60084,3),(some 128,10,60085,3),(some 128,11,60086,44),(some 128,14,60087,107),(some 128,18,60088,103)]⟩)],false,false,[],[],[],[]⟩
def h96:=hOO
def SL:Norm:=⟨[0,5],[1060064],[]⟩
def h97_1:Hints:=⟨true,[],[(4,⟨[0,3,4,5],[100000,1060064],[(none,4,1060064,44)]⟩)],false,false,[],[],[(10,[0]),(21,[0])],[]⟩
def h97:Hints:=⟨false,[],[],false,false,[(5,31250,SL,h97_1)],[13],[],[]⟩
def h98:=hOO
def h99:=hOO
def h100:=hOO
def h101:=hOO
def h102:=hOO
def h103:Hints:=⟨true,[],[(3,⟨[0,3,4],[60048],[(none,3,60048,5)]⟩)],false,false,[],[],[],[]⟩
def h108:Hints:=⟨true,[],[(3,⟨[3,7,8,9],[60048],[(none,3,60048,5)]⟩)],false,false,[],[],[],[]⟩
def h109:=hOO
def h110:Hints:=⟨true,[],[(3,⟨[1,2,3,4],[32,64,96,60048],[(some 96,2,60048,34)]⟩)],false,false,[],[],[],[]⟩
def h111:Hints:=⟨true,[],[(3,⟨[0,3,4],[60048],[(none,3,60048,44)]⟩)],false,false,[],[],[],[]⟩
def h112:Hints:=⟨true,[],[(4,⟨[0,1,12,13],[],[]⟩)],false,false,[],[],[],[]⟩
def h113:=hOO
def h114:Hints:=⟨true,[],[(3,⟨[3,7,8,9],[60048],[(none,3,60048,5)]⟩)],false,false,[],[],[],[]⟩
def h115:=hOO
def h116:Hints:=⟨true,[],[(2,⟨[1,2,10,11,12],[],[]⟩)],false,false,[],[],[],[]⟩
def h117:Hints:=⟨true,[],[(10,⟨[0,2,3,8,9],[64,96,60160,60161,100000],[(some 96,0,60160,71),(some 96,1,60161,73)]⟩),(4,⟨[0,2,3,4,5],[64,96,60064,60065,100000],[(some 96,0,60064,71),(some 96,1,60065,73)]⟩)],false,false,[],[],[],[]⟩
def h118:=hOO
def h119:Hints:=⟨true,[],[(3,⟨[0,1,2,3,4,10,12,13],[320,384,60048],[(some 384,0,60048,54)]⟩)],false,false,[],[],[],[]⟩
def h120:=hOO
def h121:Hints:=⟨false,[7777777],[],false,false,[],[],[],[]⟩
def h122:=hOO
def h123:Hints:=⟨true,[],[(7,⟨[2,4,5,7],[64,128,160,360,361,362,366,370,704,864,865,992],[]⟩)],false,false,[],[],[],[]⟩
def h124:Hints:=⟨true,[],[(5,⟨[1,2,7,8],[320],[]⟩)],false,false,[],[],[(10,[0])],[]⟩
def h125:Hints:=⟨true,[],[(3,⟨[1,3,4],[32,60048],[(none,3,60048,161)]⟩)],false,false,[],[],[],[]⟩
def h126:=hOO
def h127:=hOO
def h128:=hOO
def h129:Hints:=⟨true,[],[(4,⟨[0,3,4,5],[60064,100000],[(none,4,60064,44)]⟩)],false,false,[],[],[(10,[0]),(21,[0])],[]⟩
def h130:Hints:=⟨true,[],[(4,⟨[0,2,3,4,5],[64,96,60064,100000],[(some 96,2,60064,34)]⟩)],false,false,[],[],[],[]⟩
def h131:Hints:=⟨true,[],[(3,⟨[3,6,7,8],[],[]⟩)],false,false,[],[],[],[]⟩
def h132:=hOO
def h133:=hOO
def h134:Hints:=⟨true,[],[(7,⟨[0,3,4,5],[],[]⟩),(3,⟨[0,3,4],[],[]⟩)],false,false,[],[],[],[]⟩
def h135:Hints:=⟨true,[],[(8,⟨[1,3,4,5,6,7],[32,160,1280,60128],[(none,3,60128,5)]⟩),(14,⟨[1,3,8],[32,60224],[(none,3,60224,5)]⟩),(3,⟨[1,3,4],[32,60048],[(none,3,60048,5)]⟩)],false,false,[],[],[],[]⟩
def h136:Hints:=⟨true,[],[(8,⟨[1,2,4,5,7],[64,128,160,60048,60128],[(some 160,1,60128,73)]⟩),(3,⟨[1,2,4,5,6],[64,128,160,60048],[(some 160,0,60048,71)]⟩)],false,false,[],[],[],[]⟩
def h137:Hints:=⟨true,[],[(4,⟨[0,3],[60064],[(none,3,60064,5)]⟩)],false,false,[],[],[],[]⟩
def h138:Hints:=⟨true,[],[(7,⟨[3,7,8,9,17],[],[]⟩),(3,⟨[3,7,8,9],[],[]⟩)],false,false,[],[],[],[]⟩
def h139:Hints:=⟨true,[],[(12,⟨[3,55,56,57],[60192],[(none,3,60192,5)]⟩),(5,⟨[1,3,17,18,19],[32,60080],[(none,3,60080,5)]⟩)],false,false,[],[],[],[]⟩
def h140:Hints:=⟨true,[],[(11,⟨[1,4,5,35,36,37],[128,160,60080,60176],[(some 160,1,60176,73)]⟩),(5,⟨[1,2,4,5,16,17,18],[64,128,160,60080],[(some 160,0,60080,71)]⟩)],false,false,[],[],[],[]⟩
def h141:Hints:=⟨true,[],[(4,⟨[0,3],[60064],[(none,3,60064,5)]⟩)],false,false,[],[],[],[]⟩
def h142:=hOO
def h143:=hOO
def h144:=hOO
def h145:Hints:=⟨false,[7777777],[],false,false,[],[71,85],[(9,[1]),(83,[])],[]⟩
def h146:Hints:=⟨true,[],[(5,⟨[0,3,4],[60080],[(none,3,60080,44)]⟩)],false,false,[],[],[],[]⟩
def h147:Hints:=⟨true,[],[(5,⟨[1,2,4,5,6],[64,128,160,60080],[(some 160,1,60080,73)]⟩)],false,false,[],[],[],[]⟩
def h148:Hints:=⟨true,[],[(2,⟨[0,3],[],[]⟩)],false,false,[],[],[],[]⟩
def h149:=hOO
def h150:=hOO
def h151:Hints:=⟨true,[],[(2,⟨[1,2,3,7],[96],[]⟩)],false,false,[],[],[],[]⟩
def h152:=hOO
def h153:=hOO
def h154:Hints:=⟨true,[43],[],false,false,[],[],[],[]⟩
def h155:=hOO
def h157:=hOO
def h158:Hints:=⟨true,[],[(2,⟨[0,1,5],[],[]⟩)],false,false,[],[],[],[]⟩
def h159:=hOO
def h160:=hOO
def h161:=hOO
def h162:=hOO
def h163:=hOO
def h164:=hOO
def h165:Hints:=⟨false,[7777777],[(7,⟨[4,5,8,10],[128,160,448,450,1107,60112],[(some 160,1,60112,77)]⟩)],false,false,[],[],[],[]⟩
def h166:Hints:=⟨false,[7777777],[],false,false,[],[],[],[]⟩
def h167:=hOO
def h168:Hints:=⟨true,[],[(5,⟨[0,1,5,6],[],[]⟩)],false,false,[],[],[],[]⟩
def h169:=hOO
def h170:=hOO
def h171:=hOO
def h172:=hOO
def h174:Hints:=⟨true,[],[(2,⟨[0,1,7,8],[],[]⟩)],false,false,[],[],[],[]⟩
def h175:=hOO
def h176:Hints:=⟨true,[],[(6,⟨[1,3],[32],[]⟩)],false,false,[],[],[],[]⟩
def h177:Hints:=⟨true,[],[(16,⟨[1,3,7],[32,60256],[(none,3,60256,5)]⟩),(4,⟨[1,3,4,5],[32,608,60064],[(none,3,60064,5)]⟩)],false,false,[],[],[],[]⟩
def h178:=hOO
def h179:Hints:=⟨true,[],[(7,⟨[4,7,10,11,12,13],[128,320,898,899,900,904,905,906,907,910,914,915,60112],[(none,7,60112,22)]⟩)],false,false,[],[],[],[]⟩
def h180:Hints:=⟨true,[],[(22,⟨[0,2,4,5,8,9,10],[64,160,1184,1760,2016,2112,3360,3361,3840,60352],[(some 160,11,60352,161)]⟩)],false,false,[],[],[],[]⟩
def h181:=hOO
def h182:=hOO
def h183:=hOO
def h184:Hints:=⟨true,[],[(5,⟨[2,4,6,7],[64,128,192,60080,60081],[(some 192,0,60080,71),(some 192,1,60081,73)]⟩)],false,false,[],[],[],[]⟩
def h185:=hOO
def h186:Hints:=⟨true,[],[(4,⟨[0,2,7],[],[]⟩)],false,false,[],[],[],[]⟩
def h187:Hints:=⟨true,[],[(3,⟨[0,3,4],[60048],[(none,3,60048,5)]⟩)],false,false,[],[],[],[]⟩
def h188:=hOO
def h189:=hOO
def h190:Hints:=⟨true,[],[(4,⟨[0,1,5,6,7],[60064,100000],[(none,6,60064,3)]⟩)],false,false,[],[],[],[]⟩
def h191:Hints:=⟨true,[],[(21,⟨[0,2,4,5,6,12,13],[64,160,512,2848,60080,60336],[(some 160,1,60336,73)]⟩),(5,⟨[0,2,4,5,6,7],[64,160,512,60080],[(some 160,0,60080,71)]⟩)],false,false,[],[],[],[]⟩
def h192:=hOO
def h193:=hOO
def h194:=hOO
def h195:=hOO
def h196:=hOO
def h197:=hOO
def h198:Hints:=⟨true,[],[(3,⟨[0,1,7,8],[],[]⟩)],false,false,[],[],[],[]⟩
def h199:=hOO
def h200:=hOO
def h201:Hints:=⟨true,[],[(5,⟨[2,3,5,6],[64,96,60080],[(none,5,60080,3)]⟩)],false,false,[],[],[],[]⟩
set_option maxRecDepth 100000 in
open Tryz in
noncomputable def PH:List (Nat×Func):=[(5,f5),(6,f6),(9,f9),(11,f11),(12,f12),(13,f13),(14,f14),(15,f15),(20,f20),(21,f21),(22,f22),(23,f23),(24,f24),(25,f25),(26,f26),(27,f27),(28,f28),(29,f29),(30,f30),(31,f31),(32,f32),(33,f33),(34,f34),(35,f35),(36,f36),(37,f37),(41,f41),(42,f42),(43,f43),(44,f44),(45,f45),(46,f46),(47,f47),(48,f48),(49,f49),(50,f50),(51,f51),(52,f52),(53,f53),(54,f54),(55,f55),(56,f56),(57,f57),(58,f58),(59,f59),(60,f60),(61,f61),(62,f62),(63,f63),(64,f64),(65,f65),(66,f66),(67,f67),(68,f68),(69,f69),(70,f70),(71,f71),(72,f72),(77,f77),(78,f78),(79,f79),(80,f80),(81,f81),(82,f82),(83,f83),(84,f84),(85,f85),(86,f86),(87,f87),(88,f88),(89,f89),(90,f90),(91,f91),(92,f92),(93,f93),(94,f94),(95,f95),(96,f96),(97,f97),(98,f98),(99,f99),(100,f100),(101,f101),(102,f102),(103,f103),(108,f108),(109,f109),(110,f110),(111,f111),(112,f112),(113,f113),(114,f114),(115,f115),(116,f116),(117,f117),(118,f118),(119,f119),(120,f120),(121,f121),(122,f122),(123,f123),(124,f124),(125,f125),(126,f126),(127,f127),(128,f128),(129,f129),(130,f130),(131,f131),(132,f132),(133,f133),(134,f134),(135,f135),(136,f136),(137,f137),(138,f138),(139,f139),(140,f140),(141,f141),(142,f142),(143,f143),(144,f144),(145,f145),(146,f146),(147,f147),(148,f148),(149,f149),(150,f150),(151,f151),(152,f152),(153,f153),(154,f154),(155,f155),(157,f157),(158,f158),(159,f159),(160,f160),(161,f161),(162,f162),(163,f163),(164,f164),(165,f165),(166,f166),(167,f167),(168,f168),(169,f169),(170,f170),(171,f171),(172,f172),(174,f174),(175,f175),(176,f176),(177,f177),(178,f178),(179,f179),(180,f180),(181,f181),(182,f182),(183,f183),(184,f184),(185,f185),(186,f186),(187,f187),(188,f188),(189,f189),(190,f190),(191,f191),(192,f192),(193,f193),(194,f194),(195,f195),(196,f196),(197,f197),(198,f198),(199,f199),(200,f200),(201,f201)]
set_option maxRecDepth 100000 in
noncomputable def L2:List (Nat×Hints):=[(5,h5),(6,h6),(9,h9),(11,h11),(12,h12),(13,h13),(14,h14),(15,h15),(20,h20),(21,h21),(22,h22),(23,h23),(24,h24),(25,h25),(26,h26),(27,h27),(29,h29),(30,h30),(31,h31),(32,h32),(33,h33),(34,h34),(35,h35),(36,h36),(37,h37),(41,h41),(42,h42),(43,h43),(44,h44),(45,h45),(46,h46),(47,h47),(48,h48),(49,h49),(50,h50),(51,h51),(52,h52),(53,h53),(54,h54),(55,h55),(56,h56),(57,h57),(58,h58),(59,h59),(60,h60),(61,h61),(62,h62),(63,h63),(64,h64),(65,h65),(66,h66),(67,h67),(68,h68),(69,h69),(70,h70),(71,h71),(72,h72),(77,h77),(78,h78),(79,h79),(80,h80),(81,h81),(82,h82),(83,h83),(84,h84),(85,h85),(86,h86),(87,h87),(88,h88),(89,h89),(90,h90),(91,h91),(92,h92),(93,h93),(95,h95),(96,h96),(97,h97),(98,h98),(99,h99),(100,h100),(101,h101),(102,h102),(103,h103),(108,h108),(109,h109),(110,h110),(111,h111),(112,h112),(113,h113),(114,h114),(115,h115),(116,h116),(117,h117),(118,h118),(119,h119),(120,h120),(121,h121),(122,h122),(123,h123),(124,h124),(125,h125),(126,h126),(127,h127),(128,h128),(129,h129),(130,h130),(131,h131),(132,h132),(133,h133),(134,h134),(135,h135),(136,h136),(137,h137),(138,h138),(139,h139),(140,h140),(141,h141),(142,h142),(143,h143),(144,h144),(145,h145),(146,h146),(147,h147),(148,h148),(149,h149),(150,h150),(151,h151),(152,h152),(153,h153),(154,h154),(155,h155),(157,h157),(158,h158),(159,h159),(160,h160),(161,h161),(162,h162),(163,h163),(164,h164),(165,h165),(166,h166),(167,h167),(168,h168),(169,h169),(170,h170),(171,h171),(172,h172),(174,h174),(175,h175),(176,h176),(177,h177),(178,h178),(179,h179),(180,h180),(181,h181),(182,h182),(183,h183),(184,h184),(185,h185),(186,h186),(187,h187),(188,h188),(189,h189),(190,h190),(191,h191),(192,h192),(193,h193),(194,h194),(195,h195),(196,h196),(197,h197),(198,h198),(199,h199),(200,h200),(201,h201)]
def hd0:=hOO
def N3:List (Nat×(List Abs.Arg->Option Out)):=[(133,TT)]
noncomputable def p:Prg:={ ti:=ti,fn:=λg=>look? g PH,hint:=λg=>⟨!gU g unfL,((look? g L2).getD hd0).cut,((look? g L2).getD hd0).loops,gU g U2,gU g TB,((look? g L2).getD hd0).inl,((look? g L2).getD hd0).unp,((look? g L2).getD hd0).adp,((look? g L2).getD hd0).reg⟩,own:=λg=>look? g N3 }
set_option maxRecDepth 100000 in
theorem NL:p.rts=rts:=by
 funext g
 unfold Prg.rts rts p
 rw[FT];rfl
abbrev Go(lvl g:Nat)(xs:List Abs.Arg)(out:Out)(T:Cl->Nat->Option Out):Prop:=(∀ n,lvl<=n->Ev (λaA=>T (aK p n) aA) out)->Ran p (lvl+1) g xs out
theorem gO {g lvl:Nat} {xs:List Abs.Arg} {out:Out} {T:Cl->Nat->Option Out} (fn:Func) (nt:Nat) (h:Hints) (ho:(p.own g,p.fn g,fn.ntmps,p.hint g)=(none,some fn,nt,h))
  (e:∀ (c:Cl) (J:mA) (f:Nat),vW (E1 c nt h) rts J f fn xs=T c f):Go lvl g xs out T:=λH=>by
 simp only[Prod.mk.injEq] at ho
 obtain⟨h1,h2,h3,h4⟩:=ho
 subst h3;subst h4
 refine Ran.of h1 h2 λn hl=>?_
 rw[NL]
 exact(Ev.eq (λaA=>e (aK p n) (iP p.fn (AO p (aK p n) fn.ntmps (p.hint g)) rts aA 3) aA) (H n hl)).get
theorem gOI {g lvl:Nat} {xs:List Abs.Arg} {out:Out} {T:Cl->Nat->Option Out} (fn:Func) (nt:Nat) (h:Hints) (ho:(p.own g,p.fn g,fn.ntmps,p.hint g)=(none,some fn,nt,h))
  (e:∀ (c:Cl) (f:Nat),vW (E1 c nt h) rts (iP p.fn (E1 c nt h) rts f 3) f fn xs=T c f):Go lvl g xs out T:=λH=>by
 simp only[Prod.mk.injEq] at ho
 obtain⟨h1,h2,h3,h4⟩:=ho
 subst h3;subst h4
 refine Ran.of h1 h2 λn hl=>?_
 rw[NL]
 exact(Ev.eq (λaA=>e (aK p n) aA) (H n hl)).get
abbrev qq{β:Type}(o:Option Out)(A B:List (List Kd))(f:Rows A×Rows B->Option β):Option β:=(o.bind (dR A B)).bind f
theorem gQ {g lvl:Nat} {xs:List Abs.Arg} {out:Out} {T:Cl->Nat->Option Out} (fn:Func) (nt:Nat) (h:Hints) (e:∀ (c:Cl) (J:mA) (f:Nat),vW (E1 c nt h) rts J f fn xs=T c f)(ho:(p.own g,p.fn g,fn.ntmps,p.hint g)=(none,some fn,nt,h):=by kernel_rfl):Go lvl g xs out T:=gO fn nt h ho e
theorem gQI {g lvl:Nat} {xs:List Abs.Arg} {out:Out} {T:Cl->Nat->Option Out} (fn:Func) (nt:Nat) (h:Hints) (e:∀ (c:Cl) (f:Nat),vW (E1 c nt h) rts (iP p.fn (E1 c nt h) rts f 3) f fn xs=T c f)(ho:(p.own g,p.fn g,fn.ntmps,p.hint g)=(none,some fn,nt,h):=by kernel_rfl):Go lvl g xs out T:=gOI fn nt h ho e
abbrev q1{β:Type}(c:Cl)(g:Nat)(a:List Abs.Arg)(A:List Kd)(f:Rows [A]×Rows []->Option β):Option β:=((c g a).bind (dR [A] [])).bind f
theorem rQ {σ ρ:Type}{step:St->(St->Option ρ)->Option ρ}{st:σ->St}{c:(σ->Option ρ)->σ->Option ρ}(n:Nat)(v:σ)(h:∀ rec v,step (st v) rec=c (λv'=>rec (st v')) v:=by (intro rec v;kernel_rfl)):rounds step n (st v)=iter c n v:=cB st c h n v
abbrev va(K:List Kd)(r:Row K):Abs.Arg:= .val true ⟨K,r⟩
abbrev rB(b:Bool):Option Out:=some ⟨[⟨K4,(b,())⟩],[]⟩
abbrev OO:=Option Out
abbrev vf(K:List Kd)(r:Row K):Abs.Arg:= .val false ⟨K,r⟩
abbrev rO(K:List Kd)(r:Row K):Out:=⟨[⟨K,r⟩],[]⟩
abbrev rV(K:List Kd)(r:Row K):Option Out:=some ⟨[⟨K,r⟩],[]⟩
abbrev vb(x:Bool):Abs.Arg:= .val false ⟨K4,(x,())⟩
def lN(x:Int):Leaf:= .v (.int .i64) x
def oN(x:Int):AVal:= .one (.v (.int .i64) x)
def lI(x:Int):Leaf:= .v (.int .i64) (vI x)
def lS(K:List Kd)(x:List (Row K)):Leaf:= .v (.sl K) x
abbrev vi(x:Int):Abs.Arg:= .val false ⟨K3,(x,())⟩

noncomputable def sT(E:Env)(xs:List Abs.Arg)(J:mA)(aA:Nat)(path:List Nat)(fn:Func):St->(St->Option Out)->Option Out:=i8 E rts J aA path (dS fn) (AQ E fn xs)
open Tryz in
set_option maxRecDepth 100000 in
theorem PG:∀ q∈PH,FnOk Tryz.prog q.1 q.2:=P6 (by refine ⟨⟨func5,?_,?_⟩,⟨func6,?_,?_⟩,⟨func9,?_,?_⟩,⟨func11,?_,?_⟩,⟨func12,?_,?_⟩,⟨func13,?_,?_⟩,⟨func14,?_,?_⟩,⟨func15,?_,?_⟩,⟨func20,?_,?_⟩,⟨func21,?_,?_⟩,⟨func22,?_,?_⟩,⟨func23,?_,?_⟩,⟨func24,?_,?_⟩,⟨func25,?_,?_⟩,⟨func26,?_,?_⟩,⟨func27,?_,?_⟩,⟨func28,?_,?_⟩,⟨func29,?_,?_⟩,⟨func30,?_,?_⟩,⟨func31,?_,?_⟩,⟨func32,?_,?_⟩,⟨func33,?_,?_⟩,⟨func34,?_,?_⟩,⟨func35,?_,?_⟩,⟨func36,?_,?_⟩,⟨func37,?_,?_⟩,⟨func41,?_,?_⟩,⟨func42,?_,?_⟩,⟨func43,?_,?_⟩,⟨func44,?_,?_⟩,⟨func45,?_,?_⟩,⟨func46,?_,?_⟩,⟨func47,?_,?_⟩,⟨func48,?_,?_⟩,⟨func49,?_,?_⟩,⟨func50,?_,?_⟩,⟨func51,?_,?_⟩,⟨func52,?_,?_⟩,⟨func53,?_,?_⟩,⟨func54,?_,?_⟩,⟨func55,?_,?_⟩,⟨func56,?_,?_⟩,⟨func57,?_,?_⟩,⟨func58,?_,?_⟩,⟨func59,?_,?_⟩,⟨func60,?_,?_⟩,⟨func61,?_,?_⟩,⟨func62,?_,?_⟩,⟨func63,?_,?_⟩,⟨func64,?_,?_⟩,⟨func65,?_,?_⟩,⟨func66,?_,?_⟩,⟨func67,?_,?_⟩,⟨func68,?_,?_⟩,⟨func69,?_,?_⟩,⟨func70,?_,?_⟩,⟨func71,?_,?_⟩,⟨func72,?_,?_⟩,⟨func77,?_,?_⟩,⟨func78,?_,?_⟩,⟨func79,?_,?_⟩,⟨func80,?_,?_⟩,⟨func81,?_,?_⟩,⟨func82,?_,?_⟩,⟨func83,?_,?_⟩,⟨func84,?_,?_⟩,⟨func85,?_,?_⟩,⟨func86,?_,?_⟩,⟨func87,?_,?_⟩,⟨func88,?_,?_⟩,⟨func89,?_,?_⟩,⟨func90,?_,?_⟩,⟨func91,?_,?_⟩,⟨func92,?_,?_⟩,⟨func93,?_,?_⟩,⟨func94,?_,?_⟩,⟨func95,?_,?_⟩,⟨func96,?_,?_⟩,⟨func97,?_,?_⟩,⟨func98,?_,?_⟩,⟨func99,?_,?_⟩,⟨func100,?_,?_⟩,⟨func101,?_,?_⟩,⟨func102,?_,?_⟩,⟨func103,?_,?_⟩,⟨func108,?_,?_⟩,⟨func109,?_,?_⟩,⟨func110,?_,?_⟩,⟨func111,?_,?_⟩,⟨func112,?_,?_⟩,⟨func113,?_,?_⟩,⟨func114,?_,?_⟩,⟨func115,?_,?_⟩,⟨func116,?_,?_⟩,⟨func117,?_,?_⟩,⟨func118,?_,?_⟩,⟨func119,?_,?_⟩,⟨func120,?_,?_⟩,⟨func121,?_,?_⟩,⟨func122,?_,?_⟩,⟨func123,?_,?_⟩,⟨func124,?_,?_⟩,⟨func125,?_,?_⟩,⟨func126,?_,?_⟩,⟨func127,?_,?_⟩,⟨func128,?_,?_⟩,⟨func129,?_,?_⟩,⟨func130,?_,?_⟩,⟨func131,?_,?_⟩,⟨func132,?_,?_⟩,⟨func133,?_,?_⟩,⟨func134,?_,?_⟩,⟨func135,?_,?_⟩,⟨func136,?_,?_⟩,⟨func137,?_,?_⟩,⟨func138,?_,?_⟩,⟨func139,?_,?_⟩,⟨func140,?_,?_⟩,⟨func141,?_,?_⟩,⟨func142,?_,?_⟩,⟨func143,?_,?_⟩,⟨func144,?_,?_⟩,⟨func145,?_,?_⟩,⟨func146,?_,?_⟩,⟨func147,?_,?_⟩,⟨func148,?_,?_⟩,⟨func149,?_,?_⟩,⟨func150,?_,?_⟩,⟨func151,?_,?_⟩,⟨func152,?_,?_⟩,⟨func153,?_,?_⟩,⟨func154,?_,?_⟩,⟨func155,?_,?_⟩,⟨func157,?_,?_⟩,⟨func158,?_,?_⟩,⟨func159,?_,?_⟩,⟨func160,?_,?_⟩,⟨func161,?_,?_⟩,⟨func162,?_,?_⟩,⟨func163,?_,?_⟩,⟨func164,?_,?_⟩,⟨func165,?_,?_⟩,⟨func166,?_,?_⟩,⟨func167,?_,?_⟩,⟨func168,?_,?_⟩,⟨func169,?_,?_⟩,⟨func170,?_,?_⟩,⟨func171,?_,?_⟩,⟨func172,?_,?_⟩,⟨func174,?_,?_⟩,⟨func175,?_,?_⟩,⟨func176,?_,?_⟩,⟨func177,?_,?_⟩,⟨func178,?_,?_⟩,⟨func179,?_,?_⟩,⟨func180,?_,?_⟩,⟨func181,?_,?_⟩,⟨func182,?_,?_⟩,⟨func183,?_,?_⟩,⟨func184,?_,?_⟩,⟨func185,?_,?_⟩,⟨func186,?_,?_⟩,⟨func187,?_,?_⟩,⟨func188,?_,?_⟩,⟨func189,?_,?_⟩,⟨func190,?_,?_⟩,⟨func191,?_,?_⟩,⟨func192,?_,?_⟩,⟨func193,?_,?_⟩,⟨func194,?_,?_⟩,⟨func195,?_,?_⟩,⟨func196,?_,?_⟩,⟨func197,?_,?_⟩,⟨func198,?_,?_⟩,⟨func199,?_,?_⟩,⟨func200,?_,?_⟩,⟨func201,?_,?_⟩,trivial⟩<;>kernel_rfl)
theorem H9(x:Nat):(p.hint x).fresh= !gU x unfL:=rfl
theorem N1:(unfL.all λx=>Nat.blt x 1000000||gU 7777777 (p.hint (x - 1000000)).cut)=true:=by kernel_rfl
theorem prg_ok:PrgOk Tryz.prog p where
 ti:=QL (by kernel_rfl)
 depth:=Nat.le_of_ble_eq_true (by kernel_rfl)
 mixed:=by kernel_rfl
 shal:=λg h=>QW (cut:=λg=>(p.hint g).cut) N1 g ((H9 _).symm.trans h)
 fn:=λg fn h=>(PG _ (qE PH h)).out
 own:=λg F h xs out ho=>by
  have hm:=qE N3 h
  rcases List.mem_singleton.1 hm with e
  cases e
  exact MC ⟨Tryz.f133,FnOk.out (P:=Tryz.prog) (g:=133) ⟨Tryz.func133,by kernel_rfl,by kernel_rfl⟩⟩ (by kernel_rfl) Tryz.strings_Compare xs out ho
theorem k_ok:KOk p.ti:=LT (by kernel_rfl)
end Go.Abs.Wz
