/- What the functions that the law HouseRuns reaches compute: walks, part 1. No condition. -/
import Derived.Test.YtlmmdjaoikaceaaGreatDoorCards
import Derived.Test.YtlmmdjaoikaceaaGreatDoorTie
import Derived.Deep.DeepHandedRow
import Derived.Test.YtlmmdjaoikaceaaGreatDoorRows
import Derived.Test.YtlmmdjaoikaceaaGreatDoorHouseRunsEc3
import Derived.Test.YtlmmdjaoikaceaaGreatDoorHouseRunsRa1
import Derived.Test.YtlmmdjaoikaceaaGreatDoorHouseRunsRb1
import Derived.Test.YtlmmdjaoikaceaaGreatDoorHouseRunsRc1
import Derived.Test.YtlmmdjaoikaceaaGreatDoorHouseRunsRd1
set_option linter.unusedSimpArgs false
set_option linter.unusedVariables false
set_option maxRecDepth 100000
set_option maxHeartbeats 4000000
namespace Go.Proofs.YtlmmdjaoikaceaaGreatDoor
open Go Go.Ing Go.RowKit Go.ChangeShapes Go.WideShapes Go.ChangeAt
instance:Fh Tryz.prog 3 (.int .i64):=⟨Tryz.underlying3⟩
instance:Fh Tryz.prog 4 .bool:=⟨Tryz.underlying4⟩
instance:Fh Tryz.prog 5 (.int .u8):=⟨Tryz.underlying5⟩
instance:Fh Tryz.prog 9 .string:=⟨Tryz.underlying9⟩
instance:Fh Tryz.prog 22 (.slice 28):=⟨Tryz.underlying22⟩
instance:Fh Tryz.prog 23 (.slice 32):=⟨Tryz.underlying23⟩
instance:Fh Tryz.prog 24 (.int .i64):=⟨Tryz.underlying24⟩
instance:Fh Tryz.prog 35 (.pointer 95):=⟨Tryz.underlying35⟩
instance:Fh Tryz.prog 38 (.slice 100):=⟨Tryz.underlying38⟩
instance:Fh Tryz.prog 40 (.array 6 3):=⟨Tryz.underlying40⟩
instance:Fh Tryz.prog 41 (.array 6 4):=⟨Tryz.underlying41⟩
instance:Fh Tryz.prog 44 (.array 6 43):=⟨Tryz.underlying44⟩
instance:Fh Tryz.prog 47 (.array 9 46):=⟨Tryz.underlying47⟩
instance:Fh Tryz.prog 50 (.array 6 49):=⟨Tryz.underlying50⟩
instance:Fh Tryz.prog 53 (.array 3 3):=⟨Tryz.underlying53⟩
instance:Fh Tryz.prog 56 (.slice 9):=⟨Tryz.underlying56⟩
instance:Fh Tryz.prog 63 (.array 4 62):=⟨Tryz.underlying63⟩
instance:Fh Tryz.prog 93 (.array 4 92):=⟨Tryz.underlying93⟩
instance:Fh Tryz.prog 117 (.slice 3):=⟨Tryz.underlying117⟩
instance:Fh Tryz.prog 122 (.slice 5):=⟨Tryz.underlying122⟩
instance:Fh Tryz.prog 129 (.slice 43):=⟨Tryz.underlying129⟩
instance:Fh Tryz.prog 130 (.slice 46):=⟨Tryz.underlying130⟩
instance:Fh Tryz.prog 131 (.array 2 3):=⟨Tryz.underlying131⟩
instance:Fh Tryz.prog 134 (.pointer 136):=⟨Tryz.underlying134⟩
instance:Fh Tryz.prog 153 (.array 21 9):=⟨Tryz.underlying153⟩
instance:Fh Tryz.prog 156 (.map 3 9):=⟨Tryz.underlying156⟩
instance:Fh Tryz.prog 171 (.map 3 3):=⟨Tryz.underlying171⟩
instance:Fh Tryz.prog 185 (.pointer 5):=⟨Tryz.underlying185⟩
instance:Fh Tryz.prog 192 (.map 3 4):=⟨Tryz.underlying192⟩
instance:Fh Tryz.prog 205 .unsafePointer:=⟨Tryz.underlying205⟩
instance:Oi Tryz.prog 3:=oi
instance:Oi Tryz.prog 4:=oi
instance:Oi Tryz.prog 5:=oi
instance:Oi Tryz.prog 9:=oi
instance:Oi Tryz.prog 24:=oi
instance:Me Tryz.prog 28 4:=P3
instance:Me Tryz.prog 32 2:=P3
instance:Oi Tryz.prog 38:=oi
instance:Me Tryz.prog 40 6:=P3
instance:Me Tryz.prog 41 6:=P3
instance:Me Tryz.prog 43 14:=P3
instance:Me Tryz.prog 44 84:=P3
instance:Me Tryz.prog 46 5:=P3
instance:Me Tryz.prog 47 45:=P3
instance:Me Tryz.prog 49 6:=P3
instance:Me Tryz.prog 50 36:=P3
instance:Me Tryz.prog 52 165:=P3
instance:Me Tryz.prog 53 3:=P3
instance:Me Tryz.prog 55 10:=P3
instance:Oi Tryz.prog 56:=oi
instance:Me Tryz.prog 58 4:=P3
instance:Me Tryz.prog 60 5:=P3
instance:Me Tryz.prog 62 22:=P3
instance:Me Tryz.prog 63 88:=P3
instance:Me Tryz.prog 92 22:=P3
instance:Me Tryz.prog 93 88:=P3
instance:Me Tryz.prog 100 16:=P3
instance:Me Tryz.prog 108 6:=P3
instance:Oi Tryz.prog 122:=oi
instance:Oi Tryz.prog 134:=oi
instance:Me Tryz.prog 153 21:=P3
instance:P0 Tryz.prog 28 [(0,1),(1,1),(2,1),(3,1)]:=Sb Tryz.underlying28
instance:P0 Tryz.prog 32 [(0,1),(1,1)]:=Sb Tryz.underlying32
instance:P0 Tryz.prog 43 [(0,1),(1,1),(2,6),(8,6)]:=Sb Tryz.underlying43
instance:P0 Tryz.prog 46 [(0,1),(1,1),(2,1),(3,1),(4,1)]:=Sb Tryz.underlying46
instance:P0 Tryz.prog 49 [(0,1),(1,1),(2,1),(3,1),(4,1),(5,1)]:=Sb Tryz.underlying49
instance:P0 Tryz.prog 52 [(0,84),(84,45),(129,36)]:=Sb Tryz.underlying52
instance:P0 Tryz.prog 55 [(0,1),(1,1),(2,1),(3,3),(6,3),(9,1)]:=Sb Tryz.underlying55
instance:P0 Tryz.prog 58 [(0,1),(1,1),(2,1),(3,1)]:=Sb Tryz.underlying58
instance:P0 Tryz.prog 60 [(0,1),(1,1),(2,1),(3,1),(4,1)]:=Sb Tryz.underlying60
instance:P0 Tryz.prog 62 [(0,1),(1,1),(2,10),(12,4),(16,5),(21,1)]:=Sb Tryz.underlying62
instance:P0 Tryz.prog 65 [(0,165),(165,88),(253,1),(254,1)]:=Sb Tryz.underlying65
instance:P0 Tryz.prog 92 [(0,1),(1,1),(2,10),(12,4),(16,5),(21,1)]:=Sb Tryz.underlying92
instance:P0 Tryz.prog 95 [(0,165),(165,88),(253,1),(254,1)]:=Sb Tryz.underlying95
instance:P0 Tryz.prog 100 [(0,1),(1,1),(2,1),(3,1),(4,1),(5,1),(6,1),(7,1),(8,1),(9,1),(10,6)]:=Sb Tryz.underlying100
instance:P0 Tryz.prog 108 [(0,1),(1,1),(2,1),(3,1),(4,1),(5,1)]:=Sb Tryz.underlying108
instance:P0 Tryz.prog 115 [(0,165),(165,1),(166,1)]:=Sb Tryz.underlying115
instance:P0 Tryz.prog 136 [(0,1),(1,1)]:=Sb Tryz.underlying136
instance:P0 Tryz.prog 175 [(0,165),(165,1),(166,1)]:=Sb Tryz.underlying175
instance:Kz Tryz.prog 3 (.int .i64 0):=Nc
instance:Kz Tryz.prog 4 (.bool false):=Nc
instance:Kz Tryz.prog 5 (.int .u8 0):=Nc
instance:Kz Tryz.prog 9 (Ae []):=Nc
instance:Kz Tryz.prog 28 (.agg (Ba.enc (default:Ba)).toArray):=Nc
instance:Kz Tryz.prog 32 (.agg (CC.enc (default:CC)).toArray):=Nc
instance:Kz Tryz.prog 40 (.agg (BT (n:=6) AT (Vector.replicate 6 default)).toArray):=Nc
instance:Kz Tryz.prog 41 (.agg (BT (n:=6) B1 (Vector.replicate 6 default)).toArray):=Nc
instance:Kz Tryz.prog 43 (.agg (Room.enc (default:Room)).toArray):=Nc
instance:Kz Tryz.prog 46 (.agg (A9.enc (default:A9)).toArray):=Nc
instance:Kz Tryz.prog 47 (.agg (BT (n:=9) A9.enc (Vector.replicate 9 default)).toArray):=Nc
instance:Kz Tryz.prog 49 (.agg (BC.enc (default:BC)).toArray):=Nc
instance:Kz Tryz.prog 52 (.agg (AD.enc (default:AD)).toArray):=Nc
instance:Kz Tryz.prog 55 (.agg (AI.enc (default:AI)).toArray):=Nc
instance:Kz Tryz.prog 58 (.agg (BO.enc ⟨[],false,false,⟨none,0,0⟩⟩).toArray):=Nc
instance:Kz Tryz.prog 60 (.agg (A7.enc ⟨⟨none,0,0⟩,0,false,[],false⟩).toArray):=Nc
instance:Kz Tryz.prog 62 (.agg (A4.enc (default:A4)).toArray):=Nc
instance:Kz Tryz.prog 65 (.agg (AE.enc (default:AE)).toArray):=Nc
instance:Kz Tryz.prog 92 (.agg (A4.enc (default:A4)).toArray):=Nc
instance:Kz Tryz.prog 95 (.agg (AE.enc (default:AE)).toArray):=Nc
instance:Kz Tryz.prog 100 (.agg (Ing.Event.enc (default:Ing.Event)).toArray):=Nc
instance:Kz Tryz.prog 108 (.agg (Order.enc (default:Order)).toArray):=Nc
instance:Kz Tryz.prog 115 (.agg (AZ.enc (default:AZ)).toArray):=Nc
instance:Kz Tryz.prog 131 (.agg (BT (n:=2) AT (Vector.replicate 2 default)).toArray):=Nc
instance:Kz Tryz.prog 136 (.agg (D2.enc ⟨none,⟨none,0,0⟩⟩).toArray):=Nc
instance:Kz Tryz.prog 175 (.agg (AZ.enc (default:AZ)).toArray):=Nc
instance:dM Tryz.prog 3 8:=fR
instance:dM Tryz.prog 5 1:=fR
instance:dM Tryz.prog 9 16:=fR
instance:dM Tryz.prog 28 40:=fR
instance:dM Tryz.prog 32 24:=fR
instance:dM Tryz.prog 100 160:=fR
instance:BN Tryz.prog 5:=⟨Tryz.call5⟩
instance:BN Tryz.prog 6:=⟨Tryz.call6⟩
instance:BN Tryz.prog 7:=⟨Tryz.call7⟩
instance:BN Tryz.prog 8:=⟨Tryz.call8⟩
instance:BN Tryz.prog 9:=⟨Tryz.call9⟩
instance:BN Tryz.prog 20:=⟨Tryz.call20⟩
instance:BN Tryz.prog 21:=⟨Tryz.call21⟩
instance:BN Tryz.prog 22:=⟨Tryz.call22⟩
instance:BN Tryz.prog 23:=⟨Tryz.call23⟩
instance:BN Tryz.prog 24:=⟨Tryz.call24⟩
instance:BN Tryz.prog 25:=⟨Tryz.call25⟩
instance:BN Tryz.prog 26:=⟨Tryz.call26⟩
instance:BN Tryz.prog 27:=⟨Tryz.call27⟩
instance:BN Tryz.prog 28:=⟨Tryz.call28⟩
instance:BN Tryz.prog 29:=⟨Tryz.call29⟩
instance:BN Tryz.prog 30:=⟨Tryz.call30⟩
instance:BN Tryz.prog 31:=⟨Tryz.call31⟩
instance:BN Tryz.prog 32:=⟨Tryz.call32⟩
instance:BN Tryz.prog 33:=⟨Tryz.call33⟩
instance:BN Tryz.prog 34:=⟨Tryz.call34⟩
instance:BN Tryz.prog 35:=⟨Tryz.call35⟩
instance:BN Tryz.prog 36:=⟨Tryz.call36⟩
instance:BN Tryz.prog 37:=⟨Tryz.call37⟩
instance:BN Tryz.prog 38:=⟨Tryz.call38⟩
instance:BN Tryz.prog 39:=⟨Tryz.call39⟩
instance:BN Tryz.prog 40:=⟨Tryz.call40⟩
instance:BN Tryz.prog 41:=⟨Tryz.call41⟩
instance:BN Tryz.prog 42:=⟨Tryz.call42⟩
instance:BN Tryz.prog 43:=⟨Tryz.call43⟩
instance:BN Tryz.prog 44:=⟨Tryz.call44⟩
instance:BN Tryz.prog 45:=⟨Tryz.call45⟩
instance:BN Tryz.prog 46:=⟨Tryz.call46⟩
instance:BN Tryz.prog 47:=⟨Tryz.call47⟩
instance:BN Tryz.prog 48:=⟨Tryz.call48⟩
instance:BN Tryz.prog 49:=⟨Tryz.call49⟩
instance:BN Tryz.prog 50:=⟨Tryz.call50⟩
instance:BN Tryz.prog 51:=⟨Tryz.call51⟩
instance:BN Tryz.prog 52:=⟨Tryz.call52⟩
instance:BN Tryz.prog 53:=⟨Tryz.call53⟩
instance:BN Tryz.prog 54:=⟨Tryz.call54⟩
instance:BN Tryz.prog 55:=⟨Tryz.call55⟩
instance:BN Tryz.prog 56:=⟨Tryz.call56⟩
instance:BN Tryz.prog 57:=⟨Tryz.call57⟩
instance:BN Tryz.prog 58:=⟨Tryz.call58⟩
instance:BN Tryz.prog 59:=⟨Tryz.call59⟩
instance:BN Tryz.prog 60:=⟨Tryz.call60⟩
instance:BN Tryz.prog 61:=⟨Tryz.call61⟩
instance:BN Tryz.prog 62:=⟨Tryz.call62⟩
instance:BN Tryz.prog 63:=⟨Tryz.call63⟩
instance:BN Tryz.prog 64:=⟨Tryz.call64⟩
instance:BN Tryz.prog 65:=⟨Tryz.call65⟩
instance:BN Tryz.prog 66:=⟨Tryz.call66⟩
instance:BN Tryz.prog 67:=⟨Tryz.call67⟩
instance:BN Tryz.prog 68:=⟨Tryz.call68⟩
instance:BN Tryz.prog 69:=⟨Tryz.call69⟩
instance:BN Tryz.prog 70:=⟨Tryz.call70⟩
instance:BN Tryz.prog 71:=⟨Tryz.call71⟩
instance:BN Tryz.prog 72:=⟨Tryz.call72⟩
instance:BN Tryz.prog 73:=⟨Tryz.call73⟩
instance:BN Tryz.prog 74:=⟨Tryz.call74⟩
instance:BN Tryz.prog 75:=⟨Tryz.call75⟩
instance:BN Tryz.prog 76:=⟨Tryz.call76⟩
instance:BN Tryz.prog 77:=⟨Tryz.call77⟩
instance:BN Tryz.prog 78:=⟨Tryz.call78⟩
instance:BN Tryz.prog 79:=⟨Tryz.call79⟩
instance:BN Tryz.prog 80:=⟨Tryz.call80⟩
instance:BN Tryz.prog 81:=⟨Tryz.call81⟩
instance:BN Tryz.prog 82:=⟨Tryz.call82⟩
instance:BN Tryz.prog 83:=⟨Tryz.call83⟩
instance:BN Tryz.prog 84:=⟨Tryz.call84⟩
instance:BN Tryz.prog 85:=⟨Tryz.call85⟩
instance:BN Tryz.prog 86:=⟨Tryz.call86⟩
instance:BN Tryz.prog 87:=⟨Tryz.call87⟩
instance:BN Tryz.prog 88:=⟨Tryz.call88⟩
instance:BN Tryz.prog 89:=⟨Tryz.call89⟩
instance:BN Tryz.prog 90:=⟨Tryz.call90⟩
instance:BN Tryz.prog 91:=⟨Tryz.call91⟩
instance:BN Tryz.prog 92:=⟨Tryz.call92⟩
instance:BN Tryz.prog 93:=⟨Tryz.call93⟩
instance:BN Tryz.prog 94:=⟨Tryz.call94⟩
instance:BN Tryz.prog 95:=⟨Tryz.call95⟩
instance:BN Tryz.prog 96:=⟨Tryz.call96⟩
instance:BN Tryz.prog 97:=⟨Tryz.call97⟩
instance:BN Tryz.prog 98:=⟨Tryz.call98⟩
instance:BN Tryz.prog 99:=⟨Tryz.call99⟩
instance:BN Tryz.prog 100:=⟨Tryz.call100⟩
instance:BN Tryz.prog 101:=⟨Tryz.call101⟩
instance:BN Tryz.prog 102:=⟨Tryz.call102⟩
instance:BN Tryz.prog 103:=⟨Tryz.call103⟩
instance:BN Tryz.prog 104:=⟨Tryz.call104⟩
instance:BN Tryz.prog 105:=⟨Tryz.call105⟩
instance:BN Tryz.prog 106:=⟨Tryz.call106⟩
instance:BN Tryz.prog 107:=⟨Tryz.call107⟩
instance:BN Tryz.prog 108:=⟨Tryz.call108⟩
instance:BN Tryz.prog 109:=⟨Tryz.call109⟩
instance:BN Tryz.prog 110:=⟨Tryz.call110⟩
instance:BN Tryz.prog 111:=⟨Tryz.call111⟩
instance:BN Tryz.prog 112:=⟨Tryz.call112⟩
instance:BN Tryz.prog 113:=⟨Tryz.call113⟩
instance:BN Tryz.prog 114:=⟨Tryz.call114⟩
instance:BN Tryz.prog 115:=⟨Tryz.call115⟩
instance:BN Tryz.prog 116:=⟨Tryz.call116⟩
instance:BN Tryz.prog 117:=⟨Tryz.call117⟩
instance:BN Tryz.prog 118:=⟨Tryz.call118⟩
instance:BN Tryz.prog 119:=⟨Tryz.call119⟩
instance:BN Tryz.prog 120:=⟨Tryz.call120⟩
instance:BN Tryz.prog 121:=⟨Tryz.call121⟩
instance:BN Tryz.prog 122:=⟨Tryz.call122⟩
instance:BN Tryz.prog 123:=⟨Tryz.call123⟩
instance:BN Tryz.prog 124:=⟨Tryz.call124⟩
instance:BN Tryz.prog 125:=⟨Tryz.call125⟩
instance:BN Tryz.prog 126:=⟨Tryz.call126⟩
instance:BN Tryz.prog 127:=⟨Tryz.call127⟩
instance:BN Tryz.prog 128:=⟨Tryz.call128⟩
instance:BN Tryz.prog 129:=⟨Tryz.call129⟩
instance:BN Tryz.prog 130:=⟨Tryz.call130⟩
instance:BN Tryz.prog 131:=⟨Tryz.call131⟩
instance:BN Tryz.prog 132:=⟨Tryz.call132⟩
instance:BN Tryz.prog 133:=⟨Tryz.call133⟩
instance:BN Tryz.prog 134:=⟨Tryz.call134⟩
instance:BN Tryz.prog 135:=⟨Tryz.call135⟩
instance:BN Tryz.prog 136:=⟨Tryz.call136⟩
instance:BN Tryz.prog 137:=⟨Tryz.call137⟩
instance:BN Tryz.prog 138:=⟨Tryz.call138⟩
instance:BN Tryz.prog 139:=⟨Tryz.call139⟩
instance:BN Tryz.prog 140:=⟨Tryz.call140⟩
instance:BN Tryz.prog 142:=⟨Tryz.call142⟩
instance:BN Tryz.prog 143:=⟨Tryz.call143⟩
instance:BN Tryz.prog 144:=⟨Tryz.call144⟩
instance:BN Tryz.prog 150:=⟨Tryz.call150⟩
instance:BN Tryz.prog 151:=⟨Tryz.call151⟩
instance:BN Tryz.prog 152:=⟨Tryz.call152⟩
instance:BN Tryz.prog 153:=⟨Tryz.call153⟩
instance:BN Tryz.prog 154:=⟨Tryz.call154⟩
instance:BN Tryz.prog 155:=⟨Tryz.call155⟩
instance:BN Tryz.prog 156:=⟨Tryz.call156⟩
instance:BN Tryz.prog 158:=⟨Tryz.call158⟩
instance:BN Tryz.prog 159:=⟨Tryz.call159⟩
instance:BN Tryz.prog 160:=⟨Tryz.call160⟩
instance:BN Tryz.prog 161:=⟨Tryz.call161⟩
instance:BN Tryz.prog 162:=⟨Tryz.call162⟩
instance:BN Tryz.prog 163:=⟨Tryz.call163⟩
instance:BN Tryz.prog 164:=⟨Tryz.call164⟩
instance:BN Tryz.prog 165:=⟨Tryz.call165⟩
instance:BN Tryz.prog 166:=⟨Tryz.call166⟩
instance:BN Tryz.prog 167:=⟨Tryz.call167⟩
instance:BN Tryz.prog 168:=⟨Tryz.call168⟩
instance:BN Tryz.prog 169:=⟨Tryz.call169⟩
instance:BN Tryz.prog 170:=⟨Tryz.call170⟩
instance:BN Tryz.prog 171:=⟨Tryz.call171⟩
instance:BN Tryz.prog 172:=⟨Tryz.call172⟩
instance:BN Tryz.prog 173:=⟨Tryz.call173⟩
instance:BN Tryz.prog 174:=⟨Tryz.call174⟩
instance:BN Tryz.prog 176:=⟨Tryz.call176⟩
instance:BN Tryz.prog 181:=⟨Tryz.call181⟩
instance:BN Tryz.prog 182:=⟨Tryz.call182⟩
instance:BN Tryz.prog 183:=⟨Tryz.call183⟩
instance:BN Tryz.prog 184:=⟨Tryz.call184⟩
instance:BN Tryz.prog 185:=⟨Tryz.call185⟩
instance:BN Tryz.prog 186:=⟨Tryz.call186⟩
instance:BN Tryz.prog 187:=⟨Tryz.call187⟩
instance:BN Tryz.prog 188:=⟨Tryz.call188⟩
instance:BN Tryz.prog 189:=⟨Tryz.call189⟩
instance:BN Tryz.prog 190:=⟨Tryz.call190⟩
instance:BN Tryz.prog 191:=⟨Tryz.call191⟩
instance:BN Tryz.prog 192:=⟨Tryz.call192⟩
instance:BN Tryz.prog 193:=⟨Tryz.call193⟩
instance:BN Tryz.prog 194:=⟨Tryz.call194⟩
instance:BN Tryz.prog 197:=⟨Tryz.call197⟩
instance:BN Tryz.prog 198:=⟨Tryz.call198⟩
instance:BN Tryz.prog 206:=⟨Tryz.call206⟩
instance:BN Tryz.prog 207:=⟨Tryz.call207⟩
instance:BN Tryz.prog 208:=⟨Tryz.call208⟩
instance:BN Tryz.prog 209:=⟨Tryz.call209⟩
instance:BN Tryz.prog 210:=⟨Tryz.call210⟩
instance:BN Tryz.prog 211:=⟨Tryz.call211⟩
instance:BN Tryz.prog 212:=⟨Tryz.call212⟩
instance:BN Tryz.prog 213:=⟨Tryz.call213⟩
instance:BN Tryz.prog 216:=⟨Tryz.call216⟩
instance:BN Tryz.prog 225:=⟨Tryz.call225⟩
instance:BN Tryz.prog 226:=⟨Tryz.call226⟩
instance:BN Tryz.prog 229:=⟨Tryz.call229⟩
instance:jh Tryz.prog 136 5:={}
instance:bK Tryz.prog 3 AT 1:=⟨Bo⟩
instance:dN Tryz.prog 3 AT 1:=⟨Bo⟩
instance:bK Tryz.prog 5 CH 1:=⟨Rv⟩
instance:bK Tryz.prog 9 Ac 1:=⟨Ct⟩
instance:dN Tryz.prog 9 Ac 1:=⟨Ct⟩
instance:bK Tryz.prog 28 Ba.enc 4:=⟨Ba.fl⟩
instance:dN Tryz.prog 28 Ba.enc 4:=⟨Ba.fl⟩
instance:bK Tryz.prog 32 CC.enc 2:=⟨CC.fl⟩
instance:dN Tryz.prog 32 CC.enc 2:=⟨CC.fl⟩
instance:bK Tryz.prog 43 Room.enc 14:=⟨Room.fl⟩
instance:dN Tryz.prog 43 Room.enc 14:=⟨Room.fl⟩
instance:bK Tryz.prog 46 A9.enc 5:=⟨A9.fl⟩
instance:dN Tryz.prog 46 A9.enc 5:=⟨A9.fl⟩
instance:bK Tryz.prog 100 Ing.Event.enc 16:=⟨Ing.Event.fl⟩
instance:dN Tryz.prog 100 Ing.Event.enc 16:=⟨Ing.Event.fl⟩
instance:jE Tryz.prog:=⟨by kernel_rfl⟩
theorem bN:Sz Tryz.prog 3 1:=Jf (by kernel_rfl)
theorem QJ:Sz Tryz.prog 9 1:=Jf (by kernel_rfl)
theorem jb:ZV Tryz.prog 43 (.agg (Room.enc (default:Room)).toArray):=NI (by kernel_rfl)
theorem jV:Sz Tryz.prog 43 14:=Jf (by kernel_rfl)
theorem jc:ZV Tryz.prog 46 (.agg (A9.enc (default:A9)).toArray):=NI (by kernel_rfl)
theorem jW:Sz Tryz.prog 46 5:=Jf (by kernel_rfl)
theorem fO:ZV Tryz.prog 9 (Ae []):=NI (by kernel_rfl)
theorem gz:BY Tryz.prog 9 16:=WC (by kernel_rfl)
theorem SZ:S0 Tryz.prog 9:=Ra Tryz.underlying9 rfl
theorem mix:Tryz.prog.follows .mixedOrders=true:=by kernel_rfl
theorem bO:ZV Tryz.prog 3 (.int .i64 0):=NI (by kernel_rfl)
theorem Va:∃ i,Tryz.prog.info? 136=some i∧i.size≠0:=by
  have h:(Tryz.prog.info? 136).map (·.size)=some 2:=by kernel_rfl
  obtain⟨i,h1,h2⟩:=Option.map_eq_some_iff.1 h
  exact⟨i,h1,by omega⟩
theorem da:Sz Tryz.prog 122 1:=Jf (by kernel_rfl)
theorem MB:FA Tryz.prog 136 1 1:=dO Tryz.underlying136 rfl da
theorem SY:S0 Tryz.prog 122:=Ra Tryz.underlying122 rfl
theorem QI:Sz Tryz.prog 5 1:=Jf (by kernel_rfl)
theorem Uu:ZV Tryz.prog 5 (.int .u8 0):=NI (by kernel_rfl)
theorem fQ:BY Tryz.prog 5 1:=WC (by kernel_rfl)
theorem kA:Tryz.prog.cellsOf 5=1:=by kernel_rfl
theorem iK:Sz Tryz.prog 153 21:=Jf (by kernel_rfl)
theorem bA:bL Tryz.prog 153 21:=ZC Tryz.underlying153 rfl iK
theorem jU:Sz Tryz.prog 28 4:=Jf (by kernel_rfl)
theorem ja:ZV Tryz.prog 28 (.agg (Ba.enc (default:Ba)).toArray):=NI (by kernel_rfl)
theorem jt:ZV Tryz.prog 4 (.bool false):=NI (by kernel_rfl)
theorem jJ:BY Tryz.prog 28 40:=WC (by kernel_rfl)
theorem jO:W6 Tryz.prog 1 24 (fun n:Int=> .int .i64 n):=bQ Tryz.underlying24
theorem iL:S0 Tryz.prog 24:=Ra Tryz.underlying24 rfl
theorem kF:W6 Tryz.prog 1 9 (fun s:AL=>Ae s):=bR Tryz.underlying9
theorem jP:W6 Tryz.prog 2 32 (fun x:CC=> .agg (CC.enc x).toArray):=Uy Tryz.underlying32 (by kernel_rfl) (.cons (by decide) rfl (.inr ⟨iL,rfl,fun _=>rfl⟩) CC.l0 jO (by decide) (.cons (by decide) rfl (.inr ⟨SZ,rfl,fun _=>rfl⟩) CC.l1 kF (by decide) .nil)) (fun x y=>by rw [Bool.eq_iff_iff];cases x;cases y;simp)
instance:jC Tryz.prog 32 inferInstance CC.enc 2:=⟨jP⟩
theorem K7  (w:World):Ck Tryz.prog 33 #[] w fun v w'=>v = .agg AD.new.enc.toArray∧BG w w':=by
 refine Rb Tryz.func33 ?_
 refine W ?_
 intro b1 b2
 refine Ib (cs:=BT (n:=6) Room.enc (Vector.replicate 6 default)) (cs':=BT (n:=6) Room.enc AD.Vo) J Tryz.underlying129 jV jb (by decide) (by decide) (by kernel_rfl) (.cons (Ab.arr (n:=6) (i:=0) Room.fl (by decide) (by decide)) J J J (.cons (Ab.arr (n:=6) (i:=1) Room.fl (by decide) (by decide)) J J J (.cons (Ab.arr (n:=6) (i:=2) Room.fl (by decide) (by decide)) J J J (.cons (Ab.arr (n:=6) (i:=3) Room.fl (by decide) (by decide)) J J J (.cons (Ab.arr (n:=6) (i:=4) Room.fl (by decide) (by decide)) J J J (.cons (Ab.arr (n:=6) (i:=5) Room.fl (by decide) (by decide)) J J J .nil)))))) J (fun b3=>?_)
 refine W ?_
 refine Ag (.t5 22 0 1 20 21) ?_
 refine AX (.t .h) ?_
 refine A8 (fun(k:Int)=>0≤k∧k≤6) (fun(k:Int)=>(6 - k).toNat) (fun(k:Int)=> [(22, .int .i64 k)]) (fun(k:Int)=> [AJ.box b2 52 (AD.enc (AD.Vf k.toNat))]) (0) ?_ J J (fun k hI1=>?_)
 · exact⟨Int.le_refl _,by omega⟩
 obtain⟨hI11,hI12⟩:=hI1
 refine W ?_
 refine⟨fun c1 c1p=>?_,fun c1 c1p=>?_⟩
 ·
  dsimp only at c1p
  refine W ?_
  intro b4
  refine Az (k+1) ?_ ?_ (.t5 22 0 1 20 21) (by rw [AD.Xn (by omega)];exact(.cons _ (.refl _)))
  · exact⟨by omega,by omega⟩
  · omega
 dsimp only at c1p
 obtain rfl:k=6:=by omega
 refine W ?_
 refine Ib (cs:=BT (n:=9) A9.enc (Vector.replicate 9 default)) (cs':=BT (n:=9) A9.enc AD.SV) J Tryz.underlying130 jW jc (by decide) (by decide) (by kernel_rfl) (.cons (Ab.arr (n:=9) (i:=0) A9.fl (by decide) (by decide)) J J J (.cons (Ab.arr (n:=9) (i:=1) A9.fl (by decide) (by decide)) J J J (.cons (Ab.arr (n:=9) (i:=2) A9.fl (by decide) (by decide)) J J J (.cons (Ab.arr (n:=9) (i:=3) A9.fl (by decide) (by decide)) J J J (.cons (Ab.arr (n:=9) (i:=4) A9.fl (by decide) (by decide)) J J J (.cons (Ab.arr (n:=9) (i:=5) A9.fl (by decide) (by decide)) J J J (.cons (Ab.arr (n:=9) (i:=6) A9.fl (by decide) (by decide)) J J J (.cons (Ab.arr (n:=9) (i:=7) A9.fl (by decide) (by decide)) J J J (.cons (Ab.arr (n:=9) (i:=8) A9.fl (by decide) (by decide)) J J J .nil))))))))) J (fun b5=>?_)
 refine W ?_
 refine Ag (.t5 43 0 1 41 42) ?_
 refine AX (.t .h) ?_
 refine A8 (fun(k:Int)=>0≤k∧k≤9) (fun(k:Int)=>(9 - k).toNat) (fun(k:Int)=> [(43, .int .i64 k)]) (fun(k:Int)=> [AJ.box b2 52 (AD.enc (AD.KH k.toNat))]) (0) ?_ J J (fun k hI2=>?_)
 · exact⟨Int.le_refl _,by omega⟩
 obtain⟨hI21,hI22⟩:=hI2
 refine W ?_
 refine⟨fun c2 c2p=>?_,fun c2 c2p=>?_⟩
 ·
  dsimp only at c2p
  refine W ?_
  intro b6
  refine Az (k+1) ?_ ?_ (.t5 43 0 1 41 42) (by rw [AD.Xo (by omega)];exact(.cons _ (.refl _)))
  · exact⟨by omega,by omega⟩
  · omega
 dsimp only at c2p
 obtain rfl:k=9:=by omega
 refine W ?_
 rfl
instance:DY Tryz.prog 33 (type_of% @K7):=⟨@K7⟩
theorem O3  : Gv Tryz.prog 8 #[] [] (fun v B=>∃(b:Nat) (V:AE) (ls:Vector Af 4) (ev:List Ing.Event),v = .pointer (some ⟨b,0,none⟩)∧AO V ls ev=AG.new∧B = [AJ.box b 95 (AE.enc V),AJ.CQ (BF 9 (AE.AQ V) ls),AJ.own (AE.last V) 100 16 ((ev).flatMap Ing.Event.enc)]):=by
 intro w hS0
 refine AU _ _ Tryz.func8 J J J (hS0) ?_
 refine W ?_
 intro b1
 intro w1 hS
 have hS:=(hS.perm (AK.perm (.c .h .n))).AM
 have h2:=(St.WU hS (l:=BF 9 Kq Kp) (fun r hr=>Tb 9 w1 r hr)).BX 100 16
 refine⟨_,⟨b1,⟨AD.new,Kq,0,⟨none,0,0⟩⟩,Kp,[],J,J,J⟩,h2.perm (Wm _ _ _)⟩
theorem BR {t0:Nat}(h:Hd)(xs:List AL)(hb:xs.length≤17592186044416):Cw Tryz.prog 78 #[h.val] [] (fun w=>Rd w h t0 1 (xs.flatMap Ac)) (fun v B=>∃ h':Hd,v=h'.val∧h'.len=xs.length∧B = [AJ.own h' 9 1 (xs.flatMap Ac)]):=by
 intro w hS0 hH
 have r0:=hH
 have hl:=r0.HQ Ct (by decide)
 refine AU _ _ Tryz.func78 J J J (hS0) ?_
 refine W ?_
 refine Gt (U6 Tryz.underlying56 J) ?_
 refine W ?_
 refine⟨fun c1 c1p=>?_,fun c1 c1p=>?_⟩
 ·
  refine W ?_
  intro w1 hS
  have hS:=(hS.perm (AK.perm .n)).AM
  have hx:xs = []:=by
    rcases xs with _ | ⟨x,xs⟩
    · rfl
    · exfalso
      obtain⟨b,o,C,fz,e1,_⟩:=r0.2 (by simp [Ac])
      rw [e1] at c1
      cases c1
  subst hx
  exact⟨_,⟨⟨none,0,0⟩,J,J,J⟩,hS.BX _ _⟩
 refine W ?_
 refine bS Ac J Tryz.underlying56 QJ (fun b1=>?_)
 refine W ?_
 refine HI (e:=Ac) J Tryz.underlying56 QJ fO J gz (by decide) J J (fun w hS=>Src.Gu Tryz.underlying56 ((Kn.IW r0) w hS)) J J (by omega) (fun _=> .h) (fun h1 h1l=>?_)
 refine W ?_
 intro w1 hS
 have hS:=(hS.perm (AK.perm (.c .h .n))).AM
 exact⟨_,⟨_,J,by omega,rfl⟩,hS⟩
theorem PG {t0:Nat}(l:BO)(qs:List AL)(hb:qs.length≤17592186044416):Cw Tryz.prog 108 #[.agg l.enc.toArray] [] (fun w=>Rd w l.queue t0 1 (qs.flatMap Ac)∧l.queue.len≤l.queue.cap) (fun v B=>(qs = []∧v = .tuple #[.agg l.enc.toArray,Ae [], .bool false]∧B = [])∨(∃ q r,qs=q :: r∧∃ h':Hd,v = .tuple #[.agg (BO.enc ⟨l.now,l.long,l.ret,h'⟩).toArray,Ae q, .bool true]∧h'.len=r.length∧B = [AJ.own h' 9 1 (r.flatMap Ac)])):=by
 intro w hS0 hH
 obtain⟨r0,k0⟩:=hH
 have hl0:=r0.HQ Ct (by decide)
 refine AU _ _ Tryz.func108 J J J (hS0) ?_
 refine W ?_
 intro b1 b2
 refine⟨fun c1 c1p=>?_,fun c1 c1p=>?_⟩
 ·
  have hq:qs = []:=List.length_eq_zero_iff.1 (by omega)
  refine W ?_
  intro w1 hS
  have hS:=(hS.perm (AK.perm .n)).AM
  exact⟨_, .inl ⟨hq,J,J⟩,hS⟩
 obtain⟨q,r,rfl⟩:=Aa.Nx (qs:=qs) (by omega)
 rw [List.length_cons] at hl0 hb
 refine W ?_
 refine Gt (OO Tryz.underlying56 QJ J J (by decide) (by omega)) ?_
 refine W ?_
 refine Cm .n (BR _ r (by omega)) (fun v2 B hv=>?_) (fun _=>(fun w hS=>by have h:=(Kn.cut (l:=1) (r:=l.queue.len) Ct (Kn.IW r0) (by omega) (Nat.le_refl _) (U1.of k0)) w hS;rw [show(((q :: r).take l.queue.len).drop 1)=r from by rw [List.take_of_length_le (by simp;omega)];rfl] at h;exact h))
 obtain⟨y3,rfl,y4,rfl⟩:=hv
 refine W ?_
 intro w1 hS
 have hS:=(hS.perm (AK.perm (.c .h .n))).AM
 exact⟨_, .inr ⟨q,r,J,_,J,by assumption,rfl⟩,hS⟩
theorem Jl (p:A7)(w:World):Ck Tryz.prog 109 #[.agg p.enc.toArray] w fun v w'=>v = .agg (A7.enc ⟨p.wait,0,false,p.ring,p.cut⟩).toArray∧BG w w':=by
 refine Rb Tryz.func109 ?_
 refine W ?_
 intro b1 b2
 rfl
instance:DY Tryz.prog 109 (type_of% @Jl):=⟨@Jl⟩
theorem EZ (s:AL)(c:UInt8)(hs:s.length≤10000000)(w:World):Ck Tryz.prog 144 #[Ae s, .int .u8 (c.toNat:Int)] w fun v w'=>v=Ae (Words.Dy c s)∧BG w w':=by
 refine Rb Tryz.func144 ?_
 refine W ?_
 refine Ag (.t2 0 1) ?_
 refine A8 (fun(r:AL)=>Words.Dy c s=Words.Dy c r∧r.length≤s.length) (fun(r:AL)=>r.length) (fun(r:AL)=> [(0,Ae r)]) (fun(r:AL)=> []) (s) ?_ J J (fun r hI1=>?_)
 · exact⟨J,Nat.le_refl _⟩
 obtain⟨hI11,hI12⟩:=hI1
 refine W ?_
 refine⟨fun c1 c1p=>?_,fun c1 c1p=>?_⟩
 ·
  have hlt:0 < r.length:=by simp at c1;omega
  refine W ?_
  refine Az _ ?_ ?_ (.t2 0 1) (.refl _)
  · exact⟨by rw [hI11,Words.ax c1]<;>rfl,by first | (simp;done) | (simp;omega)⟩
  · first | (simp;done) | (simp;omega)
 refine W ?_
 rw [hI11,Words.aw c1];rfl
instance:DY Tryz.prog 144 (type_of% @EZ):=⟨@EZ⟩
theorem El (s:AL)(c:UInt8)(hs:s.length≤10000000)(w:World):Ck Tryz.prog 143 #[Ae s, .int .u8 (c.toNat:Int)] w fun v w'=>v=Ae (Words.DG c s)∧BG w w':=by
 refine Rb Tryz.func143 ?_
 refine W ?_
 refine Ag (.t2 0 1) ?_
 refine A8 (fun(r:AL)=>Words.DG c s=Words.DG c r∧r.length≤s.length) (fun(r:AL)=>r.length) (fun(r:AL)=> [(0,Ae r)]) (fun(r:AL)=> []) (s) ?_ J J (fun r hI1=>?_)
 · exact⟨J,Nat.le_refl _⟩
 obtain⟨hI11,hI12⟩:=hI1
 refine W ?_
 refine⟨fun c1 c1p=>?_,fun c1 c1p=>?_⟩
 ·
  have hlt:0 < r.length:=by simp at c1;omega
  refine W ?_
  refine Az _ ?_ ?_ (.t2 0 1) (.refl _)
  · exact⟨by rw [hI11,Words.Wz c1]<;>rfl,by first | (simp;done) | (simp;omega)⟩
  · first | (simp;done) | (simp;omega)
 refine W ?_
 rw [hI11,Words.Wy c1];rfl
instance:DY Tryz.prog 143 (type_of% @El):=⟨@El⟩
theorem ID (s:AL)(hs:s.length≤10000000)(w:World):Ck Tryz.prog 111 #[Ae s,Ae [32]] w fun v w'=>v=Ae (Words.DG 32 (Words.Dy 32 s))∧BG w w':=by
 refine Rb Tryz.func111 ?_
 refine W ?_
 refine⟨fun c1 c1p=>?_,fun c1 c1p=>?_⟩
 ·
  refine W ?_
  have e:s = []:=by simpa using c1
  subst e;rfl
 try have:=Words.OC (([32]:AL).getD (Int.toNat 0) 0) s
 refine W ?_
 rfl
instance:DY Tryz.prog 111 (type_of% @ID):=⟨@ID⟩
theorem G0 (X:AD)(i:Int)(h0:0≤i)(h9:i < 9)(w:World):Ck Tryz.prog 151 #[.agg X.enc.toArray, .int .i64 i] w fun v w'=>v = .bool (X.Bs i)∧BG w w':=by
 refine Rb Tryz.func151 ?_
 refine W ?_
 intro b1 b2
 refine⟨fun c1 c1p=>?_,fun c1 c1p=>?_⟩
 ·
  refine W ?_
  refine congrArg Value.bool ?_;simp only [AD.Bs,c1,↓reduceIte,Bool.false_eq_true]
 refine W ?_
 refine⟨fun c2 c2p=>?_,fun c2 c2p=>?_⟩
 ·
  refine W ?_
  refine congrArg Value.bool ?_;simp only [AD.Bs,c1,c2,↓reduceIte,Bool.false_eq_true]
 refine W ?_
 refine⟨fun c3 c3p=>?_,fun c3 c3p=>?_⟩
 ·
  refine W ?_
  refine congrArg Value.bool ?_;simp only [AD.Bs,c1,c2,c3,↓reduceIte,Bool.false_eq_true]
 refine W ?_
 refine⟨fun c4 c4p=>?_,fun c4 c4p=>?_⟩
 ·
  refine W ?_
  refine⟨fun c5 c5p=>?_,fun c5 c5p=>?_⟩
  ·
   refine W ?_
   refine congrArg Value.bool ?_;simp only [AD.Bs,c1,c2,c3,c4,c5,↓reduceIte,Bool.false_eq_true]
  refine W ?_
  refine Ag (.t3 82 2 5) ?_
  refine Ca (fun(k:Int) (t:A9)=>0≤k∧k≤10∧X.Bs i=X.Hr (10 - k).toNat t) (fun(k:Int) (t:A9)=>(10 - k).toNat) (fun(k:Int) (t:A9)=> [(82, .int .i64 k)]) (fun(k:Int) (t:A9)=> [AJ.box b2 46 (A9.enc t)]) (0) (X.AH.at i) ?_ J J (fun k t hI1=>?_)
  · refine⟨Int.le_refl _,by omega,?_⟩;simp only [AD.Bs,c1,c2,c3,c4,c5,↓reduceIte,Bool.false_eq_true];rfl
  obtain⟨hI11,hI12,hI13⟩:=hI1
  refine W ?_
  refine⟨fun c6 c6p=>?_,fun c6 c6p=>?_⟩
  ·
   rw [show(10 - k).toNat=(10 - (k+1)).toNat+1 from by omega,AD.Hr,show decide ((10 - (k+1)).toNat=0)=decide (k=9) from decide_eq_decide.2 ⟨by omega,by omega⟩] at hI13
   refine W ?_
   refine⟨fun c7 c7p=>?_,fun c7 c7p=>?_⟩
   ·
    refine W ?_
    refine congrArg Value.bool ?_;rw [hI13];simp only [c1,c2,c3,c4,c5,c6,c7,↓reduceIte,Bool.false_eq_true]
   refine W ?_
   refine⟨fun c8 c8p=>?_,fun c8 c8p=>?_⟩
   ·
    refine W ?_
    refine congrArg Value.bool ?_;rw [hI13];simp only [c1,c2,c3,c4,c5,c6,c7,c8,↓reduceIte,Bool.false_eq_true]
   refine W ?_
   refine BA (k+1) (X.AH.at t.at_) ?_ ?_ (.t3 82 2 5) (.refl _)
   · exact⟨by omega,by omega,by rw [hI13];simp only [c1,c2,c3,c4,c5,c6,c7,c8,↓reduceIte,Bool.false_eq_true]⟩
   · omega
  obtain rfl:k=10:=by omega
  refine W ?_
  refine congrArg Value.bool ?_;rw [hI13];rfl
 refine W ?_
 refine congrArg Value.bool ?_;simp only [AD.Bs,c1,c2,c3,c4,↓reduceIte,Bool.false_eq_true]
instance:DY Tryz.prog 151 (type_of% @G0):=⟨@G0⟩
theorem KC (X:AD)(w:World):Ck Tryz.prog 113 #[.agg X.enc.toArray] w fun v w'=>v = .bool X.A3∧BG w w':=by
 refine Rb Tryz.func113 ?_
 refine W ?_
 intro b1
 refine Ag (.t3 12 1 11) ?_
 refine A8 (fun(k:Int)=>0≤k∧k≤6∧X.A3=(A2 6 X.Im (6 - k).toNat && (A2 6 (fun k=>!AD.Cb (X.AF.at k)) 6 && A2 9 X.Bs 9))) (fun(k:Int)=>(6 - k).toNat) (fun(k:Int)=> [(12, .int .i64 k)]) (fun(k:Int)=> []) (0) ?_ J J (fun k hI1=>?_)
 · exact⟨Int.le_refl _,by omega,rfl⟩
 obtain⟨hI11,hI12,hI13⟩:=hI1
 refine W ?_
 refine⟨fun c1 c1p=>?_,fun c1 c1p=>?_⟩
 ·
  rw [Bj _ (by omega)] at hI13
  refine W ?_
  intro b2
  refine Ag (.t6 17 1 4 11 12 16) ?_
  refine A8 (fun(d:Int)=>0≤d∧d≤6∧X.Im k=A2 6 (fun d=>!AD.F7 (X.Ad.at k) d) (6 - d).toNat) (fun(d:Int)=>(6 - d).toNat) (fun(d:Int)=> [(17, .int .i64 d)]) (fun(d:Int)=> []) (0) ?_ J J (fun d hI2=>?_)
  · exact⟨Int.le_refl _,by omega,rfl⟩
  obtain⟨hI21,hI22,hI23⟩:=hI2
  refine W ?_
  refine⟨fun c2 c2p=>?_,fun c2 c2p=>?_⟩
  ·
   rw [Bj _ (by omega)] at hI23
   refine W ?_
   refine⟨fun c3 c3p=>?_,fun c3 c3p=>?_⟩
   ·
    refine W ?_
    refine congrArg Value.bool ?_;rw [hI13,hI23,AD.F7,c3];rfl
   refine W ?_
   refine Az (d+1) ?_ ?_ (.t6 17 1 4 11 12 16) (.refl _)
   · exact⟨by omega,by omega,by rw [hI23,AD.F7,c3];rfl⟩
   · omega
  obtain rfl:d=6:=by omega
  refine W ?_
  refine Az (k+1) ?_ ?_ (.t3 12 1 11) (.cons _ (.refl _))
  · exact⟨by omega,by omega,by rw [hI13,hI23];rfl⟩
  · omega
 obtain rfl:k=6:=by omega
 refine W ?_
 refine Ag (.t3 41 1 40) ?_
 refine A8 (fun(b:Int)=>0≤b∧b≤6∧X.A3=(A2 6 (fun k=>!AD.Cb (X.AF.at k)) (6 - b).toNat && A2 9 X.Bs 9)) (fun(b:Int)=>(6 - b).toNat) (fun(b:Int)=> [(41, .int .i64 b)]) (fun(b:Int)=> []) (0) ?_ J J (fun b hI3=>?_)
 · exact⟨Int.le_refl _,by omega,hI13⟩
 obtain⟨hI31,hI32,hI33⟩:=hI3
 refine W ?_
 refine⟨fun c4 c4p=>?_,fun c4 c4p=>?_⟩
 ·
  rw [Bj _ (by omega)] at hI33
  refine W ?_
  intro b3
  refine⟨fun c5 c5p=>?_,fun c5 c5p=>?_⟩
  ·
   refine W ?_
   refine congrArg Value.bool ?_;rw [hI33,AD.Cb,c5];rfl
  refine W ?_
  refine Az (b+1) ?_ ?_ (.t3 41 1 40) (.cons _ (.refl _))
  · exact⟨by omega,by omega,by rw [hI33,AD.Cb,c5];rfl⟩
  · omega
 obtain rfl:b=6:=by omega
 refine W ?_
 refine Ag (.t2 91 1) ?_
 refine A8 (fun(t:Int)=>0≤t∧t≤9∧X.A3=A2 9 X.Bs (9 - t).toNat) (fun(t:Int)=>(9 - t).toNat) (fun(t:Int)=> [(91, .int .i64 t)]) (fun(t:Int)=> []) (0) ?_ J J (fun t hI4=>?_)
 · exact⟨Int.le_refl _,by omega,hI33⟩
 obtain⟨hI41,hI42,hI43⟩:=hI4
 refine W ?_
 refine⟨fun c6 c6p=>?_,fun c6 c6p=>?_⟩
 ·
  rw [Bj _ (by omega)] at hI43
  refine W ?_
  refine⟨fun c7 c7p=>?_,fun c7 c7p=>?_⟩
  ·
   refine W ?_
   refine congrArg Value.bool ?_;rw [hI43,show X.Bs t=false by simpa using c7];rfl
  refine W ?_
  refine Az (t+1) ?_ ?_ (.t2 91 1) (.refl _)
  · exact⟨by omega,by omega,by rw [hI43,show X.Bs t=true by simpa using c7];rfl⟩
  · omega
 obtain rfl:t=9:=by omega
 refine W ?_
 refine congrArg Value.bool ?_;rw [hI43];rfl
instance:DY Tryz.prog 113 (type_of% @KC):=⟨@KC⟩
theorem Iz (s:AL)(hs:s.length≤140737488351232)(w:World):Ck Tryz.prog 176 #[Ae s] w fun v w'=>v = .bool (AA.GB s)∧BG w w':=by
 refine Rb Tryz.func176 ?_
 refine W ?_
 refine Ag (.t3 6 0 5) ?_
 refine A8 (fun(k:Int)=>0≤k∧k≤(s.length:Int)∧AA.Gj s 0=AA.Gj s k.toNat) (fun(k:Int)=>((s.length:Int) - k).toNat) (fun(k:Int)=> [(6, .int .i64 k)]) (fun(k:Int)=> []) (0) ?_ J J (fun k hI1=>?_)
 · exact⟨by omega,by omega,rfl⟩
 obtain⟨hI11,hI12,hI13⟩:=hI1
 refine W ?_
 refine⟨fun c1 c1p=>?_,fun c1 c1p=>?_⟩
 ·
  have hst:=AA.Qt (s:=s) hI11 (by omega)
  refine W ?_
  refine⟨fun c2 c2p=>?_,fun c2 c2p=>?_⟩
  ·
   rw [show AA.low (s.getD k.toNat 0)=true from c2] at hst
   refine W ?_
   exact congrArg Value.bool (by rw [AA.GB,hI13,hst];rfl)
  rw [show AA.low (s.getD k.toNat 0)=false from c2] at hst
  refine W ?_
  refine Az (k+1) ?_ ?_ (.t3 6 0 5) (.refl _)
  · exact⟨by omega,by omega,by rw [hI13,hst];rfl⟩
  · omega
 obtain rfl:k=(s.length:Int):=by omega
 rw [AA.Tq] at hI13
 refine W ?_
 exact congrArg Value.bool (by rw [AA.GB,hI13];simp only [Bool.true_and];rfl)
instance:DY Tryz.prog 176 (type_of% @Iz):=⟨@Iz⟩
theorem I0 (X:AD)(b:Int)(w:World):Ck Tryz.prog 192 #[.agg X.enc.toArray, .int .i64 b] w fun v w'=>v = .bool (X.AV b)∧BG w w':=by
 refine Rb Tryz.func192 ?_
 refine W ?_
 intro b1
 rfl
instance:DY Tryz.prog 192 (type_of% @I0):=⟨@I0⟩
theorem KD (X:AD)(i:Int)(w:World):Ck Tryz.prog 191 #[.agg X.enc.toArray, .int .i64 i] w fun v w'=>v = .tuple #[.int .i64 (X.room i).1, .bool (X.room i).2]∧BG w w':=by
 refine Rb Tryz.func191 ?_
 refine W ?_
 intro b1
 refine Ag (.t4 1 6 8 2) ?_
 refine Bq (fun(k:Int) (j:Int) (o:Bool)=>0≤k∧k≤10∧X.room i=X.Hc (10 - k).toNat j o) (fun(k:Int) (j:Int) (o:Bool)=>(10 - k).toNat) (fun(k:Int) (j:Int) (o:Bool)=> [(1, .int .i64 j),(6, .bool o),(8, .int .i64 k)]) (fun(k:Int) (j:Int) (o:Bool)=> []) (0) (i) (true) ?_ J J (fun k j o hI1=>?_)
 · exact⟨Int.le_refl _,by omega,rfl⟩
 obtain⟨hI11,hI12,hI13⟩:=hI1
 refine W ?_
 refine⟨fun c1 c1p=>?_,fun c1 c1p=>?_⟩
 ·
  rw [show(10 - k).toNat=(10 - (k+1)).toNat+1 from by omega,AD.Hc] at hI13
  refine W ?_
  refine⟨fun c2 c2p=>?_,fun c2 c2p=>?_⟩
  ·
   refine W ?_
   rw [hI13];simp only [c1,c2,↓reduceIte,Bool.false_eq_true];rfl
  refine W ?_
  intro b2
  refine⟨fun c3 c3p=>?_,fun c3 c3p=>?_⟩
  ·
   refine W ?_
   rw [hI13];simp only [c1,c2,c3,↓reduceIte,Bool.false_eq_true];rfl
  refine W ?_
  refine⟨fun c4 c4p=>?_,fun c4 c4p=>?_⟩
  ·
   refine W ?_
   refine⟨fun c5 c5p=>?_,fun c5 c5p=>?_⟩
   ·
    refine W ?_
    rw [hI13];simp only [c1,c2,c3,c4,c5,↓reduceIte,Bool.false_eq_true];rfl
   refine W ?_
   rw [hI13];simp only [c1,c2,c3,c4,c5,↓reduceIte,Bool.false_eq_true];rfl
  refine W ?_
  refine⟨fun c6 c6p=>?_,fun c6 c6p=>?_⟩
  ·
   refine W ?_
   refine⟨fun c7 c7p=>?_,fun c7 c7p=>?_⟩
   ·
    refine W ?_
    refine Ap (k+1) ((X.AH.at j).at_) (false) ?_ ?_ (.t4 1 6 8 2) (.cons _ (.refl _))
    · exact⟨by omega,by omega,by rw [hI13];simp only [c1,c2,c3,c4,c6,c7,↓reduceIte,Bool.false_eq_true]⟩
    · omega
   refine W ?_
   refine Ap (k+1) ((X.AH.at j).at_) (o) ?_ ?_ (.t4 1 6 8 2) (.cons _ (.refl _))
   · exact⟨by omega,by omega,by rw [hI13];simp only [c1,c2,c3,c4,c6,c7,↓reduceIte,Bool.false_eq_true]⟩
   · omega
  refine W ?_
  rw [hI13];simp only [c1,c2,c3,c4,c6,↓reduceIte,Bool.false_eq_true];rfl
 obtain rfl:k=10:=by omega
 refine W ?_
 rw [hI13];rfl
instance:DY Tryz.prog 191 (type_of% @KD):=⟨@KD⟩
theorem IB (X:AD)(r:Int)(w:World):Ck Tryz.prog 161 #[.agg X.enc.toArray, .int .i64 r] w fun v w'=>v = .bool (X.EE r)∧BG w w':=by
 refine Rb Tryz.func161 ?_
 refine W ?_
 intro b1
 refine⟨fun c1 c1p=>?_,fun c1 c1p=>?_⟩
 ·
  refine W ?_
  refine congrArg Value.bool ?_;rw [show X.EE r=_ from AN c1]
 have hr:0≤r∧r < 6:=by simp at c1;omega
 refine W ?_
 refine⟨fun c2 c2p=>?_,fun c2 c2p=>?_⟩
 ·
  refine W ?_
  refine congrArg Value.bool ?_;rw [show X.EE r=_ from(AB c1).trans (AN c2)]
 refine W ?_
 refine Ag (.t4 23 1 2 22) ?_
 refine A8 (fun(k:Int)=>0≤k∧k≤9∧A2 9 (fun i=>!X.lit r i) 9=A2 9 (fun i=>!X.lit r i) (9 - k).toNat) (fun(k:Int)=>(9 - k).toNat) (fun(k:Int)=> [(23, .int .i64 k)]) (fun(k:Int)=> []) (0) ?_ J J (fun k hI1=>?_)
 · exact⟨by omega,by omega,rfl⟩
 obtain⟨hI11,hI12,hI13⟩:=hI1
 refine W ?_
 refine⟨fun c3 c3p=>?_,fun c3 c3p=>?_⟩
 ·
  rw [Bj _ (by omega)] at hI13
  refine W ?_
  intro b2
  refine⟨fun c4 c4p=>?_,fun c4 c4p=>?_⟩
  ·
   refine W ?_
   refine Az (k+1) ?_ ?_ (.t4 23 1 2 22) (.cons _ (.refl _))
   · exact⟨by omega,by omega,by rw [hI13,show X.lit r k=false from by rw [AD.lit,c4];first | rfl | exact Bool.and_false _];rfl⟩
   · omega
  refine W ?_
  refine⟨fun c5 c5p=>?_,fun c5 c5p=>?_⟩
  ·
   refine W ?_
   refine congrArg Value.bool ?_;rw [show X.EE r=_ from(AB c1).trans (AB c2),hI13,show X.lit r k=true from by rw [AD.lit,c4,c5];rfl];rfl
  refine W ?_
  refine Az (k+1) ?_ ?_ (.t4 23 1 2 22) (.cons _ (.refl _))
  · exact⟨by omega,by omega,by rw [hI13,show X.lit r k=false from by rw [AD.lit,c5];first | rfl | exact Bool.and_false _];rfl⟩
  · omega
 obtain rfl:k=9:=by omega
 refine W ?_
 refine congrArg Value.bool ?_;rw [show X.EE r=_ from(AB c1).trans (AB c2),hI13];rfl
instance:DY Tryz.prog 161 (type_of% @IB):=⟨@IB⟩
theorem IC (X:AD)(b:Int)(w:World):Ck Tryz.prog 193 #[.agg X.enc.toArray, .int .i64 b] w fun v w'=>v = .bool (X.hidden b)∧BG w w':=by
 refine Rb Tryz.func193 ?_
 refine W ?_
 intro b1
 refine Ag (.t3 9 1 8) ?_
 refine A8 (fun(k:Int)=>0≤k∧k≤9∧A2 9 (fun i=>!X.FN b i) 9=A2 9 (fun i=>!X.FN b i) (9 - k).toNat) (fun(k:Int)=>(9 - k).toNat) (fun(k:Int)=> [(9, .int .i64 k)]) (fun(k:Int)=> []) (0) ?_ J J (fun k hI1=>?_)
 · exact⟨by omega,by omega,rfl⟩
 obtain⟨hI11,hI12,hI13⟩:=hI1
 refine W ?_
 refine⟨fun c1 c1p=>?_,fun c1 c1p=>?_⟩
 ·
  rw [Bj _ (by omega)] at hI13
  refine W ?_
  intro b2
  refine⟨fun c2 c2p=>?_,fun c2 c2p=>?_⟩
  ·
   refine W ?_
   refine congrArg Value.bool ?_;rw [AD.hidden,hI13,show X.FN b k=true from c2];rfl
  refine W ?_
  refine Az (k+1) ?_ ?_ (.t3 9 1 8) (.cons _ (.refl _))
  · exact⟨by omega,by omega,by rw [hI13,show X.FN b k=false from c2];rfl⟩
  · omega
 obtain rfl:k=9:=by omega
 refine W ?_
 refine congrArg Value.bool ?_;rw [AD.hidden,hI13];rfl
instance:DY Tryz.prog 193 (type_of% @IC):=⟨@IC⟩
theorem Jq (X:AD)(a b:Int)(w:World):Ck Tryz.prog 162 #[.agg X.enc.toArray, .int .i64 a, .int .i64 b] w fun v w'=>v = .bool (X.EI a b)∧BG w w':=by
 refine Rb Tryz.func162 ?_
 refine W ?_
 intro b1
 refine⟨fun c1 c1p=>?_,fun c1 c1p=>?_⟩
 ·
  refine W ?_
  refine congrArg Value.bool ?_;rw [show X.EI a b=_ from(AN c1)]
 have hr:(0≤a∧a < 6)∧0≤b∧b < 6:=by simp at c1;have h1:=AD.Fu c1.1;have h2:=AD.Fu c1.2;omega
 refine W ?_
 refine⟨fun c2 c2p=>?_,fun c2 c2p=>?_⟩
 ·
  refine W ?_
  refine congrArg Value.bool ?_;rw [show X.EI a b=_ from((AB c1).trans (AN c2))]
 refine W ?_
 refine Et 8 9 J J (by kernel_rfl) ?_ ?_
 ·
  refine W ?_
  intro b2 b3
  refine congrArg Value.bool ?_;rw [show X.EI a b=_ from((AB c1).trans (AB c2))]
 ·
  refine W ?_
  intro b4 b5
  refine congrArg Value.bool ?_;rw [show X.EI a b=_ from((AB c1).trans (AB c2))]
instance:DY Tryz.prog 162 (type_of% @Jq):=⟨@Jq⟩
theorem Js (k:Int)(w:World):Ck Tryz.prog 212 #[.int .i64 k] w fun v w'=>v = .bool (AD.cZ k)∧BG w w':=by
 refine Rb Tryz.func212 ?_
 refine W ?_
 rfl
instance:DY Tryz.prog 212 (type_of% @Js):=⟨@Js⟩
theorem Ga (X:AD)(b:Int)(e:Ing.Event)(w:World):Ck Tryz.prog 189 #[.agg X.enc.toArray, .int .i64 b, .agg e.enc.toArray] w fun v w'=>v = .int .i64 (X.Cd b e)∧BG w w':=by
 refine Rb Tryz.func189 ?_
 refine W ?_
 intro b1 b2
 refine⟨fun c1 c1p=>?_,fun c1 c1p=>?_⟩
 ·
  refine W ?_
  rw [show X.Cd b e=_ from(AN c1)];rfl
 have hr:0≤b∧b < 6:=by simp at c1;have h1:=AD.Fu c1;omega
 refine W ?_
 refine⟨fun c2 c2p=>?_,fun c2 c2p=>?_⟩
 ·
  refine W ?_
  refine⟨fun c3 c3p=>?_,fun c3 c3p=>?_⟩
  ·
   refine W ?_
   rw [show X.Cd b e=_ from((AB c1).trans ((AN c2).trans (AN c3)))];rfl
  refine W ?_
  rw [show X.Cd b e=_ from((AB c1).trans ((AN c2).trans (AB c3)))];rfl
 refine W ?_
 refine⟨fun c4 c4p=>?_,fun c4 c4p=>?_⟩
 ·
  refine W ?_
  rw [show X.Cd b e=_ from((AB c1).trans ((AB c2).trans (AN c4)))];rfl
 refine W ?_
 refine⟨fun c5 c5p=>?_,fun c5 c5p=>?_⟩
 ·
  refine W ?_
  refine⟨fun c6 c6p=>?_,fun c6 c6p=>?_⟩
  ·
   refine W ?_
   rw [show X.Cd b e=_ from((AB c1).trans ((AB c2).trans ((AB c4).trans ((AN c5).trans (AN c6)))))];rfl
  refine W ?_
  refine⟨fun c7 c7p=>?_,fun c7 c7p=>?_⟩
  ·
   refine W ?_
   rw [show X.Cd b e=_ from((AB c1).trans ((AB c2).trans ((AB c4).trans ((AN c5).trans ((AB c6).trans (AN c7))))))];rfl
  refine W ?_
  rw [show X.Cd b e=_ from((AB c1).trans ((AB c2).trans ((AB c4).trans ((AN c5).trans ((AB c6).trans (AB c7))))))];rfl
 refine W ?_
 refine⟨fun c8 c8p=>?_,fun c8 c8p=>?_⟩
 ·
  refine W ?_
  rw [show X.Cd b e=_ from((AB c1).trans ((AB c2).trans ((AB c4).trans ((AB c5).trans (AN c8)))))];rfl
 refine W ?_
 rw [show X.Cd b e=_ from((AB c1).trans ((AB c2).trans ((AB c4).trans ((AB c5).trans (AB c8)))))];rfl
instance:DY Tryz.prog 189 (type_of% @Ga):=⟨@Ga⟩
theorem KQ (X:AD)(e:Ing.Event)(w:World):Ck Tryz.prog 152 #[.agg X.enc.toArray, .agg e.enc.toArray] w fun v w'=>v = .agg (X.GK e 6).enc.toArray∧BG w w':=by
 refine Rb Tryz.func152 ?_
 refine W ?_
 intro b1 b2 b3
 refine Ag (.t4 6 2 3 4) ?_
 refine AX (.t .h) ?_
 refine A8 (fun(k:Int)=>0≤k∧k≤6) (fun(k:Int)=>(6 - k).toNat) (fun(k:Int)=> [(6, .int .i64 k)]) (fun(k:Int)=> [AJ.box b2 100 (Ing.Event.enc (X.GK e k.toNat))]) (0) ?_ J J (fun k hI1=>?_)
 · exact⟨Int.le_refl _,by omega⟩
 obtain⟨hI11,hI12⟩:=hI1
 refine W ?_
 refine⟨fun c1 c1p=>?_,fun c1 c1p=>?_⟩
 ·
  try dsimp only at c1p
  refine W ?_
  refine Az (k+1) ?_ ?_ (.t4 6 2 3 4) (by rw [AD.QT (by omega)];exact(.refl _))
  · exact⟨by omega,by omega⟩
  · omega
 try dsimp only at c1p
 obtain rfl:k=6:=by omega
 refine W ?_
 rfl
instance:DY Tryz.prog 152 (type_of% @KQ):=⟨@KQ⟩
theorem Bt (b:Nat)(T:AA)(g:Hd)(e:Ing.Event)(hg:g.len=T.out.length)(hb:0≤T.b∧T.b < 6)(ho:e.other < 6)(hn:T.out.length≤100000):Gv Tryz.prog 114 #[.pointer (some ⟨b,0,none⟩), .agg e.enc.toArray] [AJ.box b 175 (AZ.enc ⟨T.w,T.b,g⟩),AJ.own g 100 16 (T.out.flatMap Ing.Event.enc)] (fun v B=>∃ g':Hd,v = .tuple #[]∧g'.len=(T.Al e).out.length∧B = [AJ.box b 175 (AZ.enc ⟨(T.Al e).w,(T.Al e).b,g'⟩),AJ.own g' 100 16 ((T.Al e).out.flatMap Ing.Event.enc)]):=by
 intro w hS0
 refine AU _ _ Tryz.func114 J J J (hS0) ?_
 refine W ?_
 intro b1 b2
 refine⟨fun c1 c1p=>?_,fun c1 c1p=>?_⟩
 ·
  refine W ?_
  intro b3 h1 h1l h1z
  intro w1 hS
  have hS:=(hS.perm (AK.perm (.c (.t (.t (.t .h))) (.c (.t (.t (.t .h))) .n)))).AM
  refine⟨_,⟨?gqTrue,J,?g9lTrue,?g9BTrue⟩,hS⟩
  case g9BTrue=>rw [AA.Al,show T.DR e=_ from AN c1];rfl
  case g9lTrue=>simp only [AA.BE];(try dsimp only at *);omega
 refine W ?_
 intro b4 h2 h2l h2z
 intro w1 hS
 have hS:=(hS.perm (AK.perm (.c (.t (.t (.t .h))) (.c (.t (.t (.t .h))) .n)))).AM
 refine⟨_,⟨?gqFalse,J,?g9lFalse,?g9BFalse⟩,hS⟩
 case g9BFalse=>rw [AA.Al,show T.DR e=_ from AB c1];rfl
 case g9lFalse=>simp only [AA.BE];(try dsimp only at *);omega
theorem GF (b:Nat)(T:AA)(g:Hd)(k:Int)(hg:g.len=T.out.length)(hb:0≤T.b∧T.b < 6)(hn:T.out.length≤100000):Gv Tryz.prog 153 #[.pointer (some ⟨b,0,none⟩), .int .i64 k] [AJ.box b 175 (AZ.enc ⟨T.w,T.b,g⟩),AJ.own g 100 16 (T.out.flatMap Ing.Event.enc)] (fun v B=>∃ g':Hd,v = .tuple #[]∧g'.len=(T.kind k).out.length∧B = [AJ.box b 175 (AZ.enc ⟨(T.kind k).w,(T.kind k).b,g'⟩),AJ.own g' 100 16 ((T.kind k).out.flatMap Ing.Event.enc)]):=by
 intro w hS0
 refine AU _ _ Tryz.func153 J J J (hS0) ?_
 refine W ?_
 refine Cl (.c .h (.c .h .n)) (Bt _ _ _ (AA.Dn k) hg hb (show(-1:Int) < 6 by decide) hn) (fun v1 B hv=>?_)
 obtain⟨y2,rfl,y3,rfl⟩:=hv
 refine W ?_
 intro w1 hS
 have hS:=(hS.perm (AK.perm (.c .h (.c .h .n)))).AM
 exact⟨_,⟨_,J,by assumption,rfl⟩,hS⟩
theorem A5 (b:Nat)(T:AA)(g:Hd)(u:AL)(hg:g.len=T.out.length)(hb:0≤T.b∧T.b < 6)(hn:T.out.length≤100000):Gv Tryz.prog 159 #[.pointer (some ⟨b,0,none⟩),Ae u] [AJ.box b 175 (AZ.enc ⟨T.w,T.b,g⟩),AJ.own g 100 16 (T.out.flatMap Ing.Event.enc)] (fun v B=>∃ g':Hd,v = .tuple #[]∧g'.len=(T.tell u).out.length∧B = [AJ.box b 175 (AZ.enc ⟨(T.tell u).w,(T.tell u).b,g'⟩),AJ.own g' 100 16 ((T.tell u).out.flatMap Ing.Event.enc)]):=by
 intro w hS0
 refine AU _ _ Tryz.func159 J J J (hS0) ?_
 refine W ?_
 refine Cl (.c .h (.c .h .n)) (Bt _ _ _ { AA.Dn 16 with text:=u } hg hb (show(-1:Int) < 6 by decide) hn) (fun v1 B hv=>?_)
 obtain⟨y2,rfl,y3,rfl⟩:=hv
 refine W ?_
 intro w1 hS
 have hS:=(hS.perm (AK.perm (.c .h (.c .h .n)))).AM
 exact⟨_,⟨_,J,by assumption,rfl⟩,hS⟩
theorem IH (d:Int)(w:World)(gl0:GV 1 AD.Bf w):Ck Tryz.prog 156 #[.int .i64 d] w fun v w'=>v=Ae (AD.called d)∧BG w w':=by
 refine Rb Tryz.func156 ?_
 refine W ?_
 refine⟨fun c1 c1p=>?_,fun c1 c1p=>?_⟩
 ·
  refine W ?_
  rw [show AD.called d=_ from AN c1];rfl
 have hr:0≤d∧d < 6:=by simp at c1;omega
 refine W ?_
 refine Gt (Kd gl0 J SZ (AD.Gc hr.1 hr.2)) ?_
 refine W ?_
 rw [show AD.called d=_ from AB c1];rfl
instance:DY Tryz.prog 156 (type_of% @IH):=⟨@IH⟩
theorem Ev (X:AD)(BZ at_:Int):Gv Tryz.prog 125 #[.agg X.enc.toArray, .int .i64 BZ, .int .i64 at_] [] (fun v B=>∃ h':Hd,v=h'.val∧h'.len=(X.has BZ at_).length∧B = [AJ.own h' 3 1 ((X.has BZ at_).flatMap AT)]):=by
 intro w hS0
 refine AU _ _ Tryz.func125 J J J (hS0) ?_
 refine W ?_
 intro b1
 refine Ag (.t5 7 12 1 2 11) ?_
 refine CA AT 3 1 ?_
 refine Bq (fun(k:Int) (xs:List Int) (g:Hd)=>0≤k∧k≤9∧xs=X.LV BZ at_ k.toNat∧g.len=xs.length) (fun(k:Int) (xs:List Int) (g:Hd)=>(9 - k).toNat) (fun(k:Int) (xs:List Int) (g:Hd)=> [(7,g.val),(12, .int .i64 k)]) (fun(k:Int) (xs:List Int) (g:Hd)=> [AJ.own g 3 1 (xs.flatMap AT)]) (0) ([]) (_) ?_ J J (fun k xs g hI1=>?_)
 · exact⟨by omega,by omega,rfl,rfl⟩
 obtain⟨hI11,hI12,hI13,hI14⟩:=hI1
 refine W ?_
 refine⟨fun c1 c1p=>?_,fun c1 c1p=>?_⟩
 ·
  have hxl:=AD.Ov X BZ at_ k.toNat
  rw [← hI13] at hxl
  refine W ?_
  intro b2
  refine⟨fun c2 c2p=>?_,fun c2 c2p=>?_⟩
  ·
   refine W ?_
   intro b3 h1 h1l h1z
   refine Ap (k+1) _ _ ?_ ?_ (.t5 7 12 1 2 11) (.cons _ (.cons _ (.refl _)))
   · exact⟨by omega,by omega,by rw [AD.VW hI11 c2,← hI13],(by(try dsimp only at *)<;>(try simp only [List.length_append,List.length_cons,List.length_nil])<;>omega)⟩
   · omega
  refine W ?_
  refine Ap (k+1) _ _ ?_ ?_ (.t5 7 12 1 2 11) (.cons _ (.refl _))
  · exact⟨by omega,by omega,by rw [AD.VV hI11 c2,← hI13],(by(try dsimp only at *)<;>(try simp only [List.length_append,List.length_cons,List.length_nil])<;>omega)⟩
  · omega
 obtain rfl:k=9:=by omega
 refine W ?_
 intro w1 hS
 have hS:=(hS.perm (AK.perm (.c .h .n))).AM
 exact⟨_,⟨_,J,by rw [AD.Ow,← hI13];assumption,by rw [AD.Ow,← hI13]⟩,hS⟩
theorem MS (b:Nat)(T:AA)(g:Hd)(u:AL)(f:Hd)(l:List Int)(hg:g.len=T.out.length)(hb:0≤T.b∧T.b < 6)(hf:f.len=l.length)(hl:l.length≤9)(hi:∀ i∈l,0≤i∧i < 9)(hw:T.w.Co)(hu:u.length≤1000)(hn:T.out.length≤100000):Gv Tryz.prog 124 #[.pointer (some ⟨b,0,none⟩),Ae u,f.val] [AJ.box b 175 (AZ.enc ⟨T.w,T.b,g⟩),AJ.own g 100 16 (T.out.flatMap Ing.Event.enc),AJ.own f 3 1 (l.flatMap AT)] (fun v B=>∃ g':Hd,v = .tuple #[]∧g'.len=(T.list u l).out.length∧B = [AJ.box b 175 (AZ.enc ⟨(T.list u l).w,(T.list u l).b,g'⟩),AJ.own g' 100 16 ((T.list u l).out.flatMap Ing.Event.enc),AJ.own f 3 1 (l.flatMap AT)]):=by
 intro w hS0
 refine AU _ _ Tryz.func124 J J J (hS0) ?_
 refine W ?_
 refine Ag (.t6 1 10 0 2 8 9) ?_
 refine Ca (fun(k:Int) (x:AL)=>0≤k∧k≤(l.length:Int)∧AA.CY T.w u l=AA.CY T.w x (l.drop k.toNat)∧x.length≤1000+k.toNat * 140737488351300) (fun(k:Int) (x:AL)=>((l.length:Int) - k).toNat) (fun(k:Int) (x:AL)=> [(1,Ae x),(10, .int .i64 k)]) (fun(k:Int) (x:AL)=> []) (0) (u) ?_ J J (fun k x hI1=>?_)
 · exact⟨by omega,by omega,by simp,by simp;omega⟩
 obtain⟨hI11,hI12,hI13,hI14⟩:=hI1
 refine W ?_
 refine⟨fun c1 c1p=>?_,fun c1 c1p=>?_⟩
 ·
  have hx:=hi _ (Aa.CU (xs:=l) (i:=k.toNat) (by omega))
  have hnl:=hw.th (l.getD k.toNat 0)
  refine W ?_
  refine⟨fun c2 c2p=>?_,fun c2 c2p=>?_⟩
  ·
   refine W ?_
   refine BA (k+1) _ ?_ ?_ (.t6 1 10 0 2 8 9) (.refl _)
   · exact⟨by omega,by omega,by rw [hI13,AA.Wd hI11 (by omega) c2],by simp only [List.length_append,List.length_cons,List.length_nil];omega⟩
   · omega
  refine W ?_
  refine BA (k+1) _ ?_ ?_ (.t6 1 10 0 2 8 9) (.refl _)
  · exact⟨by omega,by omega,by rw [hI13,AA.Wc hI11 (by omega) c2],by simp only [List.length_append,List.length_cons,List.length_nil];omega⟩
  · omega
 obtain rfl:k=(l.length:Int):=by omega
 rw [show(l.length:Int).toNat=l.length by omega,List.drop_length] at hI13
 refine W ?_
 refine⟨fun c3 c3p=>?_,fun c3 c3p=>?_⟩
 ·
  rw [hf] at c3
  refine W ?_
  refine Cl (.c .h (.c .h .n)) (A5 _ _ _ _ hg hb hn) (fun v1 B hv=>?_)
  obtain⟨y2,rfl,y3,rfl⟩:=hv
  refine W ?_
  intro w1 hS
  have hS:=(hS.perm (AK.perm (.c .h (.c .h (.c .h .n))))).AM
  refine⟨_,⟨?gqTrue,J,?g9lTrue,?g9BTrue⟩,hS⟩
  case g9BTrue=>rw [AA.list,show AA.Qs T.w u l=_ from AN c3,hI13];rfl
  case g9lTrue=>(try simp only [AA.BQ] at *);rw [(AA.JR T u l).2.2];assumption
 rw [hf] at c3
 refine W ?_
 refine Cl (.c .h (.c .h .n)) (A5 _ _ _ _ hg hb hn) (fun v4 B hv=>?_)
 obtain⟨y5,rfl,y6,rfl⟩:=hv
 refine W ?_
 intro w1 hS
 have hS:=(hS.perm (AK.perm (.c .h (.c .h (.c .h .n))))).AM
 refine⟨_,⟨?gqFalse,J,?g9lFalse,?g9BFalse⟩,hS⟩
 case g9BFalse=>rw [AA.list,show AA.Qs T.w u l=_ from AB c3,hI13];rfl
 case g9lFalse=>(try simp only [AA.BQ] at *);rw [(AA.JR T u l).2.2];assumption
end Go.Proofs.YtlmmdjaoikaceaaGreatDoor
