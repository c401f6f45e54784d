/- What the functions that the law HousePlays reaches compute: walks, part 1. No condition. -/
import Derived.Test.YtlmmdjaoikaceaaGreatDoorCards
import Derived.Test.YtlmmdjaoikaceaaGreatDoorTie
import Derived.Deep.DeepHandedRow
import Derived.Test.YtlmmdjaoikaceaaGreatDoorRows
import Derived.Test.YtlmmdjaoikaceaaGreatDoorHousePlaysEc3
import Derived.Test.YtlmmdjaoikaceaaGreatDoorHousePlaysRa1
import Derived.Test.YtlmmdjaoikaceaaGreatDoorHousePlaysRb1
import Derived.Test.YtlmmdjaoikaceaaGreatDoorHousePlaysRc1
import Derived.Test.YtlmmdjaoikaceaaGreatDoorHousePlaysRd1
set_option linter.unusedSimpArgs false
set_option linter.unusedVariables false
set_option maxRecDepth 100000
set_option maxHeartbeats 4000000
namespace Go.Proofs.YtlmmdjaoikaceaaGreatDoor
open Go Go.Ing Go.RowKit Go.ChangeShapes Go.WideShapes Go.ChangeAt
instance:Fq Tryz.prog 3 (.int .i64):=⟨Tryz.underlying3⟩
instance:Fq Tryz.prog 4 .bool:=⟨Tryz.underlying4⟩
instance:Fq Tryz.prog 5 (.int .u8):=⟨Tryz.underlying5⟩
instance:Fq Tryz.prog 9 .string:=⟨Tryz.underlying9⟩
instance:Fq Tryz.prog 22 (.slice 28):=⟨Tryz.underlying22⟩
instance:Fq Tryz.prog 24 (.int .i64):=⟨Tryz.underlying24⟩
instance:Fq Tryz.prog 35 (.pointer 95):=⟨Tryz.underlying35⟩
instance:Fq Tryz.prog 38 (.slice 100):=⟨Tryz.underlying38⟩
instance:Fq Tryz.prog 40 (.array 6 3):=⟨Tryz.underlying40⟩
instance:Fq Tryz.prog 41 (.array 6 4):=⟨Tryz.underlying41⟩
instance:Fq Tryz.prog 44 (.array 6 43):=⟨Tryz.underlying44⟩
instance:Fq Tryz.prog 47 (.array 9 46):=⟨Tryz.underlying47⟩
instance:Fq Tryz.prog 50 (.array 6 49):=⟨Tryz.underlying50⟩
instance:Fq Tryz.prog 53 (.array 3 3):=⟨Tryz.underlying53⟩
instance:Fq Tryz.prog 56 (.slice 9):=⟨Tryz.underlying56⟩
instance:Fq Tryz.prog 63 (.array 4 62):=⟨Tryz.underlying63⟩
instance:Fq Tryz.prog 93 (.array 4 92):=⟨Tryz.underlying93⟩
instance:Fq Tryz.prog 117 (.slice 3):=⟨Tryz.underlying117⟩
instance:Fq Tryz.prog 122 (.slice 5):=⟨Tryz.underlying122⟩
instance:Fq Tryz.prog 129 (.slice 43):=⟨Tryz.underlying129⟩
instance:Fq Tryz.prog 130 (.slice 46):=⟨Tryz.underlying130⟩
instance:Fq Tryz.prog 131 (.array 2 3):=⟨Tryz.underlying131⟩
instance:Fq Tryz.prog 134 (.pointer 136):=⟨Tryz.underlying134⟩
instance:Fq Tryz.prog 153 (.array 21 9):=⟨Tryz.underlying153⟩
instance:Fq Tryz.prog 156 (.map 3 9):=⟨Tryz.underlying156⟩
instance:Fq Tryz.prog 171 (.map 3 3):=⟨Tryz.underlying171⟩
instance:Fq Tryz.prog 185 (.pointer 5):=⟨Tryz.underlying185⟩
instance:Fq Tryz.prog 192 (.map 3 4):=⟨Tryz.underlying192⟩
instance:Fq Tryz.prog 205 .unsafePointer:=⟨Tryz.underlying205⟩
instance:Oi Tryz.prog 3:=oi
instance:Oi Tryz.prog 4:=oi
instance:Oi Tryz.prog 5:=oi
instance:Oi Tryz.prog 9:=oi
instance:Oi Tryz.prog 24:=oi
instance:My Tryz.prog 28 4:=QV
instance:My Tryz.prog 32 2:=QV
instance:Oi Tryz.prog 38:=oi
instance:My Tryz.prog 40 6:=QV
instance:My Tryz.prog 41 6:=QV
instance:My Tryz.prog 43 14:=QV
instance:My Tryz.prog 44 84:=QV
instance:My Tryz.prog 46 5:=QV
instance:My Tryz.prog 47 45:=QV
instance:My Tryz.prog 49 6:=QV
instance:My Tryz.prog 50 36:=QV
instance:My Tryz.prog 52 165:=QV
instance:My Tryz.prog 53 3:=QV
instance:My Tryz.prog 55 10:=QV
instance:Oi Tryz.prog 56:=oi
instance:My Tryz.prog 58 4:=QV
instance:My Tryz.prog 60 5:=QV
instance:My Tryz.prog 62 22:=QV
instance:My Tryz.prog 63 88:=QV
instance:My Tryz.prog 92 22:=QV
instance:My Tryz.prog 93 88:=QV
instance:My Tryz.prog 100 16:=QV
instance:My Tryz.prog 108 6:=QV
instance:Oi Tryz.prog 122:=oi
instance:Oi Tryz.prog 134:=oi
instance:My Tryz.prog 153 21:=QV
instance:QS Tryz.prog 28 [(0,1),(1,1),(2,1),(3,1)]:=S4 Tryz.underlying28
instance:QS Tryz.prog 32 [(0,1),(1,1)]:=S4 Tryz.underlying32
instance:QS Tryz.prog 43 [(0,1),(1,1),(2,6),(8,6)]:=S4 Tryz.underlying43
instance:QS Tryz.prog 46 [(0,1),(1,1),(2,1),(3,1),(4,1)]:=S4 Tryz.underlying46
instance:QS Tryz.prog 49 [(0,1),(1,1),(2,1),(3,1),(4,1),(5,1)]:=S4 Tryz.underlying49
instance:QS Tryz.prog 52 [(0,84),(84,45),(129,36)]:=S4 Tryz.underlying52
instance:QS Tryz.prog 55 [(0,1),(1,1),(2,1),(3,3),(6,3),(9,1)]:=S4 Tryz.underlying55
instance:QS Tryz.prog 58 [(0,1),(1,1),(2,1),(3,1)]:=S4 Tryz.underlying58
instance:QS Tryz.prog 60 [(0,1),(1,1),(2,1),(3,1),(4,1)]:=S4 Tryz.underlying60
instance:QS Tryz.prog 62 [(0,1),(1,1),(2,10),(12,4),(16,5),(21,1)]:=S4 Tryz.underlying62
instance:QS Tryz.prog 65 [(0,165),(165,88),(253,1),(254,1)]:=S4 Tryz.underlying65
instance:QS Tryz.prog 92 [(0,1),(1,1),(2,10),(12,4),(16,5),(21,1)]:=S4 Tryz.underlying92
instance:QS Tryz.prog 95 [(0,165),(165,88),(253,1),(254,1)]:=S4 Tryz.underlying95
instance:QS Tryz.prog 100 [(0,1),(1,1),(2,1),(3,1),(4,1),(5,1),(6,1),(7,1),(8,1),(9,1),(10,6)]:=S4 Tryz.underlying100
instance:QS Tryz.prog 108 [(0,1),(1,1),(2,1),(3,1),(4,1),(5,1)]:=S4 Tryz.underlying108
instance:QS Tryz.prog 115 [(0,165),(165,1),(166,1)]:=S4 Tryz.underlying115
instance:QS Tryz.prog 136 [(0,1),(1,1)]:=S4 Tryz.underlying136
instance:QS Tryz.prog 175 [(0,165),(165,1),(166,1)]:=S4 Tryz.underlying175
instance:LH Tryz.prog 3 (.int .i64 0):=OC
instance:LH Tryz.prog 4 (.bool false):=OC
instance:LH Tryz.prog 5 (.int .u8 0):=OC
instance:LH Tryz.prog 9 (Ag []):=OC
instance:LH Tryz.prog 32 (.agg (Cg.enc (default:Cg)).toArray):=OC
instance:LH Tryz.prog 40 (.agg (BO (n:=6) AT (Vector.replicate 6 default)).toArray):=OC
instance:LH Tryz.prog 41 (.agg (BO (n:=6) B2 (Vector.replicate 6 default)).toArray):=OC
instance:LH Tryz.prog 43 (.agg (Room.enc (default:Room)).toArray):=OC
instance:LH Tryz.prog 46 (.agg (A3.enc (default:A3)).toArray):=OC
instance:LH Tryz.prog 47 (.agg (BO (n:=9) A3.enc (Vector.replicate 9 default)).toArray):=OC
instance:LH Tryz.prog 49 (.agg (A6.enc (default:A6)).toArray):=OC
instance:LH Tryz.prog 52 (.agg (AD.enc (default:AD)).toArray):=OC
instance:LH Tryz.prog 55 (.agg (AI.enc (default:AI)).toArray):=OC
instance:LH Tryz.prog 58 (.agg (BN.enc ⟨[],false,false,⟨none,0,0⟩⟩).toArray):=OC
instance:LH Tryz.prog 60 (.agg (A9.enc ⟨⟨none,0,0⟩,0,false,[],false⟩).toArray):=OC
instance:LH Tryz.prog 62 (.agg (A0.enc (default:A0)).toArray):=OC
instance:LH Tryz.prog 65 (.agg (AE.enc (default:AE)).toArray):=OC
instance:LH Tryz.prog 92 (.agg (A0.enc (default:A0)).toArray):=OC
instance:LH Tryz.prog 95 (.agg (AE.enc (default:AE)).toArray):=OC
instance:LH Tryz.prog 100 (.agg (Ing.Event.enc (default:Ing.Event)).toArray):=OC
instance:LH Tryz.prog 108 (.agg (Order.enc (default:Order)).toArray):=OC
instance:LH Tryz.prog 115 (.agg (Ab.enc (default:Ab)).toArray):=OC
instance:LH Tryz.prog 131 (.agg (BO (n:=2) AT (Vector.replicate 2 default)).toArray):=OC
instance:LH Tryz.prog 136 (.agg (D1.enc ⟨none,⟨none,0,0⟩⟩).toArray):=OC
instance:LH Tryz.prog 175 (.agg (Ab.enc (default:Ab)).toArray):=OC
instance:fu Tryz.prog 3 8:=jJ
instance:fu Tryz.prog 5 1:=jJ
instance:fu Tryz.prog 9 16:=jJ
instance:fu Tryz.prog 100 160:=jJ
instance:BM Tryz.prog 6:=⟨Tryz.call6⟩
instance:BM Tryz.prog 7:=⟨Tryz.call7⟩
instance:BM Tryz.prog 8:=⟨Tryz.call8⟩
instance:BM Tryz.prog 9:=⟨Tryz.call9⟩
instance:BM Tryz.prog 10:=⟨Tryz.call10⟩
instance:BM Tryz.prog 11:=⟨Tryz.call11⟩
instance:BM Tryz.prog 12:=⟨Tryz.call12⟩
instance:BM Tryz.prog 13:=⟨Tryz.call13⟩
instance:BM Tryz.prog 14:=⟨Tryz.call14⟩
instance:BM Tryz.prog 15:=⟨Tryz.call15⟩
instance:BM Tryz.prog 16:=⟨Tryz.call16⟩
instance:BM Tryz.prog 17:=⟨Tryz.call17⟩
instance:BM Tryz.prog 18:=⟨Tryz.call18⟩
instance:BM Tryz.prog 19:=⟨Tryz.call19⟩
instance:BM Tryz.prog 20:=⟨Tryz.call20⟩
instance:BM Tryz.prog 21:=⟨Tryz.call21⟩
instance:BM Tryz.prog 22:=⟨Tryz.call22⟩
instance:BM Tryz.prog 23:=⟨Tryz.call23⟩
instance:BM Tryz.prog 24:=⟨Tryz.call24⟩
instance:BM Tryz.prog 25:=⟨Tryz.call25⟩
instance:BM Tryz.prog 26:=⟨Tryz.call26⟩
instance:BM Tryz.prog 27:=⟨Tryz.call27⟩
instance:BM Tryz.prog 28:=⟨Tryz.call28⟩
instance:BM Tryz.prog 29:=⟨Tryz.call29⟩
instance:BM Tryz.prog 30:=⟨Tryz.call30⟩
instance:BM Tryz.prog 31:=⟨Tryz.call31⟩
instance:BM Tryz.prog 32:=⟨Tryz.call32⟩
instance:BM Tryz.prog 33:=⟨Tryz.call33⟩
instance:BM Tryz.prog 34:=⟨Tryz.call34⟩
instance:BM Tryz.prog 35:=⟨Tryz.call35⟩
instance:BM Tryz.prog 36:=⟨Tryz.call36⟩
instance:BM Tryz.prog 37:=⟨Tryz.call37⟩
instance:BM Tryz.prog 38:=⟨Tryz.call38⟩
instance:BM Tryz.prog 39:=⟨Tryz.call39⟩
instance:BM Tryz.prog 40:=⟨Tryz.call40⟩
instance:BM Tryz.prog 41:=⟨Tryz.call41⟩
instance:BM Tryz.prog 42:=⟨Tryz.call42⟩
instance:BM Tryz.prog 43:=⟨Tryz.call43⟩
instance:BM Tryz.prog 44:=⟨Tryz.call44⟩
instance:BM Tryz.prog 45:=⟨Tryz.call45⟩
instance:BM Tryz.prog 46:=⟨Tryz.call46⟩
instance:BM Tryz.prog 47:=⟨Tryz.call47⟩
instance:BM Tryz.prog 48:=⟨Tryz.call48⟩
instance:BM Tryz.prog 49:=⟨Tryz.call49⟩
instance:BM Tryz.prog 50:=⟨Tryz.call50⟩
instance:BM Tryz.prog 51:=⟨Tryz.call51⟩
instance:BM Tryz.prog 52:=⟨Tryz.call52⟩
instance:BM Tryz.prog 53:=⟨Tryz.call53⟩
instance:BM Tryz.prog 54:=⟨Tryz.call54⟩
instance:BM Tryz.prog 55:=⟨Tryz.call55⟩
instance:BM Tryz.prog 56:=⟨Tryz.call56⟩
instance:BM Tryz.prog 57:=⟨Tryz.call57⟩
instance:BM Tryz.prog 58:=⟨Tryz.call58⟩
instance:BM Tryz.prog 59:=⟨Tryz.call59⟩
instance:BM Tryz.prog 60:=⟨Tryz.call60⟩
instance:BM Tryz.prog 61:=⟨Tryz.call61⟩
instance:BM Tryz.prog 62:=⟨Tryz.call62⟩
instance:BM Tryz.prog 63:=⟨Tryz.call63⟩
instance:BM Tryz.prog 64:=⟨Tryz.call64⟩
instance:BM Tryz.prog 65:=⟨Tryz.call65⟩
instance:BM Tryz.prog 66:=⟨Tryz.call66⟩
instance:BM Tryz.prog 67:=⟨Tryz.call67⟩
instance:BM Tryz.prog 68:=⟨Tryz.call68⟩
instance:BM Tryz.prog 69:=⟨Tryz.call69⟩
instance:BM Tryz.prog 70:=⟨Tryz.call70⟩
instance:BM Tryz.prog 71:=⟨Tryz.call71⟩
instance:BM Tryz.prog 72:=⟨Tryz.call72⟩
instance:BM Tryz.prog 73:=⟨Tryz.call73⟩
instance:BM Tryz.prog 74:=⟨Tryz.call74⟩
instance:BM Tryz.prog 75:=⟨Tryz.call75⟩
instance:BM Tryz.prog 76:=⟨Tryz.call76⟩
instance:BM Tryz.prog 77:=⟨Tryz.call77⟩
instance:BM Tryz.prog 78:=⟨Tryz.call78⟩
instance:BM Tryz.prog 79:=⟨Tryz.call79⟩
instance:BM Tryz.prog 80:=⟨Tryz.call80⟩
instance:BM Tryz.prog 81:=⟨Tryz.call81⟩
instance:BM Tryz.prog 82:=⟨Tryz.call82⟩
instance:BM Tryz.prog 83:=⟨Tryz.call83⟩
instance:BM Tryz.prog 84:=⟨Tryz.call84⟩
instance:BM Tryz.prog 85:=⟨Tryz.call85⟩
instance:BM Tryz.prog 86:=⟨Tryz.call86⟩
instance:BM Tryz.prog 87:=⟨Tryz.call87⟩
instance:BM Tryz.prog 88:=⟨Tryz.call88⟩
instance:BM Tryz.prog 89:=⟨Tryz.call89⟩
instance:BM Tryz.prog 90:=⟨Tryz.call90⟩
instance:BM Tryz.prog 91:=⟨Tryz.call91⟩
instance:BM Tryz.prog 92:=⟨Tryz.call92⟩
instance:BM Tryz.prog 93:=⟨Tryz.call93⟩
instance:BM Tryz.prog 94:=⟨Tryz.call94⟩
instance:BM Tryz.prog 95:=⟨Tryz.call95⟩
instance:BM Tryz.prog 96:=⟨Tryz.call96⟩
instance:BM Tryz.prog 97:=⟨Tryz.call97⟩
instance:BM Tryz.prog 98:=⟨Tryz.call98⟩
instance:BM Tryz.prog 99:=⟨Tryz.call99⟩
instance:BM Tryz.prog 100:=⟨Tryz.call100⟩
instance:BM Tryz.prog 101:=⟨Tryz.call101⟩
instance:BM Tryz.prog 102:=⟨Tryz.call102⟩
instance:BM Tryz.prog 103:=⟨Tryz.call103⟩
instance:BM Tryz.prog 104:=⟨Tryz.call104⟩
instance:BM Tryz.prog 105:=⟨Tryz.call105⟩
instance:BM Tryz.prog 106:=⟨Tryz.call106⟩
instance:BM Tryz.prog 107:=⟨Tryz.call107⟩
instance:BM Tryz.prog 108:=⟨Tryz.call108⟩
instance:BM Tryz.prog 109:=⟨Tryz.call109⟩
instance:BM Tryz.prog 110:=⟨Tryz.call110⟩
instance:BM Tryz.prog 111:=⟨Tryz.call111⟩
instance:BM Tryz.prog 112:=⟨Tryz.call112⟩
instance:BM Tryz.prog 113:=⟨Tryz.call113⟩
instance:BM Tryz.prog 114:=⟨Tryz.call114⟩
instance:BM Tryz.prog 115:=⟨Tryz.call115⟩
instance:BM Tryz.prog 116:=⟨Tryz.call116⟩
instance:BM Tryz.prog 117:=⟨Tryz.call117⟩
instance:BM Tryz.prog 118:=⟨Tryz.call118⟩
instance:BM Tryz.prog 119:=⟨Tryz.call119⟩
instance:BM Tryz.prog 120:=⟨Tryz.call120⟩
instance:BM Tryz.prog 121:=⟨Tryz.call121⟩
instance:BM Tryz.prog 122:=⟨Tryz.call122⟩
instance:BM Tryz.prog 123:=⟨Tryz.call123⟩
instance:BM Tryz.prog 124:=⟨Tryz.call124⟩
instance:BM Tryz.prog 125:=⟨Tryz.call125⟩
instance:BM Tryz.prog 126:=⟨Tryz.call126⟩
instance:BM Tryz.prog 127:=⟨Tryz.call127⟩
instance:BM Tryz.prog 128:=⟨Tryz.call128⟩
instance:BM Tryz.prog 129:=⟨Tryz.call129⟩
instance:BM Tryz.prog 130:=⟨Tryz.call130⟩
instance:BM Tryz.prog 131:=⟨Tryz.call131⟩
instance:BM Tryz.prog 132:=⟨Tryz.call132⟩
instance:BM Tryz.prog 133:=⟨Tryz.call133⟩
instance:BM Tryz.prog 134:=⟨Tryz.call134⟩
instance:BM Tryz.prog 135:=⟨Tryz.call135⟩
instance:BM Tryz.prog 136:=⟨Tryz.call136⟩
instance:BM Tryz.prog 137:=⟨Tryz.call137⟩
instance:BM Tryz.prog 138:=⟨Tryz.call138⟩
instance:BM Tryz.prog 139:=⟨Tryz.call139⟩
instance:BM Tryz.prog 140:=⟨Tryz.call140⟩
instance:BM Tryz.prog 142:=⟨Tryz.call142⟩
instance:BM Tryz.prog 143:=⟨Tryz.call143⟩
instance:BM Tryz.prog 144:=⟨Tryz.call144⟩
instance:BM Tryz.prog 150:=⟨Tryz.call150⟩
instance:BM Tryz.prog 151:=⟨Tryz.call151⟩
instance:BM Tryz.prog 152:=⟨Tryz.call152⟩
instance:BM Tryz.prog 153:=⟨Tryz.call153⟩
instance:BM Tryz.prog 154:=⟨Tryz.call154⟩
instance:BM Tryz.prog 155:=⟨Tryz.call155⟩
instance:BM Tryz.prog 156:=⟨Tryz.call156⟩
instance:BM Tryz.prog 158:=⟨Tryz.call158⟩
instance:BM Tryz.prog 159:=⟨Tryz.call159⟩
instance:BM Tryz.prog 160:=⟨Tryz.call160⟩
instance:BM Tryz.prog 161:=⟨Tryz.call161⟩
instance:BM Tryz.prog 162:=⟨Tryz.call162⟩
instance:BM Tryz.prog 163:=⟨Tryz.call163⟩
instance:BM Tryz.prog 164:=⟨Tryz.call164⟩
instance:BM Tryz.prog 165:=⟨Tryz.call165⟩
instance:BM Tryz.prog 166:=⟨Tryz.call166⟩
instance:BM Tryz.prog 167:=⟨Tryz.call167⟩
instance:BM Tryz.prog 168:=⟨Tryz.call168⟩
instance:BM Tryz.prog 169:=⟨Tryz.call169⟩
instance:BM Tryz.prog 170:=⟨Tryz.call170⟩
instance:BM Tryz.prog 171:=⟨Tryz.call171⟩
instance:BM Tryz.prog 172:=⟨Tryz.call172⟩
instance:BM Tryz.prog 173:=⟨Tryz.call173⟩
instance:BM Tryz.prog 174:=⟨Tryz.call174⟩
instance:BM Tryz.prog 176:=⟨Tryz.call176⟩
instance:BM Tryz.prog 181:=⟨Tryz.call181⟩
instance:BM Tryz.prog 182:=⟨Tryz.call182⟩
instance:BM Tryz.prog 183:=⟨Tryz.call183⟩
instance:BM Tryz.prog 184:=⟨Tryz.call184⟩
instance:BM Tryz.prog 185:=⟨Tryz.call185⟩
instance:BM Tryz.prog 186:=⟨Tryz.call186⟩
instance:BM Tryz.prog 187:=⟨Tryz.call187⟩
instance:BM Tryz.prog 188:=⟨Tryz.call188⟩
instance:BM Tryz.prog 189:=⟨Tryz.call189⟩
instance:BM Tryz.prog 190:=⟨Tryz.call190⟩
instance:BM Tryz.prog 191:=⟨Tryz.call191⟩
instance:BM Tryz.prog 192:=⟨Tryz.call192⟩
instance:BM Tryz.prog 193:=⟨Tryz.call193⟩
instance:BM Tryz.prog 194:=⟨Tryz.call194⟩
instance:BM Tryz.prog 197:=⟨Tryz.call197⟩
instance:BM Tryz.prog 198:=⟨Tryz.call198⟩
instance:BM Tryz.prog 206:=⟨Tryz.call206⟩
instance:BM Tryz.prog 207:=⟨Tryz.call207⟩
instance:BM Tryz.prog 208:=⟨Tryz.call208⟩
instance:BM Tryz.prog 209:=⟨Tryz.call209⟩
instance:BM Tryz.prog 210:=⟨Tryz.call210⟩
instance:BM Tryz.prog 211:=⟨Tryz.call211⟩
instance:BM Tryz.prog 212:=⟨Tryz.call212⟩
instance:BM Tryz.prog 213:=⟨Tryz.call213⟩
instance:BM Tryz.prog 216:=⟨Tryz.call216⟩
instance:BM Tryz.prog 225:=⟨Tryz.call225⟩
instance:BM Tryz.prog 226:=⟨Tryz.call226⟩
instance:BM Tryz.prog 229:=⟨Tryz.call229⟩
instance:kT Tryz.prog 136 5:={}
instance:bg Tryz.prog 3 AT 1:=⟨Bm⟩
instance:eI Tryz.prog 3 AT 1:=⟨Bm⟩
instance:bg Tryz.prog 5 CE 1:=⟨SI⟩
instance:bg Tryz.prog 9 AX 1:=⟨Cr⟩
instance:eI Tryz.prog 9 AX 1:=⟨Cr⟩
instance:bg Tryz.prog 28 CD.enc 4:=⟨CD.fl⟩
instance:eI Tryz.prog 28 CD.enc 4:=⟨CD.fl⟩
instance:bg Tryz.prog 43 Room.enc 14:=⟨Room.fl⟩
instance:eI Tryz.prog 43 Room.enc 14:=⟨Room.fl⟩
instance:bg Tryz.prog 46 A3.enc 5:=⟨A3.fl⟩
instance:eI Tryz.prog 46 A3.enc 5:=⟨A3.fl⟩
instance:bg Tryz.prog 100 Ing.Event.enc 16:=⟨Ing.Event.fl⟩
instance:eI Tryz.prog 100 Ing.Event.enc 16:=⟨Ing.Event.fl⟩
instance:jo Tryz.prog:=⟨by kernel_rfl⟩
theorem ba:Sz Tryz.prog 3 1:=Fv (by kernel_rfl)
theorem OZ:Sz Tryz.prog 9 1:=Fv (by kernel_rfl)
theorem kE:Sz Tryz.prog 40 6:=Fv (by kernel_rfl)
theorem kF:Sz Tryz.prog 41 6:=Fv (by kernel_rfl)
theorem kN:ZV Tryz.prog 43 (.agg (Room.enc (default:Room)).toArray):=Nb (by kernel_rfl)
theorem iu:Sz Tryz.prog 43 14:=Fv (by kernel_rfl)
theorem iy:S3 Tryz.prog 43 14:=IV Tryz.underlying43 rfl iu
theorem kG:Sz Tryz.prog 44 84:=Fv (by kernel_rfl)
theorem kO:ZV Tryz.prog 46 (.agg (A3.enc (default:A3)).toArray):=Nb (by kernel_rfl)
theorem iv:Sz Tryz.prog 46 5:=Fv (by kernel_rfl)
theorem jA:S3 Tryz.prog 46 5:=IV Tryz.underlying46 rfl iv
theorem kH:Sz Tryz.prog 47 45:=Fv (by kernel_rfl)
theorem kJ:Sz Tryz.prog 50 36:=Fv (by kernel_rfl)
theorem kI:Sz Tryz.prog 49 6:=Fv (by kernel_rfl)
theorem mix:Tryz.prog.follows .mixedOrders=true:=by kernel_rfl
theorem bd:ZV Tryz.prog 9 (Ag []):=Nb (by kernel_rfl)
theorem LG:R0 Tryz.prog 9:=M3 Tryz.underlying9 rfl
theorem dm:BY Tryz.prog 9 16:=WX (by kernel_rfl)
theorem NX:R0 Tryz.prog 3:=M3 Tryz.underlying3 rfl
theorem bQ:R0 Tryz.prog 4:=M3 Tryz.underlying4 rfl
theorem iz:S3 Tryz.prog 44 84:=IV Tryz.underlying44 rfl kG
theorem eE:S3 Tryz.prog 40 6:=IV Tryz.underlying40 rfl kE
theorem jD:S3 Tryz.prog 50 36:=IV Tryz.underlying50 rfl kJ
theorem jC:S3 Tryz.prog 49 6:=IV Tryz.underlying49 rfl kI
theorem jB:S3 Tryz.prog 47 45:=IV Tryz.underlying47 rfl kH
theorem jI:ZV Tryz.prog 100 (.agg (Ing.Event.enc (default:Ing.Event)).toArray):=Nb (by kernel_rfl)
theorem iq:Sz Tryz.prog 100 16:=Fv (by kernel_rfl)
theorem iR:BY Tryz.prog 100 160:=WX (by kernel_rfl)
theorem bc:ZV Tryz.prog 3 (.int .i64 0):=Nb (by kernel_rfl)
theorem Vr:∃ i,Tryz.prog.info? 136=some i∧i.size≠0:=by
  have h:(Tryz.prog.info? 136).map (·.size)=some 2:=by kernel_rfl
  obtain⟨i,h1,h2⟩:=Option.map_eq_some_iff.1 h
  exact⟨i,h1,by omega⟩
theorem eC:Sz Tryz.prog 122 1:=Fv (by kernel_rfl)
theorem MP:FA Tryz.prog 136 1 1:=df Tryz.underlying136 rfl eC
theorem S1:R0 Tryz.prog 122:=M3 Tryz.underlying122 rfl
theorem Qk:Sz Tryz.prog 5 1:=Fv (by kernel_rfl)
theorem VD:ZV Tryz.prog 5 (.int .u8 0):=Nb (by kernel_rfl)
theorem fx:BY Tryz.prog 5 1:=WX (by kernel_rfl)
theorem lC:Tryz.prog.cellsOf 5=1:=by kernel_rfl
theorem ir:Sz Tryz.prog 153 21:=Fv (by kernel_rfl)
theorem bO:S3 Tryz.prog 153 21:=IV Tryz.underlying153 rfl ir
theorem kj:ZV Tryz.prog 4 (.bool false):=Nb (by kernel_rfl)
theorem Xe:Mw Tryz.prog 1 3 (fun n:Int=> .int .i64 n):=WY Tryz.underlying3
theorem dt:Mw Tryz.prog 1 9 (fun s:AL=>Ag s):=bh Tryz.underlying9
theorem iX:Mw Tryz.prog 2 40 (fun v:QR _ 6=> .agg (BO AT v).toArray):=L9 Bm Tryz.underlying40 (by kernel_rfl) (by kernel_rfl) (.inr ⟨NX,rfl,fun _=>rfl⟩) Xe
theorem iV:Mw Tryz.prog 3 100 (fun x:Ing.Event=> .agg (Ing.Event.enc x).toArray):=F0 Tryz.underlying100 (by kernel_rfl) (.cons (by decide) rfl (.inr ⟨NX,rfl,fun _=>rfl⟩) Ing.Event.l0 Xe (by decide) (.cons (by decide) rfl (.inr ⟨NX,rfl,fun _=>rfl⟩) Ing.Event.l1 Xe (by decide) (.cons (by decide) rfl (.inr ⟨NX,rfl,fun _=>rfl⟩) Ing.Event.l2 Xe (by decide) (.cons (by decide) rfl (.inr ⟨NX,rfl,fun _=>rfl⟩) Ing.Event.l3 Xe (by decide) (.cons (by decide) rfl (.inr ⟨NX,rfl,fun _=>rfl⟩) Ing.Event.l4 Xe (by decide) (.cons (by decide) rfl (.inr ⟨NX,rfl,fun _=>rfl⟩) Ing.Event.l5 Xe (by decide) (.cons (by decide) rfl (.inr ⟨LG,rfl,fun _=>rfl⟩) Ing.Event.l6 dt (by decide) (.cons (by decide) rfl (.inr ⟨LG,rfl,fun _=>rfl⟩) Ing.Event.l7 dt (by decide) (.cons (by decide) rfl (.inr ⟨LG,rfl,fun _=>rfl⟩) Ing.Event.l8 dt (by decide) (.cons (by decide) rfl (.inr ⟨LG,rfl,fun _=>rfl⟩) Ing.Event.l9 dt (by decide) (.cons (by decide) rfl (.inl ⟨eE,fun _=>rfl⟩) Ing.Event.l10 iX (by decide) .nil))))))))))) (fun x y=>by rw [Bool.eq_iff_iff];cases x;cases y;simp)
theorem jz:Mw Tryz.prog 1 24 (fun n:Int=> .int .i64 n):=WY Tryz.underlying24
theorem jE:R0 Tryz.prog 24:=M3 Tryz.underlying24 rfl
theorem j2:Mw Tryz.prog 2 32 (fun x:Cg=> .agg (Cg.enc x).toArray):=F0 Tryz.underlying32 (by kernel_rfl) (.cons (by decide) rfl (.inr ⟨jE,rfl,fun _=>rfl⟩) Cg.l0 jz (by decide) (.cons (by decide) rfl (.inr ⟨LG,rfl,fun _=>rfl⟩) Cg.l1 dt (by decide) .nil)) (fun x y=>by rw [Bool.eq_iff_iff];cases x;cases y;simp)
theorem iW:Mw Tryz.prog 1 4 (fun b:Bool=> .bool b):=Ys Tryz.underlying4
theorem j3:Mw Tryz.prog 2 41 (fun v:QR _ 6=> .agg (BO B2 v).toArray):=L9 Is Tryz.underlying41 (by kernel_rfl) (by kernel_rfl) (.inr ⟨bQ,rfl,fun _=>rfl⟩) iW
theorem iw:S3 Tryz.prog 41 6:=IV Tryz.underlying41 rfl kF
theorem iY:Mw Tryz.prog 3 43 (fun x:Room=> .agg (Room.enc x).toArray):=F0 Tryz.underlying43 (by kernel_rfl) (.cons (by decide) rfl (.inr ⟨LG,rfl,fun _=>rfl⟩) Room.l0 dt (by decide) (.cons (by decide) rfl (.inr ⟨bQ,rfl,fun _=>rfl⟩) Room.l1 iW (by decide) (.cons (by decide) rfl (.inl ⟨eE,fun _=>rfl⟩) Room.l2 iX (by decide) (.cons (by decide) rfl (.inl ⟨iw,fun _=>rfl⟩) Room.l3 j3 (by decide) .nil)))) (fun x y=>by rw [Bool.eq_iff_iff];cases x;cases y;simp)
theorem j4:Mw Tryz.prog 4 44 (fun v:QR _ 6=> .agg (BO Room.enc v).toArray):=L9 Room.fl Tryz.underlying44 (by kernel_rfl) (by kernel_rfl) (.inl ⟨iy,fun _=>rfl⟩) iY
theorem iZ:Mw Tryz.prog 2 46 (fun x:A3=> .agg (A3.enc x).toArray):=F0 Tryz.underlying46 (by kernel_rfl) (.cons (by decide) rfl (.inr ⟨LG,rfl,fun _=>rfl⟩) A3.l0 dt (by decide) (.cons (by decide) rfl (.inr ⟨NX,rfl,fun _=>rfl⟩) A3.l1 Xe (by decide) (.cons (by decide) rfl (.inr ⟨NX,rfl,fun _=>rfl⟩) A3.l2 Xe (by decide) (.cons (by decide) rfl (.inr ⟨NX,rfl,fun _=>rfl⟩) A3.l3 Xe (by decide) (.cons (by decide) rfl (.inr ⟨bQ,rfl,fun _=>rfl⟩) A3.l4 iW (by decide) .nil))))) (fun x y=>by rw [Bool.eq_iff_iff];cases x;cases y;simp)
theorem j5:Mw Tryz.prog 3 47 (fun v:QR _ 9=> .agg (BO A3.enc v).toArray):=L9 A3.fl Tryz.underlying47 (by kernel_rfl) (by kernel_rfl) (.inl ⟨jA,fun _=>rfl⟩) iZ
theorem ia:Mw Tryz.prog 2 49 (fun x:A6=> .agg (A6.enc x).toArray):=F0 Tryz.underlying49 (by kernel_rfl) (.cons (by decide) rfl (.inr ⟨LG,rfl,fun _=>rfl⟩) A6.l0 dt (by decide) (.cons (by decide) rfl (.inr ⟨bQ,rfl,fun _=>rfl⟩) A6.l1 iW (by decide) (.cons (by decide) rfl (.inr ⟨bQ,rfl,fun _=>rfl⟩) A6.l2 iW (by decide) (.cons (by decide) rfl (.inr ⟨NX,rfl,fun _=>rfl⟩) A6.l3 Xe (by decide) (.cons (by decide) rfl (.inr ⟨NX,rfl,fun _=>rfl⟩) A6.l4 Xe (by decide) (.cons (by decide) rfl (.inr ⟨NX,rfl,fun _=>rfl⟩) A6.l5 Xe (by decide) .nil)))))) (fun x y=>by rw [Bool.eq_iff_iff];cases x;cases y;simp)
theorem j6:Mw Tryz.prog 3 50 (fun v:QR _ 6=> .agg (BO A6.enc v).toArray):=L9 A6.fl Tryz.underlying50 (by kernel_rfl) (by kernel_rfl) (.inl ⟨jC,fun _=>rfl⟩) ia
theorem j7:Mw Tryz.prog 5 52 (fun x:AD=> .agg (AD.enc x).toArray):=F0 Tryz.underlying52 (by kernel_rfl) (.cons (by decide) rfl (.inl ⟨iz,fun _=>rfl⟩) AD.l0 j4 (by decide) (.cons (by decide) rfl (.inl ⟨jB,fun _=>rfl⟩) AD.l1 j5 (by decide) (.cons (by decide) rfl (.inl ⟨jD,fun _=>rfl⟩) AD.l2 j6 (by decide) .nil))) (fun x y=>by rw [Bool.eq_iff_iff];cases x;cases y;simp)
instance:de Tryz.prog 32 inferInstance Cg.enc 2:=⟨j2⟩
instance:de Tryz.prog 43 inferInstance Room.enc 3:=⟨iY⟩
instance:de Tryz.prog 46 inferInstance A3.enc 2:=⟨iZ⟩
instance:de Tryz.prog 49 inferInstance A6.enc 2:=⟨ia⟩
instance:de Tryz.prog 52 inferInstance AD.enc 5:=⟨j7⟩
instance:de Tryz.prog 100 inferInstance Ing.Event.enc 3:=⟨iV⟩
theorem LL  (w:World):Ch Tryz.prog 33 #[] w fun v w'=>v = .agg AD.new.enc.toArray∧BF w w':=by
 refine Rb Tryz.func33 ?_
 refine W ?_
 intro b1 b2
 refine Im (cs:=BO (n:=6) Room.enc (Vector.replicate 6 default)) (cs':=BO (n:=6) Room.enc AD.V9) J Tryz.underlying129 iu kN (by decide) (by decide) (by kernel_rfl) (.cons (Ac.arr (n:=6) (i:=0) Room.fl (by decide) (by decide)) J J J (.cons (Ac.arr (n:=6) (i:=1) Room.fl (by decide) (by decide)) J J J (.cons (Ac.arr (n:=6) (i:=2) Room.fl (by decide) (by decide)) J J J (.cons (Ac.arr (n:=6) (i:=3) Room.fl (by decide) (by decide)) J J J (.cons (Ac.arr (n:=6) (i:=4) Room.fl (by decide) (by decide)) J J J (.cons (Ac.arr (n:=6) (i:=5) Room.fl (by decide) (by decide)) J J J .nil)))))) J (fun b3=>?_)
 refine W ?_
 refine Af (.t5 22 0 1 20 21) ?_
 refine AY (.t .h) ?_
 refine A7 (fun(k:Int)=>0≤k∧k≤6) (fun(k:Int)=>(6 - k).toNat) (fun(k:Int)=> [(22, .int .i64 k)]) (fun(k:Int)=> [AJ.box b2 52 (AD.enc (AD.Vw k.toNat))]) (0) ?_ J J (fun k hI1=>?_)
 · exact⟨Int.le_refl _,by omega⟩
 obtain⟨hI11,hI12⟩:=hI1
 refine W ?_
 refine⟨fun c1 c1p=>?_,fun c1 c1p=>?_⟩
 ·
  dsimp only at c1p
  refine W ?_
  intro b4
  refine Aw (k+1) ?_ ?_ (.t5 22 0 1 20 21) (by rw [AD.X3 (by omega)];exact(.cons _ (.refl _)))
  · exact⟨by omega,by omega⟩
  · omega
 dsimp only at c1p
 obtain rfl:k=6:=by omega
 refine W ?_
 refine Im (cs:=BO (n:=9) A3.enc (Vector.replicate 9 default)) (cs':=BO (n:=9) A3.enc AD.Sx) J Tryz.underlying130 iv kO (by decide) (by decide) (by kernel_rfl) (.cons (Ac.arr (n:=9) (i:=0) A3.fl (by decide) (by decide)) J J J (.cons (Ac.arr (n:=9) (i:=1) A3.fl (by decide) (by decide)) J J J (.cons (Ac.arr (n:=9) (i:=2) A3.fl (by decide) (by decide)) J J J (.cons (Ac.arr (n:=9) (i:=3) A3.fl (by decide) (by decide)) J J J (.cons (Ac.arr (n:=9) (i:=4) A3.fl (by decide) (by decide)) J J J (.cons (Ac.arr (n:=9) (i:=5) A3.fl (by decide) (by decide)) J J J (.cons (Ac.arr (n:=9) (i:=6) A3.fl (by decide) (by decide)) J J J (.cons (Ac.arr (n:=9) (i:=7) A3.fl (by decide) (by decide)) J J J (.cons (Ac.arr (n:=9) (i:=8) A3.fl (by decide) (by decide)) J J J .nil))))))))) J (fun b5=>?_)
 refine W ?_
 refine Af (.t5 43 0 1 41 42) ?_
 refine AY (.t .h) ?_
 refine A7 (fun(k:Int)=>0≤k∧k≤9) (fun(k:Int)=>(9 - k).toNat) (fun(k:Int)=> [(43, .int .i64 k)]) (fun(k:Int)=> [AJ.box b2 52 (AD.enc (AD.KQ k.toNat))]) (0) ?_ J J (fun k hI2=>?_)
 · exact⟨Int.le_refl _,by omega⟩
 obtain⟨hI21,hI22⟩:=hI2
 refine W ?_
 refine⟨fun c2 c2p=>?_,fun c2 c2p=>?_⟩
 ·
  dsimp only at c2p
  refine W ?_
  intro b6
  refine Aw (k+1) ?_ ?_ (.t5 43 0 1 41 42) (by rw [AD.X4 (by omega)];exact(.cons _ (.refl _)))
  · exact⟨by omega,by omega⟩
  · omega
 dsimp only at c2p
 obtain rfl:k=9:=by omega
 refine W ?_
 rfl
instance:DI Tryz.prog 33 (type_of% @LL):=⟨@LL⟩
theorem PW  : Fu Tryz.prog 8 #[] [] (fun v B=>∃(b:Nat) (V:AE) (ls:Vector Ae 4) (ev:List Ing.Event),v = .pointer (some ⟨b,0,none⟩)∧AO V ls ev=AG.new∧B = [AJ.box b 95 (AE.enc V),AJ.CI (BB 9 (AE.AP V) ls),AJ.own (AE.last V) 100 16 ((ev).flatMap Ing.Event.enc)]):=by
 intro w hS0
 refine AR _ _ Tryz.func8 J J J (hS0) ?_
 refine W ?_
 intro b1
 intro w1 hS
 have hS:=(hS.perm (AK.perm (.c .h .n))).AM
 have h2:=(St.Wn hS (l:=BB 9 K2 K1) (fun r hr=>UA 9 w1 r hr)).BT 100 16
 refine⟨_,⟨b1,⟨AD.new,K2,0,⟨none,0,0⟩⟩,K1,[],J,J,J⟩,h2.perm (W8 _ _ _)⟩
theorem DB (b:Nat)(X:AD)(a d e:Int)(ha:0≤a∧a < 6)(hd:0≤d∧d < 6)(he:0≤e∧e < 6):Fu Tryz.prog 43 #[.int .i64 a, .int .i64 d, .int .i64 e, .pointer (some ⟨b,0,none⟩)] [AJ.box b 52 X.enc] (fun v B=>v = .tuple #[]∧B = [AJ.box b 52 (X.join a d e).enc]):=by
 have hdm:0≤(d+3).tmod 6∧(d+3).tmod 6 < 6:=⟨Int.tmod_nonneg _ (by omega),Int.tmod_lt_of_pos _ (by decide)⟩
 intro w hS0
 refine AR _ _ Tryz.func43 J J J (hS0) ?_
 refine W ?_
 intro w1 hS
 have hS:=(hS.perm (AK.perm (.c .h .n))).AM
 exact⟨_,⟨J,J⟩,hS⟩
theorem I4  (w:World):Ch Tryz.prog 20 #[] w fun v w'=>v = .agg AD.new.enc.toArray∧BF w w':=by
 refine Rb Tryz.func20 ?_
 refine W ?_
 intro b1 b2
 refine Im (cs:=BO (n:=6) AX (Vector.replicate 6 default)) J Tryz.underlying56 OZ bd (by decide) (by decide) (by kernel_rfl) (.cons (Ac.arr (n:=6) (i:=0) Cr (by decide) (by decide)) J J J (.cons (Ac.arr (n:=6) (i:=1) Cr (by decide) (by decide)) J J J (.cons (Ac.arr (n:=6) (i:=2) Cr (by decide) (by decide)) J J J (.cons (Ac.arr (n:=6) (i:=3) Cr (by decide) (by decide)) J J J (.cons (Ac.arr (n:=6) (i:=4) Cr (by decide) (by decide)) J J J (.cons (Ac.arr (n:=6) (i:=5) Cr (by decide) (by decide)) J J J .nil)))))) ((IY Cr).len _) (fun b3=>?_)
 refine W ?_
 refine Af (.t5 8 0 1 2 7) ?_
 refine AY (.t .h) ?_
 refine A7 (fun(k:Int)=>0≤k∧k≤6) (fun(k:Int)=>(6 - k).toNat) (fun(k:Int)=> [(8, .int .i64 k)]) (fun(k:Int)=> [AJ.box b2 52 (AD.enc (AD.X5 k.toNat))]) (0) ?_ J J (fun k hI1=>?_)
 · exact⟨Int.le_refl _,by omega⟩
 obtain⟨hI11,hI12⟩:=hI1
 refine W ?_
 refine⟨fun c1 c1p=>?_,fun c1 c1p=>?_⟩
 ·
  try dsimp only at c1p
  refine W ?_
  refine Aw (k+1) ?_ ?_ (.t5 8 0 1 2 7) (by rw [AD.X6 (by omega)];exact(.refl _))
  · exact⟨by omega,by omega⟩
  · omega
 try dsimp only at c1p
 obtain rfl:k=6:=by omega
 refine W ?_
 refine Cl (.c .h .n) (DB _ _ _ _ _ (by decide) (by decide) (by decide)) (fun v1 B hv=>?_)
 obtain⟨rfl,rfl⟩:=hv
 refine W ?_
 refine Cl (.c .h .n) (DB _ _ _ _ _ (by decide) (by decide) (by decide)) (fun v2 B hv=>?_)
 obtain⟨rfl,rfl⟩:=hv
 refine W ?_
 refine Cl (.c .h .n) (DB _ _ _ _ _ (by decide) (by decide) (by decide)) (fun v3 B hv=>?_)
 obtain⟨rfl,rfl⟩:=hv
 refine W ?_
 refine Cl (.c .h .n) (DB _ _ _ _ _ (by decide) (by decide) (by decide)) (fun v4 B hv=>?_)
 obtain⟨rfl,rfl⟩:=hv
 refine W ?_
 refine Cl (.c .h .n) (DB _ _ _ _ _ (by decide) (by decide) (by decide)) (fun v5 B hv=>?_)
 obtain⟨rfl,rfl⟩:=hv
 refine W ?_
 kernel_rfl
instance:DI Tryz.prog 20 (type_of% @I4):=⟨@I4⟩
theorem Me  : Fu Tryz.prog 6 #[] [] (fun v B=>∃(b:Nat) (V:AE) (ls:Vector Ae 4) (ev:List Ing.Event),v = .pointer (some ⟨b,0,none⟩)∧AO V ls ev=AG.new∧B = [AJ.box b 65 (AE.enc V),AJ.CI (BB 9 (AE.AP V) ls),AJ.own (AE.last V) 100 16 ((ev).flatMap Ing.Event.enc)]):=by
 intro w hS0
 refine AR _ _ Tryz.func6 J J J (hS0) ?_
 refine W ?_
 intro b1
 intro w1 hS
 have hS:=(hS.perm (AK.perm (.c .h .n))).AM
 have h2:=(St.Wn hS (l:=BB 9 K2 K1) (fun r hr=>UA 9 w1 r hr)).BT 100 16
 refine⟨_,⟨b1,⟨AD.new,K2,0,⟨none,0,0⟩⟩,K1,[],J,J,J⟩,h2.perm (W8 _ _ _)⟩
theorem BS {t0:Nat}(h:Hd)(xs:List AL)(hb:xs.length≤17592186044416):Cz Tryz.prog 78 #[h.val] [] (fun w=>Rd w h t0 1 (xs.flatMap AX)) (fun v B=>∃ h':Hd,v=h'.val∧h'.len=xs.length∧B = [AJ.own h' 9 1 (xs.flatMap AX)]):=by
 intro w hS0 hH
 have r0:=hH
 have hl:=r0.Gh Cr (by decide)
 refine AR _ _ Tryz.func78 J J J (hS0) ?_
 refine W ?_
 refine Gt (VM Tryz.underlying56 J) ?_
 refine W ?_
 refine⟨fun c1 c1p=>?_,fun c1 c1p=>?_⟩
 ·
  refine W ?_
  intro w1 hS
  have hS:=(hS.perm (AK.perm .n)).AM
  have hx:xs = []:=by
    rcases xs with _ | ⟨x,xs⟩
    · rfl
    · exfalso
      obtain⟨b,o,C,fz,e1,_⟩:=r0.2 (by simp [AX])
      rw [e1] at c1
      cases c1
  subst hx
  exact⟨_,⟨⟨none,0,0⟩,J,J,J⟩,hS.BT _ _⟩
 refine W ?_
 refine bj AX J Tryz.underlying56 OZ (fun b1=>?_)
 refine W ?_
 refine ES (e:=AX) J Tryz.underlying56 OZ bd J dm (by decide) J J (fun w hS=>Src.FG Tryz.underlying56 ((Kn.Il r0) w hS)) J J (by omega) (fun _=> .h) (fun h1 h1l=>?_)
 refine W ?_
 intro w1 hS
 have hS:=(hS.perm (AK.perm (.c .h .n))).AM
 exact⟨_,⟨_,J,by omega,rfl⟩,hS⟩
theorem Pq {t0:Nat}(l:BN)(qs:List AL)(hb:qs.length≤17592186044416):Cz Tryz.prog 108 #[.agg l.enc.toArray] [] (fun w=>Rd w l.queue t0 1 (qs.flatMap AX)∧l.queue.len≤l.queue.cap) (fun v B=>(qs = []∧v = .tuple #[.agg l.enc.toArray,Ag [], .bool false]∧B = [])∨(∃ q r,qs=q :: r∧∃ h':Hd,v = .tuple #[.agg (BN.enc ⟨l.now,l.long,l.ret,h'⟩).toArray,Ag q, .bool true]∧h'.len=r.length∧B = [AJ.own h' 9 1 (r.flatMap AX)])):=by
 intro w hS0 hH
 obtain⟨r0,k0⟩:=hH
 have hl0:=r0.Gh Cr (by decide)
 refine AR _ _ Tryz.func108 J J J (hS0) ?_
 refine W ?_
 intro b1 b2
 refine⟨fun c1 c1p=>?_,fun c1 c1p=>?_⟩
 ·
  have hq:qs = []:=List.length_eq_zero_iff.1 (by omega)
  refine W ?_
  intro w1 hS
  have hS:=(hS.perm (AK.perm .n)).AM
  exact⟨_, .inl ⟨hq,J,J⟩,hS⟩
 obtain⟨q,r,rfl⟩:=Aa.OK (qs:=qs) (by omega)
 rw [List.length_cons] at hl0 hb
 refine W ?_
 refine Gt (Ot Tryz.underlying56 OZ J J (by decide) (by omega)) ?_
 refine W ?_
 refine Cm .n (BS _ r (by omega)) (fun v2 B hv=>?_) (fun _=>(fun w hS=>by have h:=(Kn.cut (l:=1) (r:=l.queue.len) Cr (Kn.Il r0) (by omega) (Nat.le_refl _) (VI.of k0)) w hS;rw [show(((q :: r).take l.queue.len).drop 1)=r from by rw [List.take_of_length_le (by simp;omega)];rfl] at h;exact h))
 obtain⟨y3,rfl,y4,rfl⟩:=hv
 refine W ?_
 intro w1 hS
 have hS:=(hS.perm (AK.perm (.c .h .n))).AM
 exact⟨_, .inr ⟨q,r,J,_,J,by assumption,rfl⟩,hS⟩
theorem Ju (p:A9)(w:World):Ch Tryz.prog 109 #[.agg p.enc.toArray] w fun v w'=>v = .agg (A9.enc ⟨p.wait,0,false,p.ring,p.cut⟩).toArray∧BF w w':=by
 refine Rb Tryz.func109 ?_
 refine W ?_
 intro b1 b2
 rfl
instance:DI Tryz.prog 109 (type_of% @Ju):=⟨@Ju⟩
theorem Eb (s:AL)(c:UInt8)(hs:s.length≤10000000)(w:World):Ch Tryz.prog 144 #[Ag s, .int .u8 (c.toNat:Int)] w fun v w'=>v=Ag (Words.Dx c s)∧BF w w':=by
 refine Rb Tryz.func144 ?_
 refine W ?_
 refine Af (.t2 0 1) ?_
 refine A7 (fun(r:AL)=>Words.Dx c s=Words.Dx c r∧r.length≤s.length) (fun(r:AL)=>r.length) (fun(r:AL)=> [(0,Ag r)]) (fun(r:AL)=> []) (s) ?_ J J (fun r hI1=>?_)
 · exact⟨J,Nat.le_refl _⟩
 obtain⟨hI11,hI12⟩:=hI1
 refine W ?_
 refine⟨fun c1 c1p=>?_,fun c1 c1p=>?_⟩
 ·
  have hlt:0 < r.length:=by simp at c1;omega
  refine W ?_
  refine Aw _ ?_ ?_ (.t2 0 1) (.refl _)
  · exact⟨by rw [hI11,Words.bM c1]<;>rfl,by first | (simp;done) | (simp;omega)⟩
  · first | (simp;done) | (simp;omega)
 refine W ?_
 rw [hI11,Words.bL c1];rfl
instance:DI Tryz.prog 144 (type_of% @Eb):=⟨@Eb⟩
theorem En (s:AL)(c:UInt8)(hs:s.length≤10000000)(w:World):Ch Tryz.prog 143 #[Ag s, .int .u8 (c.toNat:Int)] w fun v w'=>v=Ag (Words.DH c s)∧BF w w':=by
 refine Rb Tryz.func143 ?_
 refine W ?_
 refine Af (.t2 0 1) ?_
 refine A7 (fun(r:AL)=>Words.DH c s=Words.DH c r∧r.length≤s.length) (fun(r:AL)=>r.length) (fun(r:AL)=> [(0,Ag r)]) (fun(r:AL)=> []) (s) ?_ J J (fun r hI1=>?_)
 · exact⟨J,Nat.le_refl _⟩
 obtain⟨hI11,hI12⟩:=hI1
 refine W ?_
 refine⟨fun c1 c1p=>?_,fun c1 c1p=>?_⟩
 ·
  have hlt:0 < r.length:=by simp at c1;omega
  refine W ?_
  refine Aw _ ?_ ?_ (.t2 0 1) (.refl _)
  · exact⟨by rw [hI11,Words.XF c1]<;>rfl,by first | (simp;done) | (simp;omega)⟩
  · first | (simp;done) | (simp;omega)
 refine W ?_
 rw [hI11,Words.XE c1];rfl
instance:DI Tryz.prog 143 (type_of% @En):=⟨@En⟩
theorem IL (s:AL)(hs:s.length≤10000000)(w:World):Ch Tryz.prog 111 #[Ag s,Ag [32]] w fun v w'=>v=Ag (Words.DH 32 (Words.Dx 32 s))∧BF w w':=by
 refine Rb Tryz.func111 ?_
 refine W ?_
 refine⟨fun c1 c1p=>?_,fun c1 c1p=>?_⟩
 ·
  refine W ?_
  have e:s = []:=by simpa using c1
  subst e;rfl
 try have:=Words.Oa (([32]:AL).getD (Int.toNat 0) 0) s
 refine W ?_
 rfl
instance:DI Tryz.prog 111 (type_of% @IL):=⟨@IL⟩
theorem HA (X:AD)(i:Int)(h0:0≤i)(h9:i < 9)(w:World):Ch Tryz.prog 151 #[.agg X.enc.toArray, .int .i64 i] w fun v w'=>v = .bool (X.Bs i)∧BF w w':=by
 refine Rb Tryz.func151 ?_
 refine W ?_
 intro b1 b2
 refine⟨fun c1 c1p=>?_,fun c1 c1p=>?_⟩
 ·
  refine W ?_
  refine congrArg Value.bool ?_;simp only [AD.Bs,c1,↓reduceIte,Bool.false_eq_true]
 refine W ?_
 refine⟨fun c2 c2p=>?_,fun c2 c2p=>?_⟩
 ·
  refine W ?_
  refine congrArg Value.bool ?_;simp only [AD.Bs,c1,c2,↓reduceIte,Bool.false_eq_true]
 refine W ?_
 refine⟨fun c3 c3p=>?_,fun c3 c3p=>?_⟩
 ·
  refine W ?_
  refine congrArg Value.bool ?_;simp only [AD.Bs,c1,c2,c3,↓reduceIte,Bool.false_eq_true]
 refine W ?_
 refine⟨fun c4 c4p=>?_,fun c4 c4p=>?_⟩
 ·
  refine W ?_
  refine⟨fun c5 c5p=>?_,fun c5 c5p=>?_⟩
  ·
   refine W ?_
   refine congrArg Value.bool ?_;simp only [AD.Bs,c1,c2,c3,c4,c5,↓reduceIte,Bool.false_eq_true]
  refine W ?_
  refine Af (.t3 82 2 5) ?_
  refine CZ (fun(k:Int) (t:A3)=>0≤k∧k≤10∧X.Bs i=X.Hz (10 - k).toNat t) (fun(k:Int) (t:A3)=>(10 - k).toNat) (fun(k:Int) (t:A3)=> [(82, .int .i64 k)]) (fun(k:Int) (t:A3)=> [AJ.box b2 46 (A3.enc t)]) (0) (X.AH.at i) ?_ J J (fun k t hI1=>?_)
  · refine⟨Int.le_refl _,by omega,?_⟩;simp only [AD.Bs,c1,c2,c3,c4,c5,↓reduceIte,Bool.false_eq_true];rfl
  obtain⟨hI11,hI12,hI13⟩:=hI1
  refine W ?_
  refine⟨fun c6 c6p=>?_,fun c6 c6p=>?_⟩
  ·
   rw [show(10 - k).toNat=(10 - (k+1)).toNat+1 from by omega,AD.Hz,show decide ((10 - (k+1)).toNat=0)=decide (k=9) from decide_eq_decide.2 ⟨by omega,by omega⟩] at hI13
   refine W ?_
   refine⟨fun c7 c7p=>?_,fun c7 c7p=>?_⟩
   ·
    refine W ?_
    refine congrArg Value.bool ?_;rw [hI13];simp only [c1,c2,c3,c4,c5,c6,c7,↓reduceIte,Bool.false_eq_true]
   refine W ?_
   refine⟨fun c8 c8p=>?_,fun c8 c8p=>?_⟩
   ·
    refine W ?_
    refine congrArg Value.bool ?_;rw [hI13];simp only [c1,c2,c3,c4,c5,c6,c7,c8,↓reduceIte,Bool.false_eq_true]
   refine W ?_
   refine BC (k+1) (X.AH.at t.at_) ?_ ?_ (.t3 82 2 5) (.refl _)
   · exact⟨by omega,by omega,by rw [hI13];simp only [c1,c2,c3,c4,c5,c6,c7,c8,↓reduceIte,Bool.false_eq_true]⟩
   · omega
  obtain rfl:k=10:=by omega
  refine W ?_
  refine congrArg Value.bool ?_;rw [hI13];rfl
 refine W ?_
 refine congrArg Value.bool ?_;simp only [AD.Bs,c1,c2,c3,c4,↓reduceIte,Bool.false_eq_true]
instance:DI Tryz.prog 151 (type_of% @HA):=⟨@HA⟩
theorem KL (X:AD)(w:World):Ch Tryz.prog 113 #[.agg X.enc.toArray] w fun v w'=>v = .bool X.A5∧BF w w':=by
 refine Rb Tryz.func113 ?_
 refine W ?_
 intro b1
 refine Af (.t3 12 1 11) ?_
 refine A7 (fun(k:Int)=>0≤k∧k≤6∧X.A5=(A4 6 X.Iw (6 - k).toNat && (A4 6 (fun k=>!AD.Ca (X.AF.at k)) 6 && A4 9 X.Bs 9))) (fun(k:Int)=>(6 - k).toNat) (fun(k:Int)=> [(12, .int .i64 k)]) (fun(k:Int)=> []) (0) ?_ J J (fun k hI1=>?_)
 · exact⟨Int.le_refl _,by omega,rfl⟩
 obtain⟨hI11,hI12,hI13⟩:=hI1
 refine W ?_
 refine⟨fun c1 c1p=>?_,fun c1 c1p=>?_⟩
 ·
  rw [Bh _ (by omega)] at hI13
  refine W ?_
  intro b2
  refine Af (.t6 17 1 4 11 12 16) ?_
  refine A7 (fun(d:Int)=>0≤d∧d≤6∧X.Iw k=A4 6 (fun d=>!AD.GJ (X.Ad.at k) d) (6 - d).toNat) (fun(d:Int)=>(6 - d).toNat) (fun(d:Int)=> [(17, .int .i64 d)]) (fun(d:Int)=> []) (0) ?_ J J (fun d hI2=>?_)
  · exact⟨Int.le_refl _,by omega,rfl⟩
  obtain⟨hI21,hI22,hI23⟩:=hI2
  refine W ?_
  refine⟨fun c2 c2p=>?_,fun c2 c2p=>?_⟩
  ·
   rw [Bh _ (by omega)] at hI23
   refine W ?_
   refine⟨fun c3 c3p=>?_,fun c3 c3p=>?_⟩
   ·
    refine W ?_
    refine congrArg Value.bool ?_;rw [hI13,hI23,AD.GJ,c3];rfl
   refine W ?_
   refine Aw (d+1) ?_ ?_ (.t6 17 1 4 11 12 16) (.refl _)
   · exact⟨by omega,by omega,by rw [hI23,AD.GJ,c3];rfl⟩
   · omega
  obtain rfl:d=6:=by omega
  refine W ?_
  refine Aw (k+1) ?_ ?_ (.t3 12 1 11) (.cons _ (.refl _))
  · exact⟨by omega,by omega,by rw [hI13,hI23];rfl⟩
  · omega
 obtain rfl:k=6:=by omega
 refine W ?_
 refine Af (.t3 41 1 40) ?_
 refine A7 (fun(b:Int)=>0≤b∧b≤6∧X.A5=(A4 6 (fun k=>!AD.Ca (X.AF.at k)) (6 - b).toNat && A4 9 X.Bs 9)) (fun(b:Int)=>(6 - b).toNat) (fun(b:Int)=> [(41, .int .i64 b)]) (fun(b:Int)=> []) (0) ?_ J J (fun b hI3=>?_)
 · exact⟨Int.le_refl _,by omega,hI13⟩
 obtain⟨hI31,hI32,hI33⟩:=hI3
 refine W ?_
 refine⟨fun c4 c4p=>?_,fun c4 c4p=>?_⟩
 ·
  rw [Bh _ (by omega)] at hI33
  refine W ?_
  intro b3
  refine⟨fun c5 c5p=>?_,fun c5 c5p=>?_⟩
  ·
   refine W ?_
   refine congrArg Value.bool ?_;rw [hI33,AD.Ca,c5];rfl
  refine W ?_
  refine Aw (b+1) ?_ ?_ (.t3 41 1 40) (.cons _ (.refl _))
  · exact⟨by omega,by omega,by rw [hI33,AD.Ca,c5];rfl⟩
  · omega
 obtain rfl:b=6:=by omega
 refine W ?_
 refine Af (.t2 91 1) ?_
 refine A7 (fun(t:Int)=>0≤t∧t≤9∧X.A5=A4 9 X.Bs (9 - t).toNat) (fun(t:Int)=>(9 - t).toNat) (fun(t:Int)=> [(91, .int .i64 t)]) (fun(t:Int)=> []) (0) ?_ J J (fun t hI4=>?_)
 · exact⟨Int.le_refl _,by omega,hI33⟩
 obtain⟨hI41,hI42,hI43⟩:=hI4
 refine W ?_
 refine⟨fun c6 c6p=>?_,fun c6 c6p=>?_⟩
 ·
  rw [Bh _ (by omega)] at hI43
  refine W ?_
  refine⟨fun c7 c7p=>?_,fun c7 c7p=>?_⟩
  ·
   refine W ?_
   refine congrArg Value.bool ?_;rw [hI43,show X.Bs t=false by simpa using c7];rfl
  refine W ?_
  refine Aw (t+1) ?_ ?_ (.t2 91 1) (.refl _)
  · exact⟨by omega,by omega,by rw [hI43,show X.Bs t=true by simpa using c7];rfl⟩
  · omega
 obtain rfl:t=9:=by omega
 refine W ?_
 refine congrArg Value.bool ?_;rw [hI43];rfl
instance:DI Tryz.prog 113 (type_of% @KL):=⟨@KL⟩
theorem I8 (s:AL)(hs:s.length≤140737488351232)(w:World):Ch Tryz.prog 176 #[Ag s] w fun v w'=>v = .bool (AA.GO s)∧BF w w':=by
 refine Rb Tryz.func176 ?_
 refine W ?_
 refine Af (.t3 6 0 5) ?_
 refine A7 (fun(k:Int)=>0≤k∧k≤(s.length:Int)∧AA.G3 s 0=AA.G3 s k.toNat) (fun(k:Int)=>((s.length:Int) - k).toNat) (fun(k:Int)=> [(6, .int .i64 k)]) (fun(k:Int)=> []) (0) ?_ J J (fun k hI1=>?_)
 · exact⟨by omega,by omega,rfl⟩
 obtain⟨hI11,hI12,hI13⟩:=hI1
 refine W ?_
 refine⟨fun c1 c1p=>?_,fun c1 c1p=>?_⟩
 ·
  have hst:=AA.RJ (s:=s) hI11 (by omega)
  refine W ?_
  refine⟨fun c2 c2p=>?_,fun c2 c2p=>?_⟩
  ·
   rw [show AA.low (s.getD k.toNat 0)=true from c2] at hst
   refine W ?_
   exact congrArg Value.bool (by rw [AA.GO,hI13,hst];rfl)
  rw [show AA.low (s.getD k.toNat 0)=false from c2] at hst
  refine W ?_
  refine Aw (k+1) ?_ ?_ (.t3 6 0 5) (.refl _)
  · exact⟨by omega,by omega,by rw [hI13,hst];rfl⟩
  · omega
 obtain rfl:k=(s.length:Int):=by omega
 rw [AA.UO] at hI13
 refine W ?_
 exact congrArg Value.bool (by rw [AA.GO,hI13];simp only [Bool.true_and];rfl)
instance:DI Tryz.prog 176 (type_of% @I8):=⟨@I8⟩
theorem I9 (X:AD)(b:Int)(w:World):Ch Tryz.prog 192 #[.agg X.enc.toArray, .int .i64 b] w fun v w'=>v = .bool (X.AV b)∧BF w w':=by
 refine Rb Tryz.func192 ?_
 refine W ?_
 intro b1
 rfl
instance:DI Tryz.prog 192 (type_of% @I9):=⟨@I9⟩
theorem KM (X:AD)(i:Int)(w:World):Ch Tryz.prog 191 #[.agg X.enc.toArray, .int .i64 i] w fun v w'=>v = .tuple #[.int .i64 (X.room i).1, .bool (X.room i).2]∧BF w w':=by
 refine Rb Tryz.func191 ?_
 refine W ?_
 intro b1
 refine Af (.t4 1 6 8 2) ?_
 refine Bo (fun(k:Int) (j:Int) (o:Bool)=>0≤k∧k≤10∧X.room i=X.Hk (10 - k).toNat j o) (fun(k:Int) (j:Int) (o:Bool)=>(10 - k).toNat) (fun(k:Int) (j:Int) (o:Bool)=> [(1, .int .i64 j),(6, .bool o),(8, .int .i64 k)]) (fun(k:Int) (j:Int) (o:Bool)=> []) (0) (i) (true) ?_ J J (fun k j o hI1=>?_)
 · exact⟨Int.le_refl _,by omega,rfl⟩
 obtain⟨hI11,hI12,hI13⟩:=hI1
 refine W ?_
 refine⟨fun c1 c1p=>?_,fun c1 c1p=>?_⟩
 ·
  rw [show(10 - k).toNat=(10 - (k+1)).toNat+1 from by omega,AD.Hk] at hI13
  refine W ?_
  refine⟨fun c2 c2p=>?_,fun c2 c2p=>?_⟩
  ·
   refine W ?_
   rw [hI13];simp only [c1,c2,↓reduceIte,Bool.false_eq_true];rfl
  refine W ?_
  intro b2
  refine⟨fun c3 c3p=>?_,fun c3 c3p=>?_⟩
  ·
   refine W ?_
   rw [hI13];simp only [c1,c2,c3,↓reduceIte,Bool.false_eq_true];rfl
  refine W ?_
  refine⟨fun c4 c4p=>?_,fun c4 c4p=>?_⟩
  ·
   refine W ?_
   refine⟨fun c5 c5p=>?_,fun c5 c5p=>?_⟩
   ·
    refine W ?_
    rw [hI13];simp only [c1,c2,c3,c4,c5,↓reduceIte,Bool.false_eq_true];rfl
   refine W ?_
   rw [hI13];simp only [c1,c2,c3,c4,c5,↓reduceIte,Bool.false_eq_true];rfl
  refine W ?_
  refine⟨fun c6 c6p=>?_,fun c6 c6p=>?_⟩
  ·
   refine W ?_
   refine⟨fun c7 c7p=>?_,fun c7 c7p=>?_⟩
   ·
    refine W ?_
    refine Ap (k+1) ((X.AH.at j).at_) (false) ?_ ?_ (.t4 1 6 8 2) (.cons _ (.refl _))
    · exact⟨by omega,by omega,by rw [hI13];simp only [c1,c2,c3,c4,c6,c7,↓reduceIte,Bool.false_eq_true]⟩
    · omega
   refine W ?_
   refine Ap (k+1) ((X.AH.at j).at_) (o) ?_ ?_ (.t4 1 6 8 2) (.cons _ (.refl _))
   · exact⟨by omega,by omega,by rw [hI13];simp only [c1,c2,c3,c4,c6,c7,↓reduceIte,Bool.false_eq_true]⟩
   · omega
  refine W ?_
  rw [hI13];simp only [c1,c2,c3,c4,c6,↓reduceIte,Bool.false_eq_true];rfl
 obtain rfl:k=10:=by omega
 refine W ?_
 rw [hI13];rfl
instance:DI Tryz.prog 191 (type_of% @KM):=⟨@KM⟩
theorem IJ (X:AD)(r:Int)(w:World):Ch Tryz.prog 161 #[.agg X.enc.toArray, .int .i64 r] w fun v w'=>v = .bool (X.ED r)∧BF w w':=by
 refine Rb Tryz.func161 ?_
 refine W ?_
 intro b1
 refine⟨fun c1 c1p=>?_,fun c1 c1p=>?_⟩
 ·
  refine W ?_
  refine congrArg Value.bool ?_;rw [show X.ED r=_ from AN c1]
 have hr:0≤r∧r < 6:=by simp at c1;omega
 refine W ?_
 refine⟨fun c2 c2p=>?_,fun c2 c2p=>?_⟩
 ·
  refine W ?_
  refine congrArg Value.bool ?_;rw [show X.ED r=_ from(AB c1).trans (AN c2)]
 refine W ?_
 refine Af (.t4 23 1 2 22) ?_
 refine A7 (fun(k:Int)=>0≤k∧k≤9∧A4 9 (fun i=>!X.lit r i) 9=A4 9 (fun i=>!X.lit r i) (9 - k).toNat) (fun(k:Int)=>(9 - k).toNat) (fun(k:Int)=> [(23, .int .i64 k)]) (fun(k:Int)=> []) (0) ?_ J J (fun k hI1=>?_)
 · exact⟨by omega,by omega,rfl⟩
 obtain⟨hI11,hI12,hI13⟩:=hI1
 refine W ?_
 refine⟨fun c3 c3p=>?_,fun c3 c3p=>?_⟩
 ·
  rw [Bh _ (by omega)] at hI13
  refine W ?_
  intro b2
  refine⟨fun c4 c4p=>?_,fun c4 c4p=>?_⟩
  ·
   refine W ?_
   refine Aw (k+1) ?_ ?_ (.t4 23 1 2 22) (.cons _ (.refl _))
   · exact⟨by omega,by omega,by rw [hI13,show X.lit r k=false from by rw [AD.lit,c4];first | rfl | exact Bool.and_false _];rfl⟩
   · omega
  refine W ?_
  refine⟨fun c5 c5p=>?_,fun c5 c5p=>?_⟩
  ·
   refine W ?_
   refine congrArg Value.bool ?_;rw [show X.ED r=_ from(AB c1).trans (AB c2),hI13,show X.lit r k=true from by rw [AD.lit,c4,c5];rfl];rfl
  refine W ?_
  refine Aw (k+1) ?_ ?_ (.t4 23 1 2 22) (.cons _ (.refl _))
  · exact⟨by omega,by omega,by rw [hI13,show X.lit r k=false from by rw [AD.lit,c5];first | rfl | exact Bool.and_false _];rfl⟩
  · omega
 obtain rfl:k=9:=by omega
 refine W ?_
 refine congrArg Value.bool ?_;rw [show X.ED r=_ from(AB c1).trans (AB c2),hI13];rfl
instance:DI Tryz.prog 161 (type_of% @IJ):=⟨@IJ⟩
theorem IK (X:AD)(b:Int)(w:World):Ch Tryz.prog 193 #[.agg X.enc.toArray, .int .i64 b] w fun v w'=>v = .bool (X.hidden b)∧BF w w':=by
 refine Rb Tryz.func193 ?_
 refine W ?_
 intro b1
 refine Af (.t3 9 1 8) ?_
 refine A7 (fun(k:Int)=>0≤k∧k≤9∧A4 9 (fun i=>!X.FU b i) 9=A4 9 (fun i=>!X.FU b i) (9 - k).toNat) (fun(k:Int)=>(9 - k).toNat) (fun(k:Int)=> [(9, .int .i64 k)]) (fun(k:Int)=> []) (0) ?_ J J (fun k hI1=>?_)
 · exact⟨by omega,by omega,rfl⟩
 obtain⟨hI11,hI12,hI13⟩:=hI1
 refine W ?_
 refine⟨fun c1 c1p=>?_,fun c1 c1p=>?_⟩
 ·
  rw [Bh _ (by omega)] at hI13
  refine W ?_
  intro b2
  refine⟨fun c2 c2p=>?_,fun c2 c2p=>?_⟩
  ·
   refine W ?_
   refine congrArg Value.bool ?_;rw [AD.hidden,hI13,show X.FU b k=true from c2];rfl
  refine W ?_
  refine Aw (k+1) ?_ ?_ (.t3 9 1 8) (.cons _ (.refl _))
  · exact⟨by omega,by omega,by rw [hI13,show X.FU b k=false from c2];rfl⟩
  · omega
 obtain rfl:k=9:=by omega
 refine W ?_
 refine congrArg Value.bool ?_;rw [AD.hidden,hI13];rfl
instance:DI Tryz.prog 193 (type_of% @IK):=⟨@IK⟩
theorem Jz (X:AD)(a b:Int)(w:World):Ch Tryz.prog 162 #[.agg X.enc.toArray, .int .i64 a, .int .i64 b] w fun v w'=>v = .bool (X.EI a b)∧BF w w':=by
 refine Rb Tryz.func162 ?_
 refine W ?_
 intro b1
 refine⟨fun c1 c1p=>?_,fun c1 c1p=>?_⟩
 ·
  refine W ?_
  refine congrArg Value.bool ?_;rw [show X.EI a b=_ from(AN c1)]
 have hr:(0≤a∧a < 6)∧0≤b∧b < 6:=by simp at c1;have h1:=AD.F5 c1.1;have h2:=AD.F5 c1.2;omega
 refine W ?_
 refine⟨fun c2 c2p=>?_,fun c2 c2p=>?_⟩
 ·
  refine W ?_
  refine congrArg Value.bool ?_;rw [show X.EI a b=_ from((AB c1).trans (AN c2))]
 refine W ?_
 refine Ey 8 9 J J (by kernel_rfl) ?_ ?_
 ·
  refine W ?_
  intro b2 b3
  refine congrArg Value.bool ?_;rw [show X.EI a b=_ from((AB c1).trans (AB c2))]
 ·
  refine W ?_
  intro b4 b5
  refine congrArg Value.bool ?_;rw [show X.EI a b=_ from((AB c1).trans (AB c2))]
instance:DI Tryz.prog 162 (type_of% @Jz):=⟨@Jz⟩
theorem J1 (k:Int)(w:World):Ch Tryz.prog 212 #[.int .i64 k] w fun v w'=>v = .bool (AD.dA k)∧BF w w':=by
 refine Rb Tryz.func212 ?_
 refine W ?_
 rfl
instance:DI Tryz.prog 212 (type_of% @J1):=⟨@J1⟩
theorem Gq (X:AD)(b:Int)(e:Ing.Event)(w:World):Ch Tryz.prog 189 #[.agg X.enc.toArray, .int .i64 b, .agg e.enc.toArray] w fun v w'=>v = .int .i64 (X.Cc b e)∧BF w w':=by
 refine Rb Tryz.func189 ?_
 refine W ?_
 intro b1 b2
 refine⟨fun c1 c1p=>?_,fun c1 c1p=>?_⟩
 ·
  refine W ?_
  rw [show X.Cc b e=_ from(AN c1)];rfl
 have hr:0≤b∧b < 6:=by simp at c1;have h1:=AD.F5 c1;omega
 refine W ?_
 refine⟨fun c2 c2p=>?_,fun c2 c2p=>?_⟩
 ·
  refine W ?_
  refine⟨fun c3 c3p=>?_,fun c3 c3p=>?_⟩
  ·
   refine W ?_
   rw [show X.Cc b e=_ from((AB c1).trans ((AN c2).trans (AN c3)))];rfl
  refine W ?_
  rw [show X.Cc b e=_ from((AB c1).trans ((AN c2).trans (AB c3)))];rfl
 refine W ?_
 refine⟨fun c4 c4p=>?_,fun c4 c4p=>?_⟩
 ·
  refine W ?_
  rw [show X.Cc b e=_ from((AB c1).trans ((AB c2).trans (AN c4)))];rfl
 refine W ?_
 refine⟨fun c5 c5p=>?_,fun c5 c5p=>?_⟩
 ·
  refine W ?_
  refine⟨fun c6 c6p=>?_,fun c6 c6p=>?_⟩
  ·
   refine W ?_
   rw [show X.Cc b e=_ from((AB c1).trans ((AB c2).trans ((AB c4).trans ((AN c5).trans (AN c6)))))];rfl
  refine W ?_
  refine⟨fun c7 c7p=>?_,fun c7 c7p=>?_⟩
  ·
   refine W ?_
   rw [show X.Cc b e=_ from((AB c1).trans ((AB c2).trans ((AB c4).trans ((AN c5).trans ((AB c6).trans (AN c7))))))];rfl
  refine W ?_
  rw [show X.Cc b e=_ from((AB c1).trans ((AB c2).trans ((AB c4).trans ((AN c5).trans ((AB c6).trans (AB c7))))))];rfl
 refine W ?_
 refine⟨fun c8 c8p=>?_,fun c8 c8p=>?_⟩
 ·
  refine W ?_
  rw [show X.Cc b e=_ from((AB c1).trans ((AB c2).trans ((AB c4).trans ((AB c5).trans (AN c8)))))];rfl
 refine W ?_
 rw [show X.Cc b e=_ from((AB c1).trans ((AB c2).trans ((AB c4).trans ((AB c5).trans (AB c8)))))];rfl
instance:DI Tryz.prog 189 (type_of% @Gq):=⟨@Gq⟩
theorem KZ (X:AD)(e:Ing.Event)(w:World):Ch Tryz.prog 152 #[.agg X.enc.toArray, .agg e.enc.toArray] w fun v w'=>v = .agg (X.GZ e 6).enc.toArray∧BF w w':=by
 refine Rb Tryz.func152 ?_
 refine W ?_
 intro b1 b2 b3
 refine Af (.t4 6 2 3 4) ?_
 refine AY (.t .h) ?_
 refine A7 (fun(k:Int)=>0≤k∧k≤6) (fun(k:Int)=>(6 - k).toNat) (fun(k:Int)=> [(6, .int .i64 k)]) (fun(k:Int)=> [AJ.box b2 100 (Ing.Event.enc (X.GZ e k.toNat))]) (0) ?_ J J (fun k hI1=>?_)
 · exact⟨Int.le_refl _,by omega⟩
 obtain⟨hI11,hI12⟩:=hI1
 refine W ?_
 refine⟨fun c1 c1p=>?_,fun c1 c1p=>?_⟩
 ·
  try dsimp only at c1p
  refine W ?_
  refine Aw (k+1) ?_ ?_ (.t4 6 2 3 4) (by rw [AD.Qt (by omega)];exact(.refl _))
  · exact⟨by omega,by omega⟩
  · omega
 try dsimp only at c1p
 obtain rfl:k=6:=by omega
 refine W ?_
 rfl
instance:DI Tryz.prog 152 (type_of% @KZ):=⟨@KZ⟩
theorem Bt (b:Nat)(T:AA)(g:Hd)(e:Ing.Event)(hg:g.len=T.out.length)(hb:0≤T.b∧T.b < 6)(ho:e.other < 6)(hn:T.out.length≤100000):Fu Tryz.prog 114 #[.pointer (some ⟨b,0,none⟩), .agg e.enc.toArray] [AJ.box b 175 (Ab.enc ⟨T.w,T.b,g⟩),AJ.own g 100 16 (T.out.flatMap Ing.Event.enc)] (fun v B=>∃ g':Hd,v = .tuple #[]∧g'.len=(T.Am e).out.length∧B = [AJ.box b 175 (Ab.enc ⟨(T.Am e).w,(T.Am e).b,g'⟩),AJ.own g' 100 16 ((T.Am e).out.flatMap Ing.Event.enc)]):=by
 intro w hS0
 refine AR _ _ Tryz.func114 J J J (hS0) ?_
 refine W ?_
 intro b1 b2
 refine⟨fun c1 c1p=>?_,fun c1 c1p=>?_⟩
 ·
  refine W ?_
  intro b3 h1 h1l h1z
  intro w1 hS
  have hS:=(hS.perm (AK.perm (.c (.t (.t (.t .h))) (.c (.t (.t (.t .h))) .n)))).AM
  refine⟨_,⟨?gqTrue,J,?g9lTrue,?g9BTrue⟩,hS⟩
  case g9BTrue=>rw [AA.Am,show T.DT e=_ from AN c1];rfl
  case g9lTrue=>simp only [AA.BG];(try dsimp only at *);omega
 refine W ?_
 intro b4 h2 h2l h2z
 intro w1 hS
 have hS:=(hS.perm (AK.perm (.c (.t (.t (.t .h))) (.c (.t (.t (.t .h))) .n)))).AM
 refine⟨_,⟨?gqFalse,J,?g9lFalse,?g9BFalse⟩,hS⟩
 case g9BFalse=>rw [AA.Am,show T.DT e=_ from AB c1];rfl
 case g9lFalse=>simp only [AA.BG];(try dsimp only at *);omega
theorem GS (b:Nat)(T:AA)(g:Hd)(k:Int)(hg:g.len=T.out.length)(hb:0≤T.b∧T.b < 6)(hn:T.out.length≤100000):Fu Tryz.prog 153 #[.pointer (some ⟨b,0,none⟩), .int .i64 k] [AJ.box b 175 (Ab.enc ⟨T.w,T.b,g⟩),AJ.own g 100 16 (T.out.flatMap Ing.Event.enc)] (fun v B=>∃ g':Hd,v = .tuple #[]∧g'.len=(T.kind k).out.length∧B = [AJ.box b 175 (Ab.enc ⟨(T.kind k).w,(T.kind k).b,g'⟩),AJ.own g' 100 16 ((T.kind k).out.flatMap Ing.Event.enc)]):=by
 intro w hS0
 refine AR _ _ Tryz.func153 J J J (hS0) ?_
 refine W ?_
 refine Cl (.c .h (.c .h .n)) (Bt _ _ _ (AA.Dn k) hg hb (show(-1:Int) < 6 by decide) hn) (fun v1 B hv=>?_)
 obtain⟨y2,rfl,y3,rfl⟩:=hv
 refine W ?_
 intro w1 hS
 have hS:=(hS.perm (AK.perm (.c .h (.c .h .n)))).AM
 exact⟨_,⟨_,J,by assumption,rfl⟩,hS⟩
theorem A8 (b:Nat)(T:AA)(g:Hd)(u:AL)(hg:g.len=T.out.length)(hb:0≤T.b∧T.b < 6)(hn:T.out.length≤100000):Fu Tryz.prog 159 #[.pointer (some ⟨b,0,none⟩),Ag u] [AJ.box b 175 (Ab.enc ⟨T.w,T.b,g⟩),AJ.own g 100 16 (T.out.flatMap Ing.Event.enc)] (fun v B=>∃ g':Hd,v = .tuple #[]∧g'.len=(T.tell u).out.length∧B = [AJ.box b 175 (Ab.enc ⟨(T.tell u).w,(T.tell u).b,g'⟩),AJ.own g' 100 16 ((T.tell u).out.flatMap Ing.Event.enc)]):=by
 intro w hS0
 refine AR _ _ Tryz.func159 J J J (hS0) ?_
 refine W ?_
 refine Cl (.c .h (.c .h .n)) (Bt _ _ _ { AA.Dn 16 with text:=u } hg hb (show(-1:Int) < 6 by decide) hn) (fun v1 B hv=>?_)
 obtain⟨y2,rfl,y3,rfl⟩:=hv
 refine W ?_
 intro w1 hS
 have hS:=(hS.perm (AK.perm (.c .h (.c .h .n)))).AM
 exact⟨_,⟨_,J,by assumption,rfl⟩,hS⟩
theorem IQ (d:Int)(w:World)(gl0:GV 1 AD.Be w):Ch Tryz.prog 156 #[.int .i64 d] w fun v w'=>v=Ag (AD.called d)∧BF w w':=by
 refine Rb Tryz.func156 ?_
 refine W ?_
 refine⟨fun c1 c1p=>?_,fun c1 c1p=>?_⟩
 ·
  refine W ?_
  rw [show AD.called d=_ from AN c1];rfl
 have hr:0≤d∧d < 6:=by simp at c1;omega
 refine W ?_
 refine Gt (Ko gl0 J LG (AD.Gu hr.1 hr.2)) ?_
 refine W ?_
 rw [show AD.called d=_ from AB c1];rfl
instance:DI Tryz.prog 156 (type_of% @IQ):=⟨@IQ⟩
theorem E0 (X:AD)(BZ at_:Int):Fu Tryz.prog 125 #[.agg X.enc.toArray, .int .i64 BZ, .int .i64 at_] [] (fun v B=>∃ h':Hd,v=h'.val∧h'.len=(X.has BZ at_).length∧B = [AJ.own h' 3 1 ((X.has BZ at_).flatMap AT)]):=by
 intro w hS0
 refine AR _ _ Tryz.func125 J J J (hS0) ?_
 refine W ?_
 intro b1
 refine Af (.t5 7 12 1 2 11) ?_
 refine CG AT 3 1 ?_
 refine Bo (fun(k:Int) (xs:List Int) (g:Hd)=>0≤k∧k≤9∧xs=X.Lj BZ at_ k.toNat∧g.len=xs.length) (fun(k:Int) (xs:List Int) (g:Hd)=>(9 - k).toNat) (fun(k:Int) (xs:List Int) (g:Hd)=> [(7,g.val),(12, .int .i64 k)]) (fun(k:Int) (xs:List Int) (g:Hd)=> [AJ.own g 3 1 (xs.flatMap AT)]) (0) ([]) (_) ?_ J J (fun k xs g hI1=>?_)
 · exact⟨by omega,by omega,rfl,rfl⟩
 obtain⟨hI11,hI12,hI13,hI14⟩:=hI1
 refine W ?_
 refine⟨fun c1 c1p=>?_,fun c1 c1p=>?_⟩
 ·
  have hxl:=AD.PM X BZ at_ k.toNat
  rw [← hI13] at hxl
  refine W ?_
  intro b2
  refine⟨fun c2 c2p=>?_,fun c2 c2p=>?_⟩
  ·
   refine W ?_
   intro b3 h1 h1l h1z
   refine Ap (k+1) _ _ ?_ ?_ (.t5 7 12 1 2 11) (.cons _ (.cons _ (.refl _)))
   · exact⟨by omega,by omega,by rw [AD.Vn hI11 c2,← hI13],(by(try dsimp only at *)<;>(try simp only [List.length_append,List.length_cons,List.length_nil])<;>omega)⟩
   · omega
  refine W ?_
  refine Ap (k+1) _ _ ?_ ?_ (.t5 7 12 1 2 11) (.cons _ (.refl _))
  · exact⟨by omega,by omega,by rw [AD.Vm hI11 c2,← hI13],(by(try dsimp only at *)<;>(try simp only [List.length_append,List.length_cons,List.length_nil])<;>omega)⟩
  · omega
 obtain rfl:k=9:=by omega
 refine W ?_
 intro w1 hS
 have hS:=(hS.perm (AK.perm (.c .h .n))).AM
 exact⟨_,⟨_,J,by rw [AD.PN,← hI13];assumption,by rw [AD.PN,← hI13]⟩,hS⟩
end Go.Proofs.YtlmmdjaoikaceaaGreatDoor
