/- What the functions that the law TopAlone reaches compute: walks, part 1. No condition. -/
import Derived.Test.YtoidpggbbfncpaaGreatDoorCards
import Derived.Test.YtoidpggbbfncpaaGreatDoorTie
import Derived.Deep.DeepHandedRow
import Derived.Test.YtoidpggbbfncpaaGreatDoorRows
import Derived.Test.YtoidpggbbfncpaaGreatDoorTopAloneEc3
import Derived.Test.YtoidpggbbfncpaaGreatDoorTopAloneRa1
import Derived.Test.YtoidpggbbfncpaaGreatDoorTopAloneRb1
import Derived.Test.YtoidpggbbfncpaaGreatDoorTopAloneRc1
set_option linter.unusedSimpArgs false
set_option linter.unusedVariables false
set_option maxRecDepth 100000
set_option maxHeartbeats 1000000
namespace Go.Proofs.YtoidpggbbfncpaaGreatDoor
open Go Go.Ing Go.RowKit Go.ChangeShapes Go.WideShapes Go.ChangeAt
theorem NQ:ZV Tryz.prog 35 (.agg (AI.enc (default:AI)).toArray):=Em (by kernel_rfl)
theorem DD:Sz Tryz.prog 3 1:=D3 (by kernel_rfl)
theorem VD:ZV Tryz.prog 23 (.agg (CA (n:=6) Az (Vector.replicate 6 default)).toArray):=Em (by kernel_rfl)
theorem Km:Sz Tryz.prog 4 1:=D3 (by kernel_rfl)
theorem bA:ZV Tryz.prog 24 (.agg (CA (n:=6) Cd (Vector.replicate 6 default)).toArray):=Em (by kernel_rfl)
theorem Ez:Sz Tryz.prog 9 1:=D3 (by kernel_rfl)
theorem YQ:Sz Tryz.prog 23 6:=D3 (by kernel_rfl)
theorem ck:Sz Tryz.prog 24 6:=D3 (by kernel_rfl)
theorem Vp:Hg Tryz.prog 26 [(0,1),(1,1),(2,6),(8,6)]:=⟨_,Tryz.underlying26,fun w=>by simp [Ez w,Km w,YQ w,ck w]⟩
theorem N0:ZV Tryz.prog 26 (.agg (Room.enc (default:Room)).toArray):=Em (by kernel_rfl)
theorem RF:Sz Tryz.prog 26 14:=D3 (by kernel_rfl)
theorem eG:IS Tryz.prog 95 14:=Ny Tryz.underlying95 RF
theorem OM:PF Tryz.prog 26 14:=FD Tryz.underlying26 rfl RF
theorem cx:Sz Tryz.prog 27 84:=D3 (by kernel_rfl)
theorem G7:FA Tryz.prog 35 0 0:=Bx Tryz.underlying35 rfl cx
theorem Nw:IA Tryz.prog 27 6 14:=Jy Tryz.underlying27 RF
theorem Q5:Hg Tryz.prog 29 [(0,1),(1,1),(2,1),(3,1),(4,1)]:=⟨_,Tryz.underlying29,fun w=>by simp [Ez w,DD w,Km w]⟩
theorem Kl:ZV Tryz.prog 29 (.agg (Ao.enc (default:Ao)).toArray):=Em (by kernel_rfl)
theorem NP:Sz Tryz.prog 29 5:=D3 (by kernel_rfl)
theorem dk:IS Tryz.prog 96 5:=Ny Tryz.underlying96 NP
theorem Mv:PF Tryz.prog 29 5:=FD Tryz.underlying29 rfl NP
theorem bW:Sz Tryz.prog 30 45:=D3 (by kernel_rfl)
theorem Cx:FA Tryz.prog 35 1 84:=Bx Tryz.underlying35 rfl bW
theorem GW:IA Tryz.prog 30 9 5:=Jy Tryz.underlying30 NP
theorem W7:Hg Tryz.prog 32 [(0,1),(1,1),(2,1),(3,1),(4,1),(5,1)]:=⟨_,Tryz.underlying32,fun w=>by simp [Ez w,Km w,DD w]⟩
theorem L5:ZV Tryz.prog 32 (.agg (An.enc (default:An)).toArray):=Em (by kernel_rfl)
theorem bY:Sz Tryz.prog 33 36:=D3 (by kernel_rfl)
theorem Br:FA Tryz.prog 35 2 129:=Bx Tryz.underlying35 rfl bY
theorem Ko:Sz Tryz.prog 32 6:=D3 (by kernel_rfl)
theorem C8:IA Tryz.prog 33 6 6:=Jy Tryz.underlying33 Ko
theorem EF:Sz Tryz.prog 35 165:=D3 (by kernel_rfl)
theorem Ba:PF Tryz.prog 35 165:=FD Tryz.underlying35 rfl EF
theorem dr:CF Tryz.prog 15:=Tryz.call15
theorem cH:Sz Tryz.prog 99 88:=D3 (by kernel_rfl)
theorem R8:Sz Tryz.prog 53 1:=D3 (by kernel_rfl)
theorem ba:Hg Tryz.prog 101 [(0,165),(165,88),(253,1),(254,1)]:=⟨_,Tryz.underlying101,fun w=>by simp [EF w,cH w,DD w,R8 w]⟩
theorem ay:ZV Tryz.prog 101 (.agg (AM.enc (default:AM)).toArray):=Em (by kernel_rfl)
theorem R3:ZV Tryz.prog 9 (BT []):=Em (by kernel_rfl)
theorem WW:BY Tryz.prog 9 16:=U0 (by kernel_rfl)
theorem Yq:ZV Tryz.prog 75 (.agg (A6.enc ⟨[],false,false,⟨none,0,0⟩⟩).toArray):=Em (by kernel_rfl)
theorem MT:Sz Tryz.prog 52 1:=D3 (by kernel_rfl)
theorem Ex:FA Tryz.prog 75 3 3:=Bx Tryz.underlying75 rfl MT
theorem Eh:Ra Tryz.prog 52:=JH Tryz.underlying52 rfl
theorem LM:Sz Tryz.prog 75 4:=D3 (by kernel_rfl)
theorem GH:PF Tryz.prog 75 4:=FD Tryz.underlying75 rfl LM
theorem Io:IS Tryz.prog 52 1:=Ny Tryz.underlying52 Ez
theorem CM:Ra Tryz.prog 9:=JH Tryz.underlying9 rfl
theorem WM:CF Tryz.prog 69:=Tryz.call69
theorem Th:ZV Tryz.prog 65 (.agg (Ap.enc ⟨⟨none,0,0⟩,0,false,[],false⟩).toArray):=Em (by kernel_rfl)
theorem Mm:FA Tryz.prog 65 2 2:=Bx Tryz.underlying65 rfl Km
theorem KK:FA Tryz.prog 65 1 1:=Bx Tryz.underlying65 rfl DD
theorem FH:Sz Tryz.prog 65 5:=D3 (by kernel_rfl)
theorem Co:PF Tryz.prog 65 5:=FD Tryz.underlying65 rfl FH
theorem mix:Tryz.prog.follows .mixedOrders=true:=by kernel_rfl
theorem cW:CF Tryz.prog 116:=Tryz.call116
theorem ZU:CF Tryz.prog 115:=Tryz.call115
theorem G9:FA Tryz.prog 29 1 1:=Bx Tryz.underlying29 rfl DD
theorem A5:Ra Tryz.prog 3:=JH Tryz.underlying3 rfl
theorem GP:FA Tryz.prog 29 4 4:=Bx Tryz.underlying29 rfl Km
theorem DO:Ra Tryz.prog 4:=JH Tryz.underlying4 rfl
theorem DN:FA Tryz.prog 29 3 3:=Bx Tryz.underlying29 rfl DD
theorem Fe:FA Tryz.prog 29 2 2:=Bx Tryz.underlying29 rfl DD
theorem Ie:FA Tryz.prog 32 1 1:=Bx Tryz.underlying32 rfl Km
theorem cT:PF Tryz.prog 27 84:=FD Tryz.underlying27 rfl cx
theorem MZ:FA Tryz.prog 26 2 2:=Bx Tryz.underlying26 rfl YQ
theorem Za:PF Tryz.prog 23 6:=FD Tryz.underlying23 rfl YQ
theorem MR:FA Tryz.prog 26 3 8:=Bx Tryz.underlying26 rfl ck
theorem Vg:IA Tryz.prog 24 6 1:=Jy Tryz.underlying24 Km
theorem ZX:PF Tryz.prog 33 36:=FD Tryz.underlying33 rfl bY
theorem F2:PF Tryz.prog 32 6:=FD Tryz.underlying32 rfl Ko
theorem C6:FA Tryz.prog 32 3 3:=Bx Tryz.underlying32 rfl DD
theorem Js:FA Tryz.prog 32 4 4:=Bx Tryz.underlying32 rfl DD
theorem GR:FA Tryz.prog 32 5 5:=Bx Tryz.underlying32 rfl DD
theorem du:CF Tryz.prog 68:=Tryz.call68
theorem aL:FA Tryz.prog 26 1 1:=Bx Tryz.underlying26 rfl Km
theorem X6:PF Tryz.prog 30 45:=FD Tryz.underlying30 rfl bW
theorem eI:CF Tryz.prog 19:=Tryz.call19
theorem Xe:CF Tryz.prog 159:=Tryz.call159
theorem UL:CF Tryz.prog 129:=Tryz.call129
theorem XX:FA Tryz.prog 32 2 2:=Bx Tryz.underlying32 rfl Km
theorem Ze:CF Tryz.prog 160:=Tryz.call160
theorem Qz:FA Tryz.prog 56 2 2:=Bx Tryz.underlying56 rfl DD
theorem G6:FA Tryz.prog 56 3 3:=Bx Tryz.underlying56 rfl DD
theorem Oc:CF Tryz.prog 130:=Tryz.call130
theorem S5:FA Tryz.prog 56 0 0:=Bx Tryz.underlying56 rfl DD
theorem Xx:FA Tryz.prog 56 1 1:=Bx Tryz.underlying56 rfl DD
theorem bt:CF Tryz.prog 173:=Tryz.call173
theorem JA:ZV Tryz.prog 56 (.agg (Ing.Event.enc (default:Ing.Event)).toArray):=Em (by kernel_rfl)
theorem PB:Sz Tryz.prog 56 16:=D3 (by kernel_rfl)
theorem OB:PF Tryz.prog 56 16:=FD Tryz.underlying56 rfl PB
theorem cQ:CF Tryz.prog 157:=Tryz.call157
theorem NY:FA Tryz.prog 56 10 10:=Bx Tryz.underlying56 rfl YQ
theorem Rh:IA Tryz.prog 23 6 1:=Jy Tryz.underlying23 DD
theorem CV:FA Tryz.prog 163 1 165:=Bx Tryz.underlying163 rfl DD
theorem BC:FA Tryz.prog 163 0 0:=Bx Tryz.underlying163 rfl EF
theorem LX:FA Tryz.prog 32 0 0:=Bx Tryz.underlying32 rfl Ez
theorem Wo:FA Tryz.prog 56 6 6:=Bx Tryz.underlying56 rfl Ez
theorem XG:FA Tryz.prog 56 7 7:=Bx Tryz.underlying56 rfl Ez
theorem CO:FA Tryz.prog 163 2 166:=Bx Tryz.underlying163 rfl R8
theorem Dw:Ra Tryz.prog 53:=JH Tryz.underlying53 rfl
theorem Zc:CF Tryz.prog 123:=Tryz.call123
theorem X7:BY Tryz.prog 56 160:=U0 (by kernel_rfl)
theorem N9:Hg Tryz.prog 56 [(0,1),(1,1),(2,1),(3,1),(4,1),(5,1),(6,1),(7,1),(8,1),(9,1),(10,6)]:=⟨_,Tryz.underlying56,fun w=>by simp [DD w,Ez w,YQ w]⟩
theorem O4:CF Tryz.prog 96:=Tryz.call96
theorem Xo:IA Tryz.prog 133 21 1:=Jy Tryz.underlying133 Ez
theorem ao:ZV Tryz.prog 3 (.int .i64 0):=Em (by kernel_rfl)
theorem dE:BY Tryz.prog 3 8:=U0 (by kernel_rfl)
theorem G2:IS Tryz.prog 169 1:=Ny Tryz.underlying169 DD
theorem Mn:FA Tryz.prog 29 0 0:=Bx Tryz.underlying29 rfl Ez
theorem EJ:CF Tryz.prog 127:=Tryz.call127
theorem Z1:FA Tryz.prog 26 0 0:=Bx Tryz.underlying26 rfl Ez
theorem bZ:CF Tryz.prog 52:=Tryz.call52
theorem Sr:CF Tryz.prog 102:=Tryz.call102
theorem ZZ:CF Tryz.prog 101:=Tryz.call101
theorem Zw:CF Tryz.prog 43:=Tryz.call43
theorem dN:CF Tryz.prog 46:=Tryz.call46
theorem UM:Hg Tryz.prog 163 [(0,165),(165,1),(166,1)]:=⟨_,Tryz.underlying163,fun w=>by simp [EF w,DD w,R8 w]⟩
theorem US:ZV Tryz.prog 163 (.agg (Ae.enc (default:Ae)).toArray):=Em (by kernel_rfl)
theorem Uk:CF Tryz.prog 124:=Tryz.call124
theorem Ux:CF Tryz.prog 100:=Tryz.call100
theorem Zl:Sz Tryz.prog 104 1:=D3 (by kernel_rfl)
theorem RB:FA Tryz.prog 107 0 0:=Bx Tryz.underlying107 rfl Zl
theorem Wm:Ra Tryz.prog 104:=JH Tryz.underlying104 rfl
theorem Tb:∃ i,Tryz.prog.info? 107=some i∧i.size≠0:=by
  have h:(Tryz.prog.info? 107).map (·.size)=some 2:=by kernel_rfl
  obtain⟨i,h1,h2⟩:=Option.map_eq_some_iff.1 h
  exact⟨i,h1,by omega⟩
theorem Z5:CF Tryz.prog 71:=Tryz.call71
theorem Ub:Sz Tryz.prog 105 1:=D3 (by kernel_rfl)
theorem E6:FA Tryz.prog 107 1 1:=Bx Tryz.underlying107 rfl Ub
theorem IX:Ra Tryz.prog 105:=JH Tryz.underlying105 rfl
theorem WB:Sz Tryz.prog 5 1:=D3 (by kernel_rfl)
theorem aA:ZV Tryz.prog 5 (.int .u8 0):=Em (by kernel_rfl)
theorem eO:BY Tryz.prog 5 1:=U0 (by kernel_rfl)
theorem ed:Tryz.prog.cellsOf 5=1:=by kernel_rfl
theorem dF:CF Tryz.prog 49:=Tryz.call49
theorem Um:ZV Tryz.prog 107 (.agg (Df.enc ⟨none,⟨none,0,0⟩⟩).toArray):=Em (by kernel_rfl)
theorem Yt:CF Tryz.prog 50:=Tryz.call50
theorem PY:CF Tryz.prog 51:=Tryz.call51
theorem aS:FA Tryz.prog 56 8 8:=Bx Tryz.underlying56 rfl Ez
theorem aZ:FA Tryz.prog 56 4 4:=Bx Tryz.underlying56 rfl DD
theorem Zq:FA Tryz.prog 56 9 9:=Bx Tryz.underlying56 rfl Ez
theorem Z9:FA Tryz.prog 56 5 5:=Bx Tryz.underlying56 rfl DD
theorem dw:CF Tryz.prog 53:=Tryz.call53
theorem Yu:CF Tryz.prog 54:=Tryz.call54
theorem G4:FA Tryz.prog 65 0 0:=Bx Tryz.underlying65 rfl MT
theorem IU:FA Tryz.prog 65 3 3:=Bx Tryz.underlying65 rfl Ez
theorem aP:CF Tryz.prog 44:=Tryz.call44
theorem JT:FA Tryz.prog 65 4 4:=Bx Tryz.underlying65 rfl Km
theorem Dy:FA Tryz.prog 98 4 16:=Bx Tryz.underlying98 rfl FH
theorem eD:CF Tryz.prog 82:=Tryz.call82
theorem Qy:FA Tryz.prog 98 5 21:=Bx Tryz.underlying98 rfl MT
theorem Q3:FA Tryz.prog 101 3 254:=Bx Tryz.underlying101 rfl R8
theorem eK:IS Tryz.prog 53 16:=Ny Tryz.underlying53 PB
theorem F3:FA Tryz.prog 101 1 165:=Bx Tryz.underlying101 rfl cH
theorem TD:Sz Tryz.prog 98 22:=D3 (by kernel_rfl)
theorem PG:IA Tryz.prog 99 4 22:=Jy Tryz.underlying99 TD
theorem Ja:FA Tryz.prog 98 0 0:=Bx Tryz.underlying98 rfl DD
theorem IV:FA Tryz.prog 98 1 1:=Bx Tryz.underlying98 rfl DD
theorem dL:CF Tryz.prog 23:=Tryz.call23
theorem TY:CF Tryz.prog 64:=Tryz.call64
theorem ET:FA Tryz.prog 101 0 0:=Bx Tryz.underlying101 rfl EF
theorem bR:CF Tryz.prog 114:=Tryz.call114
theorem Vj:CF Tryz.prog 79:=Tryz.call79
theorem Lo:ZV Tryz.prog 151 (.agg (Order.enc (default:Order)).toArray):=Em (by kernel_rfl)
theorem Sn:Hg Tryz.prog 151 [(0,1),(1,1),(2,1),(3,1),(4,1),(5,1)]:=⟨_,Tryz.underlying151,fun w=>by simp [DD w,Km w,Ez w]⟩
theorem ED:Sz Tryz.prog 151 6:=D3 (by kernel_rfl)
theorem CB:PF Tryz.prog 151 6:=FD Tryz.underlying151 rfl ED
theorem dn:CF Tryz.prog 87:=Tryz.call87
theorem cB:CF Tryz.prog 76:=Tryz.call76
theorem Zd:CF Tryz.prog 174:=Tryz.call174
theorem W4:CF Tryz.prog 176:=Tryz.call176
theorem bG:CF Tryz.prog 179:=Tryz.call179
theorem XC:IS Tryz.prog 105 1:=Ny Tryz.underlying105 WB
theorem bh:Ra Tryz.prog 5:=JH Tryz.underlying5 rfl
theorem bz:CF Tryz.prog 167:=Tryz.call167
theorem cc:CF Tryz.prog 168:=Tryz.call168
theorem Zf:CF Tryz.prog 180:=Tryz.call180
theorem cN:Sz Tryz.prog 133 21:=D3 (by kernel_rfl)
theorem aC:PF Tryz.prog 133 21:=FD Tryz.underlying133 rfl cN
theorem bp:CF Tryz.prog 169:=Tryz.call169
theorem dt:CF Tryz.prog 59:=Tryz.call59
theorem bC:CF Tryz.prog 181:=Tryz.call181
theorem cI:CF Tryz.prog 170:=Tryz.call170
theorem ZN:CF Tryz.prog 171:=Tryz.call171
theorem cK:CF Tryz.prog 30:=Tryz.call30
theorem cV:CF Tryz.prog 172:=Tryz.call172
theorem bN:CF Tryz.prog 151:=Tryz.call151
theorem Ip:CF Tryz.prog 150:=Tryz.call150
theorem Zj:CF Tryz.prog 152:=Tryz.call152
theorem cm:CF Tryz.prog 153:=Tryz.call153
theorem bk:CF Tryz.prog 94:=Tryz.call94
theorem RA:FA Tryz.prog 151 5 5:=Bx Tryz.underlying151 rfl Ez
theorem Fq:FA Tryz.prog 151 3 3:=Bx Tryz.underlying151 rfl Ez
theorem GZ:FA Tryz.prog 151 1 1:=Bx Tryz.underlying151 rfl DD
theorem U6:CF Tryz.prog 154:=Tryz.call154
theorem HN:FA Tryz.prog 151 2 2:=Bx Tryz.underlying151 rfl Km
theorem ZT:CF Tryz.prog 155:=Tryz.call155
theorem ZR:CF Tryz.prog 156:=Tryz.call156
theorem IN:FA Tryz.prog 151 4 4:=Bx Tryz.underlying151 rfl Ez
theorem Zm:CF Tryz.prog 128:=Tryz.call128
theorem Ur:CF Tryz.prog 136:=Tryz.call136
theorem Zg:CF Tryz.prog 125:=Tryz.call125
theorem ZW:CF Tryz.prog 131:=Tryz.call131
theorem X4:CF Tryz.prog 132:=Tryz.call132
theorem QS:CF Tryz.prog 134:=Tryz.call134
theorem bc:CF Tryz.prog 161:=Tryz.call161
theorem ZP:CF Tryz.prog 133:=Tryz.call133
theorem OZ:CF Tryz.prog 135:=Tryz.call135
theorem DG:FA Tryz.prog 151 0 0:=Bx Tryz.underlying151 rfl DD
theorem bl:CF Tryz.prog 137:=Tryz.call137
theorem cO:CF Tryz.prog 138:=Tryz.call138
theorem cq:CF Tryz.prog 139:=Tryz.call139
theorem VA:CF Tryz.prog 140:=Tryz.call140
theorem eJ:CF Tryz.prog 99:=Tryz.call99
theorem bg:CF Tryz.prog 103:=Tryz.call103
theorem bV:CF Tryz.prog 104:=Tryz.call104
theorem bo:CF Tryz.prog 105:=Tryz.call105
theorem av:CF Tryz.prog 106:=Tryz.call106
theorem bm:CF Tryz.prog 107:=Tryz.call107
theorem ZK:CF Tryz.prog 84:=Tryz.call84
theorem Kp:Sz Tryz.prog 69 10:=D3 (by kernel_rfl)
theorem VQ:Hg Tryz.prog 98 [(0,1),(1,1),(2,10),(12,4),(16,5),(21,1)]:=⟨_,Tryz.underlying98,fun w=>by simp [DD w,Kp w,LM w,FH w,MT w]⟩
theorem Vi:ZV Tryz.prog 98 (.agg (A3.enc (default:A3)).toArray):=Em (by kernel_rfl)
theorem bP:CF Tryz.prog 122:=Tryz.call122
theorem aj:CF Tryz.prog 67:=Tryz.call67
theorem LI:FA Tryz.prog 98 3 12:=Bx Tryz.underlying98 rfl LM
theorem dP:CF Tryz.prog 91:=Tryz.call91
theorem dX:CF Tryz.prog 92:=Tryz.call92
theorem dy:CF Tryz.prog 93:=Tryz.call93
theorem dz:CF Tryz.prog 95:=Tryz.call95
theorem dT:CF Tryz.prog 97:=Tryz.call97
theorem cR:CF Tryz.prog 186:=Tryz.call186
theorem bx:CF Tryz.prog 175:=Tryz.call175
theorem bU:CF Tryz.prog 158:=Tryz.call158
theorem bj:CF Tryz.prog 126:=Tryz.call126
theorem Xu:CF Tryz.prog 62:=Tryz.call62
theorem dJ:CF Tryz.prog 98:=Tryz.call98
theorem LH:FA Tryz.prog 98 2 2:=Bx Tryz.underlying98 rfl Kp
theorem Qr:FA Tryz.prog 69 5 9:=Bx Tryz.underlying69 rfl DD
theorem da:CF Tryz.prog 83:=Tryz.call83
theorem dK:CF Tryz.prog 77:=Tryz.call77
theorem dQ:CF Tryz.prog 78:=Tryz.call78
theorem SG:CF Tryz.prog 65:=Tryz.call65
theorem bH:Sz Tryz.prog 67 3:=D3 (by kernel_rfl)
theorem LD:FA Tryz.prog 69 3 3:=Bx Tryz.underlying69 rfl bH
theorem Kz:IA Tryz.prog 67 3 1:=Jy Tryz.underlying67 DD
theorem J4:FA Tryz.prog 69 4 6:=Bx Tryz.underlying69 rfl bH
theorem F0:FA Tryz.prog 69 0 0:=Bx Tryz.underlying69 rfl DD
theorem LS:FA Tryz.prog 69 1 1:=Bx Tryz.underlying69 rfl DD
theorem HD:FA Tryz.prog 69 2 2:=Bx Tryz.underlying69 rfl Ez
theorem aT:ZV Tryz.prog 69 (.agg (AR.enc (default:AR)).toArray):=Em (by kernel_rfl)
theorem af:CF Tryz.prog 73:=Tryz.call73
theorem EC:PF Tryz.prog 69 10:=FD Tryz.underlying69 rfl Kp
theorem Zu:CF Tryz.prog 55:=Tryz.call55
theorem Rk:CF Tryz.prog 74:=Tryz.call74
theorem bS:ZV Tryz.prog 145 (.agg (CA (n:=2) Az (Vector.replicate 2 default)).toArray):=Em (by kernel_rfl)
theorem eM:CF Tryz.prog 80:=Tryz.call80
theorem eH:CF Tryz.prog 81:=Tryz.call81
theorem Yk:CF Tryz.prog 75:=Tryz.call75
theorem dx:CF Tryz.prog 56:=Tryz.call56
theorem cr:CF Tryz.prog 57:=Tryz.call57
theorem dS:CF Tryz.prog 58:=Tryz.call58
theorem IZ:FA Tryz.prog 75 0 0:=Bx Tryz.underlying75 rfl Ez
theorem LY:FA Tryz.prog 75 1 1:=Bx Tryz.underlying75 rfl Km
theorem LZ:FA Tryz.prog 75 2 2:=Bx Tryz.underlying75 rfl Km
theorem aU:CF Tryz.prog 70:=Tryz.call70
theorem df:CF Tryz.prog 45:=Tryz.call45
theorem Kk:ZV Tryz.prog 44 (.agg (Bp.enc (default:Bp)).toArray):=Em (by kernel_rfl)
theorem Q9:FA Tryz.prog 101 2 253:=Bx Tryz.underlying101 rfl DD
theorem cX:Sz Tryz.prog 42 1:=D3 (by kernel_rfl)
theorem NO:Hg Tryz.prog 44 [(0,1),(1,1)]:=⟨_,Tryz.underlying44,fun w=>by simp [cX w,Ez w]⟩
theorem Ki:Sz Tryz.prog 44 2:=D3 (by kernel_rfl)
theorem Ii:PF Tryz.prog 44 2:=FD Tryz.underlying44 rfl Ki
theorem Me:FA Tryz.prog 41 0 0:=Bx Tryz.underlying41 rfl DD
theorem Xs:FA Tryz.prog 41 2 2:=Bx Tryz.underlying41 rfl DD
theorem dm:CF Tryz.prog 60:=Tryz.call60
theorem Jb:FA Tryz.prog 41 1 1:=Bx Tryz.underlying41 rfl DD
theorem dZ:CF Tryz.prog 61:=Tryz.call61
theorem Zr:FA Tryz.prog 41 3 3:=Bx Tryz.underlying41 rfl Ez
theorem dj:CF Tryz.prog 29:=Tryz.call29
theorem eB:CF Tryz.prog 63:=Tryz.call63
theorem dH:CF Tryz.prog 66:=Tryz.call66
theorem bB:CF Tryz.prog 37:=Tryz.call37
theorem Z6:Hg Tryz.prog 41 [(0,1),(1,1),(2,1),(3,1)]:=⟨_,Tryz.underlying41,fun w=>by simp [DD w,Ez w]⟩
theorem aX:ZV Tryz.prog 41 (.agg (Bk.enc (default:Bk)).toArray):=Em (by kernel_rfl)
theorem X1:CF Tryz.prog 38:=Tryz.call38
theorem XY:CF Tryz.prog 21:=Tryz.call21
theorem Wp:FA Tryz.prog 44 0 0:=Bx Tryz.underlying44 rfl cX
theorem ZS:Ra Tryz.prog 42:=JH Tryz.underlying42 rfl
theorem dG:CF Tryz.prog 24:=Tryz.call24
theorem dR:CF Tryz.prog 33:=Tryz.call33
theorem cZ:Sz Tryz.prog 41 4:=D3 (by kernel_rfl)
theorem cL:IS Tryz.prog 22 4:=Ny Tryz.underlying22 cZ
theorem YC:PF Tryz.prog 41 4:=FD Tryz.underlying41 rfl cZ
theorem dI:CF Tryz.prog 41:=Tryz.call41
theorem ax:CF Tryz.prog 26:=Tryz.call26
theorem dv:CF Tryz.prog 16:=Tryz.call16
theorem dY:ZV Tryz.prog 88 (.agg (CA (n:=4) Ap.enc (Vector.replicate 4 default)).toArray):=Em (by kernel_rfl)
theorem dW:ZV Tryz.prog 89 (.agg (CA (n:=4) A6.enc (Vector.replicate 4 default)).toArray):=Em (by kernel_rfl)
theorem dV:ZV Tryz.prog 49 (.agg (CA (n:=4) Az (Vector.replicate 4 default)).toArray):=Em (by kernel_rfl)
theorem aN:CF Tryz.prog 28:=Tryz.call28
theorem WG:IA Tryz.prog 88 4 5:=Jy Tryz.underlying88 FH
theorem Z4:CF Tryz.prog 32:=Tryz.call32
theorem Wx:IA Tryz.prog 89 4 4:=Jy Tryz.underlying89 LM
theorem Y6:IA Tryz.prog 49 4 1:=Jy Tryz.underlying49 DD
theorem bI:CF Tryz.prog 39:=Tryz.call39
theorem bD:CF Tryz.prog 40:=Tryz.call40
theorem O0 (p:Option Addr)(a:Bk)(r:Bp):Jk Tryz.prog 41 #[.pointer p, .agg a.enc.toArray, .agg r.enc.toArray] [] (fun v B=>v = .bool true∧B = []):=by
 intro w hS0
 refine Am _ _ Tryz.func41 rfl rfl rfl (hS0) ?_
 refine Gs ?_
 refine B0 rfl rfl rfl (fun b1=>?_)
 refine B0 rfl rfl rfl (fun b2=>?_)
 refine Ga rfl (Gn (.nil _) (Gs (Ga rfl (AQ (AA (Ac ?_))))))
 refine AZ rfl (.tmp rfl .n) ?_
 intro w1 hS
 have hS:=(hS.perm (Ay.perm .n)).A4
 exact⟨_,⟨rfl,rfl⟩,hS⟩
theorem PT  (w:World):En Tryz.prog 15 #[] w fun v w'=>v = .agg AI.new.enc.toArray∧B9 w w':=by
 refine Am [] [] Tryz.func15 rfl rfl rfl (St.start w []) ?_
 refine Gs ?_
 refine BG rfl NQ rfl (fun b1=>?_)
 refine AQ (AA (Gs ?_))
 refine BG rfl NQ rfl (fun b2=>?_)
 refine AQ (AA (CD ?_))
 refine Gt (E9 Tryz.underlying23 DD VD rfl (.cons (AS.arr (n:=6) (i:=0) B1 (by decide) (by decide)) rfl rfl rfl (.cons (AS.arr (n:=6) (i:=1) B1 (by decide) (by decide)) rfl rfl rfl (.cons (AS.arr (n:=6) (i:=2) B1 (by decide) (by decide)) rfl rfl rfl (.cons (AS.arr (n:=6) (i:=3) B1 (by decide) (by decide)) rfl rfl rfl (.cons (AS.arr (n:=6) (i:=4) B1 (by decide) (by decide)) rfl rfl rfl (.cons (AS.arr (n:=6) (i:=5) B1 (by decide) (by decide)) rfl rfl rfl .nil))))))) ?_
 refine Gt (E9 Tryz.underlying24 Km bA rfl (.cons (AS.arr (n:=6) (i:=5) HT (by decide) (by decide)) rfl rfl rfl .nil)) ?_
 refine Gt (BH Vp N0 rfl (.cons Room.l0 rfl rfl rfl (.cons Room.l2 rfl rfl rfl (.cons Room.l3 rfl rfl rfl .nil)))) ?_
 refine Gt (E9 Tryz.underlying23 DD VD rfl (.cons (AS.arr (n:=6) (i:=0) B1 (by decide) (by decide)) rfl rfl rfl (.cons (AS.arr (n:=6) (i:=1) B1 (by decide) (by decide)) rfl rfl rfl (.cons (AS.arr (n:=6) (i:=2) B1 (by decide) (by decide)) rfl rfl rfl (.cons (AS.arr (n:=6) (i:=3) B1 (by decide) (by decide)) rfl rfl rfl (.cons (AS.arr (n:=6) (i:=4) B1 (by decide) (by decide)) rfl rfl rfl (.cons (AS.arr (n:=6) (i:=5) B1 (by decide) (by decide)) rfl rfl rfl .nil))))))) ?_
 refine Gt (BH Vp N0 rfl (.cons Room.l0 rfl rfl rfl (.cons Room.l2 rfl rfl rfl .nil))) ?_
 refine Gt (E9 Tryz.underlying23 DD VD rfl (.cons (AS.arr (n:=6) (i:=0) B1 (by decide) (by decide)) rfl rfl rfl (.cons (AS.arr (n:=6) (i:=1) B1 (by decide) (by decide)) rfl rfl rfl (.cons (AS.arr (n:=6) (i:=2) B1 (by decide) (by decide)) rfl rfl rfl (.cons (AS.arr (n:=6) (i:=3) B1 (by decide) (by decide)) rfl rfl rfl (.cons (AS.arr (n:=6) (i:=4) B1 (by decide) (by decide)) rfl rfl rfl (.cons (AS.arr (n:=6) (i:=5) B1 (by decide) (by decide)) rfl rfl rfl .nil))))))) ?_
 refine Gt (BH Vp N0 rfl (.cons Room.l0 rfl rfl rfl (.cons Room.l2 rfl rfl rfl (.cons Room.l1 rfl rfl rfl .nil)))) ?_
 refine Gt (E9 Tryz.underlying23 DD VD rfl (.cons (AS.arr (n:=6) (i:=0) B1 (by decide) (by decide)) rfl rfl rfl (.cons (AS.arr (n:=6) (i:=1) B1 (by decide) (by decide)) rfl rfl rfl (.cons (AS.arr (n:=6) (i:=2) B1 (by decide) (by decide)) rfl rfl rfl (.cons (AS.arr (n:=6) (i:=3) B1 (by decide) (by decide)) rfl rfl rfl (.cons (AS.arr (n:=6) (i:=4) B1 (by decide) (by decide)) rfl rfl rfl (.cons (AS.arr (n:=6) (i:=5) B1 (by decide) (by decide)) rfl rfl rfl .nil))))))) ?_
 refine Gt (BH Vp N0 rfl (.cons Room.l0 rfl rfl rfl (.cons Room.l2 rfl rfl rfl (.cons Room.l1 rfl rfl rfl .nil)))) ?_
 refine Gt (E9 Tryz.underlying23 DD VD rfl (.cons (AS.arr (n:=6) (i:=0) B1 (by decide) (by decide)) rfl rfl rfl (.cons (AS.arr (n:=6) (i:=1) B1 (by decide) (by decide)) rfl rfl rfl (.cons (AS.arr (n:=6) (i:=2) B1 (by decide) (by decide)) rfl rfl rfl (.cons (AS.arr (n:=6) (i:=3) B1 (by decide) (by decide)) rfl rfl rfl (.cons (AS.arr (n:=6) (i:=4) B1 (by decide) (by decide)) rfl rfl rfl (.cons (AS.arr (n:=6) (i:=5) B1 (by decide) (by decide)) rfl rfl rfl .nil))))))) ?_
 refine Gt (E9 Tryz.underlying24 Km bA rfl (.cons (AS.arr (n:=6) (i:=2) HT (by decide) (by decide)) rfl rfl rfl .nil)) ?_
 refine Gt (BH Vp N0 rfl (.cons Room.l0 rfl rfl rfl (.cons Room.l2 rfl rfl rfl (.cons Room.l3 rfl rfl rfl (.cons Room.l1 rfl rfl rfl .nil))))) ?_
 refine Gt (E9 Tryz.underlying23 DD VD rfl (.cons (AS.arr (n:=6) (i:=0) B1 (by decide) (by decide)) rfl rfl rfl (.cons (AS.arr (n:=6) (i:=1) B1 (by decide) (by decide)) rfl rfl rfl (.cons (AS.arr (n:=6) (i:=2) B1 (by decide) (by decide)) rfl rfl rfl (.cons (AS.arr (n:=6) (i:=3) B1 (by decide) (by decide)) rfl rfl rfl (.cons (AS.arr (n:=6) (i:=4) B1 (by decide) (by decide)) rfl rfl rfl (.cons (AS.arr (n:=6) (i:=5) B1 (by decide) (by decide)) rfl rfl rfl .nil))))))) ?_
 refine Gt (BH Vp N0 rfl (.cons Room.l0 rfl rfl rfl (.cons Room.l2 rfl rfl rfl .nil))) ?_
 refine Xh (cs:=CA (n:=6) Room.enc (Vector.replicate 6 default)) (cs':=CA (n:=6) Room.enc AI.TV) rfl Tryz.underlying95 RF N0 (by decide) (by decide) (by kernel_rfl) (.cons (AS.arr (n:=6) (i:=0) Room.fl (by decide) (by decide)) rfl rfl rfl (.cons (AS.arr (n:=6) (i:=1) Room.fl (by decide) (by decide)) rfl rfl rfl (.cons (AS.arr (n:=6) (i:=2) Room.fl (by decide) (by decide)) rfl rfl rfl (.cons (AS.arr (n:=6) (i:=3) Room.fl (by decide) (by decide)) rfl rfl rfl (.cons (AS.arr (n:=6) (i:=4) Room.fl (by decide) (by decide)) rfl rfl rfl (.cons (AS.arr (n:=6) (i:=5) Room.fl (by decide) (by decide)) rfl rfl rfl .nil)))))) rfl (fun b3=>?_)
 refine Gt (Av rfl Tryz.underlying95 rfl) (Gm rfl (Gn (.t5 0 1 20 21 22) (Ag ?_)))
 refine Bo (.t5 22 0 1 20 21) ?_
 refine Bc (.t .h) ?_
 refine CT (fun(k:Int)=>0≤k∧k≤6) (fun(k:Int)=>(6 - k).toNat) (fun(k:Int)=> [(22, .int .i64 k)]) (fun(k:Int)=> [Ad.box b2 35 (AI.enc (AI.TA k.toNat))]) (0) ?_ rfl rfl (fun k hI1=>?_)
 · exact⟨Int.le_refl _,by omega⟩
 obtain⟨hI11,hI12⟩:=hI1
 refine Gs (Gt (BA rfl rfl) (AQ (AA (Aq ?_))))
 refine Gc (fun c1=>?_) (fun c1=>?_)
 ·
  have c1p:=kz c1
  dsimp only at c1p
  refine Aa ?_
  refine AB (.t5 0 1 20 21 22) ?_
  refine AA (Aq (Ag (Gs (Gm rfl ?_))))
  refine Gt (Bs eG (by decide) (Kn.own .m1) rfl rfl (by omega) (by dsimp only;omega)) ?_
  refine Gt (OY rfl OM (by decide) Room.fl (Kn.own .m1) (by simp;omega)) ?_
  refine BG rfl N0 rfl (fun b4=>?_)
  refine Ga rfl ?_
  refine AU (AK (AS.id Room.fl.len Room.fl.one) rfl rfl rfl RF rfl .h) ?_
  refine Gn (.t7 0 1 2 3 20 21 22) (AJ (Gm rfl (Gt (AY rfl OM .m0 (AS.id Room.fl.len Room.fl.one) rfl) (Gt (Aj G7 rfl) ?_))))
  refine Gt (AN Nw rfl rfl (by omega) (by omega)) ?_
  refine AU (AK (AI.l0.comp (AS.ar (n:=6) Room.fl (by omega))) rfl rfl rfl RF rfl (.t .h)) ?_
  refine AQ (AB (.t5 0 1 20 21 22) ?_)
  refine AV (AA (AJ ?_))
  refine Gt (Ax rfl rfl (IntWalk.i64_in _ (by omega))) ?_
  refine Gm rfl ?_
  refine AQ (AB (.t5 0 1 20 21 22) ?_)
  refine Bz (k+1) ?_ ?_ (.t5 22 0 1 20 21) (by rw [AI.VS (by omega)];exact(.cons _ (.refl _)))
  · exact⟨by omega,by omega⟩
  · omega
 have c1p:=kz c1
 dsimp only at c1p
 obtain rfl:k=6:=by omega
 refine Be (AW (AW (Ai ?_)))
 refine AB (.t2 0 1) ?_
 refine AA (CD (Gt (BH Q5 Kl rfl (.cons Ao.l0 rfl rfl rfl (.cons Ao.l1 rfl rfl rfl .nil))) (Gt (BH Q5 Kl rfl (.cons Ao.l0 rfl rfl rfl (.cons Ao.l1 rfl rfl rfl (.cons Ao.l3 rfl rfl rfl .nil)))) (Gt (BH Q5 Kl rfl (.cons Ao.l0 rfl rfl rfl (.cons Ao.l1 rfl rfl rfl .nil))) (Gt (BH Q5 Kl rfl (.cons Ao.l0 rfl rfl rfl (.cons Ao.l1 rfl rfl rfl (.cons Ao.l3 rfl rfl rfl .nil)))) (Gt (BH Q5 Kl rfl (.cons Ao.l0 rfl rfl rfl (.cons Ao.l2 rfl rfl rfl (.cons Ao.l3 rfl rfl rfl .nil)))) (Gt (BH Q5 Kl rfl (.cons Ao.l0 rfl rfl rfl (.cons Ao.l3 rfl rfl rfl .nil))) ?_)))))))
 refine Gt (BH Q5 Kl rfl (.cons Ao.l0 rfl rfl rfl .nil)) (Gt (BH Q5 Kl rfl (.cons Ao.l0 rfl rfl rfl (.cons Ao.l1 rfl rfl rfl (.cons Ao.l4 rfl rfl rfl .nil)))) (Gt (BH Q5 Kl rfl (.cons Ao.l0 rfl rfl rfl (.cons Ao.l2 rfl rfl rfl (.cons Ao.l3 rfl rfl rfl .nil)))) ?_))
 refine Xh (cs:=CA (n:=9) Ao.enc (Vector.replicate 9 default)) (cs':=CA (n:=9) Ao.enc AI.Qn) rfl Tryz.underlying96 NP Kl (by decide) (by decide) (by kernel_rfl) (.cons (AS.arr (n:=9) (i:=0) Ao.fl (by decide) (by decide)) rfl rfl rfl (.cons (AS.arr (n:=9) (i:=1) Ao.fl (by decide) (by decide)) rfl rfl rfl (.cons (AS.arr (n:=9) (i:=2) Ao.fl (by decide) (by decide)) rfl rfl rfl (.cons (AS.arr (n:=9) (i:=3) Ao.fl (by decide) (by decide)) rfl rfl rfl (.cons (AS.arr (n:=9) (i:=4) Ao.fl (by decide) (by decide)) rfl rfl rfl (.cons (AS.arr (n:=9) (i:=5) Ao.fl (by decide) (by decide)) rfl rfl rfl (.cons (AS.arr (n:=9) (i:=6) Ao.fl (by decide) (by decide)) rfl rfl rfl (.cons (AS.arr (n:=9) (i:=7) Ao.fl (by decide) (by decide)) rfl rfl rfl (.cons (AS.arr (n:=9) (i:=8) Ao.fl (by decide) (by decide)) rfl rfl rfl .nil))))))))) rfl (fun b5=>?_)
 refine Gt (Av rfl Tryz.underlying96 rfl) (Gm rfl (Gn (.t5 0 1 41 42 43) (Ag ?_)))
 refine Bo (.t5 43 0 1 41 42) ?_
 refine Bc (.t .h) ?_
 refine CT (fun(k:Int)=>0≤k∧k≤9) (fun(k:Int)=>(9 - k).toNat) (fun(k:Int)=> [(43, .int .i64 k)]) (fun(k:Int)=> [Ad.box b2 35 (AI.enc (AI.J0 k.toNat))]) (0) ?_ rfl rfl (fun k hI2=>?_)
 · exact⟨Int.le_refl _,by omega⟩
 obtain⟨hI21,hI22⟩:=hI2
 refine Gs (Gt (BA rfl rfl) (AQ (AA (Aq ?_))))
 refine Gc (fun c2=>?_) (fun c2=>?_)
 ·
  have c2p:=kz c2
  dsimp only at c2p
  refine Aa ?_
  refine AB (.t5 0 1 41 42 43) ?_
  refine AA (Aq (Ag (Gs (Gm rfl ?_))))
  refine Gt (Bs dk (by decide) (Kn.own .m1) rfl rfl (by omega) (by dsimp only;omega)) ?_
  refine Gt (OY rfl Mv (by decide) Ao.fl (Kn.own .m1) (by simp;omega)) ?_
  refine BG rfl Kl rfl (fun b6=>?_)
  refine Ga rfl ?_
  refine AU (AK (AS.id Ao.fl.len Ao.fl.one) rfl rfl rfl NP rfl .h) ?_
  refine Gn (.t7 0 1 4 5 41 42 43) (AJ (Gm rfl (Gt (AY rfl Mv .m0 (AS.id Ao.fl.len Ao.fl.one) rfl) (Gt (Aj Cx rfl) ?_))))
  refine Gt (AN GW rfl rfl (by omega) (by omega)) ?_
  refine AU (AK (AI.l1.comp (AS.ar (n:=9) Ao.fl (by omega))) rfl rfl rfl NP rfl (.t .h)) ?_
  refine AQ (AB (.t5 0 1 41 42 43) ?_)
  refine AV (AA (AJ ?_))
  refine Gt (Ax rfl rfl (IntWalk.i64_in _ (by omega))) ?_
  refine Gm rfl ?_
  refine AQ (AB (.t5 0 1 41 42 43) ?_)
  refine Bz (k+1) ?_ ?_ (.t5 43 0 1 41 42) (by rw [AI.Vu (by omega)];exact(.cons _ (.refl _)))
  · exact⟨by omega,by omega⟩
  · omega
 have c2p:=kz c2
 dsimp only at c2p
 obtain rfl:k=9:=by omega
 refine Be (AW (AW (Ai ?_)))
 refine AB (.t2 0 1) ?_
 refine AA (Gs (Gt (BH W7 L5 rfl (.cons An.l0 rfl rfl rfl (.cons An.l1 rfl rfl rfl (.cons An.l2 rfl rfl rfl (.cons An.l4 rfl rfl rfl .nil))))) (Gt (Aj Br rfl) ?_)))
 refine Gt (AN C8 rfl rfl (by decide) (by decide)) ?_
 refine AU (AK (AI.l2.comp (AS.arr (n:=6) An.fl (by decide) (by decide))) rfl rfl rfl Ko rfl .h) ?_
 refine Gn (.t2 0 1) (Gs (Gt (BH W7 L5 rfl (.cons An.l0 rfl rfl rfl (.cons An.l1 rfl rfl rfl (.cons An.l3 rfl rfl rfl (.cons An.l4 rfl rfl rfl .nil))))) (Gt (Aj Br rfl) ?_)))
 refine Gt (AN C8 rfl rfl (by decide) (by decide)) ?_
 refine AU (AK (AI.l2.comp (AS.arr (n:=6) An.fl (by decide) (by decide))) rfl rfl rfl Ko rfl .h) ?_
 refine Gn (.t2 0 1) (Gs (Gt (AY rfl Ba .m0 (AS.id AI.fl.len AI.fl.one) rfl) ?_))
 refine AU (AK (AS.id AI.fl.len AI.fl.one) rfl rfl rfl EF rfl (.t (.t (.t .h)))) ?_
 refine Gn (.t1 0) (Ac ?_)
 refine AZ rfl (.cell rfl .m3 (.inl ⟨(by rw [AI.fl.len];exact Ba),rfl⟩) .n) ?_
 intro w1 hS;refine⟨?_,hS.Al⟩;rfl
theorem Jv  : Jk Tryz.prog 37 #[] [] (fun v B=>∃(b:Nat) (V:AM) (ls:Vector BK 4) (ev:List Ing.Event),v = .pointer (some ⟨b,0,none⟩)∧A7 V ls ev=AH.new∧B = [Ad.box b 101 (AM.enc V),Ad.Da (CL 9 (AM.As V) ls),Ad.own (AM.last V) 56 16 ((ev).flatMap Ing.Event.enc)]):=by
 intro w hS0
 refine Am _ _ Tryz.func37 rfl rfl rfl (hS0) ?_
 refine Gs (Ga rfl (Gn (.nil _) (Gs ?_)))
 refine BD rfl dr .n (fun w hS=>PT w) ?_
 refine Gt (BH ba ay rfl (.cons AM.l0 rfl rfl rfl .nil)) ?_
 refine B0 rfl rfl rfl (fun b1=>?_)
 refine Ga rfl (Gn (.t1 0) (Ac ?_))
 refine AZ rfl (.tmp rfl .n) ?_
 intro w1 hS
 have hS:=(hS.perm (Ay.perm (.c .h .n))).A4
 have h2:=(St.U8 hS (l:=CL 9 NZ NW) (fun r hr=>XW 9 w1 r hr)).Cr 56 16
 refine⟨_,⟨b1,⟨AI.new,NZ,0,⟨none,0,0⟩⟩,NW,[],rfl,rfl,rfl⟩,h2.perm (YZ _ _ _)⟩
theorem B2 {t0:Nat}(h:Hd)(xs:List Au)(hb:xs.length≤17592186044416):Fa Tryz.prog 69 #[h.val] [] (fun w=>Rd w h t0 1 (xs.flatMap A8)) (fun v B=>∃ h':Hd,v=h'.val∧h'.len=xs.length∧B = [Ad.own h' 9 1 (xs.flatMap A8)]):=by
 intro w hS0 hH
 have r0:=hH
 have hl:=r0.MC De (by decide)
 refine Am _ _ Tryz.func69 rfl rfl rfl (hS0) ?_
 refine Gs (Ga rfl (Gn (.t1 0) (CD (Gm rfl (Gt (TH Tryz.underlying52 rfl) (Gn (.t2 0 4) ?_))))))
 refine Gc (fun c1=>?_) (fun c1=>?_)
 ·
  refine Gs (Ga rfl (Gn (.t1 2) (Ac (AE ?_))))
  refine AZ rfl (.tmp rfl .n) ?_
  intro w1 hS
  have hS:=(hS.perm (Ay.perm .n)).A4
  have hx:xs = []:=by
    rcases xs with _ | ⟨x,xs⟩
    · rfl
    · exfalso
      obtain⟨b,o,C,fz,e1,_⟩:=r0.2 (by simp [A8])
      rw [e1] at c1
      cases c1
  subst hx
  exact⟨_,⟨⟨none,0,0⟩,rfl,rfl,rfl⟩,hS.Cr _ _⟩
 have c1p:=kz c1
 refine Aa ?_
 refine AB (.t1 0) ?_
 refine AA (Gs ?_)
 refine ZA A8 rfl Tryz.underlying52 Ez (fun b1=>?_)
 refine Gm rfl ?_
 refine Jd (e:=A8) rfl Tryz.underlying52 Ez R3 rfl WW (by decide) rfl rfl (fun w hS=>Src.D8 Tryz.underlying52 ((Kn.Hv r0) w hS)) rfl rfl (by omega) (fun _=> .h) (fun h1 h1l=>?_)
 refine Ga rfl (Gn (.t1 2) (Ac ?_))
 refine AZ rfl (.tmp rfl .n) ?_
 intro w1 hS
 have hS:=(hS.perm (Ay.perm (.c .h .n))).A4
 exact⟨_,⟨_,rfl,by omega,rfl⟩,hS⟩
theorem Np {t0:Nat}(l:A6)(qs:List Au)(hb:qs.length≤17592186044416):Fa Tryz.prog 91 #[.agg l.enc.toArray] [] (fun w=>Rd w l.queue t0 1 (qs.flatMap A8)∧l.queue.len≤l.queue.cap) (fun v B=>(qs = []∧v = .tuple #[.agg l.enc.toArray,BT [], .bool false]∧B = [])∨(∃ q r,qs=q :: r∧∃ h':Hd,v = .tuple #[.agg (A6.enc ⟨l.now,l.Ci,l.ret,h'⟩).toArray,BT q, .bool true]∧h'.len=r.length∧B = [Ad.own h' 9 1 (r.flatMap A8)])):=by
 intro w hS0 hH
 obtain⟨r0,k0⟩:=hH
 have hl0:=r0.MC De (by decide)
 refine Am _ _ Tryz.func91 rfl rfl rfl (hS0) ?_
 refine Gs ?_
 refine B0 rfl rfl rfl (fun b1=>?_)
 refine BG rfl Yq rfl (fun b2=>?_)
 refine Ga rfl (Ga rfl (Gn (.t2 1 2) (CD (Gt (Aj Ex rfl) (Gt (AG rfl Eh .m1 A6.l3 rfl rfl) (Gt (Av rfl Tryz.underlying52 rfl) (Gt (Ak rfl rfl) ?_)))))))
 refine Gn (.t3 1 2 9) ?_
 refine Gc (fun c1=>?_) (fun c1=>?_)
 ·
  have c1p:=kz c1
  have hq:qs = []:=List.length_eq_zero_iff.1 (by omega)
  refine Gs (Gt (AY rfl GH .m1 (AS.id A6.fl.len A6.fl.one) rfl) ?_)
  refine AU (AK (AS.id A6.fl.len A6.fl.one) rfl rfl rfl LM rfl .h) ?_
  refine Ga rfl (Ga rfl (Gn (.t3 2 3 4) (Ac (AE ?_))))
  refine AZ rfl (.cell rfl .m0 (.inl ⟨(by rw [A6.fl.len];exact GH),rfl⟩) (.tmp rfl (.tmp rfl .n))) ?_
  intro w1 hS
  have hS:=(hS.perm (Ay.perm .n)).A4
  exact⟨_, .inl ⟨hq,rfl,rfl⟩,hS⟩
 have c1p:=kz c1
 obtain⟨q,r,rfl⟩:=Bi.Ut (qs:=qs) (by omega)
 rw [List.length_cons] at hl0 hb
 refine Aa ?_
 refine AB (.t2 1 2) ?_
 refine AA (Gs (Gt (Aj Ex rfl) (Gt (AG rfl Eh .m1 A6.l3 rfl rfl) ?_)))
 refine Gt (Bs Io (by decide) (Kn.Hv r0) rfl rfl (by omega) (by omega)) ?_
 refine Gt (DM rfl CM (Kn.Hv r0) (by simp)) ?_
 refine Ga rfl (Gn (.t3 1 2 5) (Gs (Gt (Aj Ex rfl) (Gt (AG rfl Eh .m1 A6.l3 rfl rfl) ?_))))
 refine Gt (Rz Tryz.underlying52 Ez rfl rfl (by decide) (by omega)) ?_
 refine BJ rfl WM (.c rfl .n) .n (B2 _ r (by omega)) (fun w hS=>by have h:=(Kn.cut (l:=1) (r:=l.queue.len) De (Kn.Hv r0) (by omega) (Nat.le_refl _) (VB.of k0)) w hS;rw [show(((q :: r).take l.queue.len).drop 1)=r from by rw [List.take_of_length_le (by simp;omega)];rfl] at h;exact h) (fun v2 B hv=>?_)
 obtain⟨y3,rfl,y4,rfl⟩:=hv
 refine Gt (Aj Ex rfl) ?_
 refine AU (AK A6.l3 rfl rfl rfl MT rfl (.t (.t .h))) ?_
 refine Gn (.t3 1 2 5) (Gs (Gt (AY rfl GH .m2 (AS.id A6.fl.len A6.fl.one) rfl) (Gm rfl ?_)))
 refine AU (AK (AS.id A6.fl.len A6.fl.one) rfl rfl rfl LM rfl (.t .h)) ?_
 refine Ga rfl (Ga rfl (Gn (.t3 2 3 4) (Ac ?_)))
 refine AZ rfl (.cell rfl .m1 (.inl ⟨(by rw [A6.fl.len];exact GH),rfl⟩) (.tmp rfl (.tmp rfl .n))) ?_
 intro w1 hS
 have hS:=(hS.perm (Ay.perm (.c .h .n))).A4
 exact⟨_, .inr ⟨q,r,rfl,_,rfl,by assumption,rfl⟩,hS⟩
theorem NN (p:Ap)(w:World):En Tryz.prog 92 #[.agg p.enc.toArray] w fun v w'=>v = .agg (Ap.enc ⟨p.wait,0,false,p.ring,p.cut⟩).toArray∧B9 w w':=by
 refine Am [] [] Tryz.func92 rfl rfl rfl (St.start w []) ?_
 refine Gs ?_
 refine B0 rfl rfl rfl (fun b1=>?_)
 refine BG rfl Th rfl (fun b2=>?_)
 refine Gn (.t2 1 2) (Gs (Gt (Aj Mm rfl) ?_))
 refine AU (AK Ap.l2 rfl rfl rfl Km rfl (.t .h)) ?_
 refine Gt (Aj KK rfl) ?_
 refine AU (AK Ap.l1 rfl rfl rfl DD rfl (.t .h)) ?_
 refine Gn (.t2 1 2) (Gs (Gt (AY rfl Co .m1 (AS.id Ap.fl.len Ap.fl.one) rfl) ?_))
 refine AU (AK (AS.id Ap.fl.len Ap.fl.one) rfl rfl rfl FH rfl .h) ?_
 refine Gn (.t1 2) (Ac ?_)
 refine AZ rfl (.cell rfl .m0 (.inl ⟨(by rw [Ap.fl.len];exact Co),rfl⟩) .n) ?_
 intro w1 hS;refine⟨?_,hS.Al⟩;rfl
theorem HX (s:Au)(c:UInt8)(hs:s.length≤10000000)(w:World):En Tryz.prog 116 #[BT s, .int .u8 (c.toNat:Int)] w fun v w'=>v=BT (Words.Sb c s)∧B9 w w':=by
 refine Am [] [] Tryz.func116 rfl rfl rfl (St.start w []) ?_
 refine Gs (Ga rfl (Gn (.t2 0 1) (Aq (Ag ?_))))
 refine Bo (.t2 0 1) ?_
 refine CT (fun(r:Au)=>Words.Sb c s=Words.Sb c r∧r.length≤s.length) (fun(r:Au)=>r.length) (fun(r:Au)=> [(0,BT r)]) (fun(r:Au)=> []) (s) ?_ rfl rfl (fun r hI1=>?_)
 · exact⟨rfl,Nat.le_refl _⟩
 obtain⟨hI11,hI12⟩:=hI1
 refine CD (Gm rfl (Gt (BL rfl Tryz.underlying9 rfl) (Gt (Cp rfl rfl) (Gm rfl (Bb 8 rfl rfl (fun q=>AD rfl) (Bb 8 rfl rfl (fun q=>AD rfl) (Bb 8 rfl rfl (fun q=>BL rfl Tryz.underlying9 (BX rfl q)) ?_)))))))
 refine Bb 8 rfl rfl (fun q=>by have q1:=q;(try simp at q1);exact FX (BX rfl q) rfl (IntWalk.i64_in _ (by omega))) ?_
 refine Bb 8 rfl rfl (fun q=>by have q1:=q;(try simp at q1);exact Bq Tryz.underlying9 (BX rfl q) (BX rfl q) (by omega) (by omega)) ?_
 refine Bb 8 rfl rfl (fun q=>AD rfl) (Bb 8 rfl rfl (fun q=>Ak (BX rfl q) (BX rfl q)) (Gt (BI rfl rfl (fun h=>h)) (Gn (.t3 0 1 16) ?_)))
 refine Gc (fun c1=>?_) (fun c1=>?_)
 ·
  have c1p:=kz c1
  have hlt:0 < r.length:=by simp at c1;omega
  refine Aa ?_
  refine AB (.t2 0 1) ?_
  refine AA (Ag (AJ (Gm rfl (Gm rfl (Gt (BL rfl Tryz.underlying9 rfl) ?_)))))
  refine Gt (FX rfl rfl (IntWalk.i64_in _ (by omega))) ?_
  refine Gt (Il Tryz.underlying9 rfl rfl (by omega) (by omega)) ?_
  refine Ga rfl ?_
  refine AQ (AB (.t2 0 1) ?_)
  refine AV ?_
  refine Bz _ ?_ ?_ (.t2 0 1) (.refl _)
  · exact⟨by rw [hI11,Words.cg c1]<;>rfl,by first | (simp;done) | (simp;omega)⟩
  · first | (simp;done) | (simp;omega)
 refine Be (AW (AW (Ai ?_)))
 refine AB (.t1 0) ?_
 refine AA (Gs (Gm rfl (Ga rfl (Gn (.t1 4) (Ac ?_)))))
 refine AZ rfl (.tmp rfl .n) ?_
 intro w1 hS;refine⟨?_,hS.Al⟩;rw [hI11,Words.cD c1];rfl
theorem FC (s:Au)(c:UInt8)(hs:s.length≤10000000)(w:World):En Tryz.prog 115 #[BT s, .int .u8 (c.toNat:Int)] w fun v w'=>v=BT (Words.QU c s)∧B9 w w':=by
 refine Am [] [] Tryz.func115 rfl rfl rfl (St.start w []) ?_
 refine Gs (Ga rfl (Gn (.t2 0 1) (Aq (Ag ?_))))
 refine Bo (.t2 0 1) ?_
 refine CT (fun(r:Au)=>Words.QU c s=Words.QU c r∧r.length≤s.length) (fun(r:Au)=>r.length) (fun(r:Au)=> [(0,BT r)]) (fun(r:Au)=> []) (s) ?_ rfl rfl (fun r hI1=>?_)
 · exact⟨rfl,Nat.le_refl _⟩
 obtain⟨hI11,hI12⟩:=hI1
 refine CD (Gm rfl (Gt (BL rfl Tryz.underlying9 rfl) (Gt (Cp rfl rfl) (Gm rfl (Bb 8 rfl rfl (fun q=>AD rfl) ?_)))))
 refine Bb 8 rfl rfl (fun q=>by have q1:=q;(try simp at q1);exact Bq Tryz.underlying9 (BX rfl q) rfl (by decide) (by omega)) ?_
 refine Bb 8 rfl rfl (fun q=>AD rfl) (Bb 8 rfl rfl (fun q=>Ak (BX rfl q) (BX rfl q)) (Gt (BI rfl rfl (fun h=>h)) (Gn (.t3 0 1 13) ?_)))
 refine Gc (fun c1=>?_) (fun c1=>?_)
 ·
  have c1p:=kz c1
  have hlt:0 < r.length:=by simp at c1;omega
  refine Aa ?_
  refine AB (.t2 0 1) ?_
  refine AA (Ag (AJ (Gm rfl ?_)))
  refine Gt (Gu Tryz.underlying9 rfl rfl (by decide) (by omega)) ?_
  refine Ga rfl ?_
  refine AQ (AB (.t2 0 1) ?_)
  refine AV ?_
  refine Bz _ ?_ ?_ (.t2 0 1) (.refl _)
  · exact⟨by rw [hI11,Words.bT c1]<;>rfl,by first | (simp;done) | (simp;omega)⟩
  · first | (simp;done) | (simp;omega)
 refine Be (AW (AW (Ai ?_)))
 refine AB (.t1 0) ?_
 refine AA (Gs (Gm rfl (Ga rfl (Gn (.t1 4) (Ac ?_)))))
 refine AZ rfl (.tmp rfl .n) ?_
 intro w1 hS;refine⟨?_,hS.Al⟩;rw [hI11,Words.cS c1];rfl
theorem IK (s:Au)(hs:s.length≤10000000)(w:World):En Tryz.prog 94 #[BT s,BT [32]] w fun v w'=>v=BT (Words.QU 32 (Words.Sb 32 s))∧B9 w w':=by
 refine Am [] [] Tryz.func94 rfl rfl rfl (St.start w []) ?_
 refine Gs (Ga rfl (Gn (.t2 0 1) (CD (Gm rfl (Gt (Bu rfl rfl) (Gm rfl (Bg 9 rfl rfl (fun q=>AD rfl) ?_)))))))
 refine Bg 9 rfl rfl (fun q=>Bu (cF rfl q) rfl) ?_
 refine Gt (BU rfl rfl (fun h=>by rw [h];rfl)) ?_
 refine Gn (.t3 0 1 12) ?_
 refine Gc (fun c1=>?_) (fun c1=>?_)
 ·
  refine Gs (Gm rfl (Ga rfl (Gn (.t1 4) (Ac (AE ?_)))))
  refine AZ rfl (.tmp rfl .n) ?_
  intro w1 hS;refine⟨?_,hS.Al⟩;have e:s = []:=by simpa using c1
  subst e;rfl
 have c1p:=kz c1
 refine Aa ?_
 refine AB (.t2 0 1) ?_
 refine AA (CD (Gm rfl (Gt (BL rfl Tryz.underlying9 rfl) (Gt (Ak rfl rfl) (Gm rfl (Bb 17 rfl rfl (fun q=>AD rfl) ?_))))))
 refine Bb 17 rfl rfl (fun q=>by have q1:=q;(try simp at q1);exact Bq Tryz.underlying9 (BX rfl q) rfl (by decide) (by(try simp only [List.length_cons,List.length_nil]);omega)) ?_
 refine Bb 17 rfl rfl (fun q=>BA (BX rfl q) rfl) (Gt (BI rfl rfl (fun h=>h)) (Gn (.t3 0 1 21) ?_))
 refine HF rfl rfl ?_
 refine Aq ?_
 refine BE (N:=8) [0,0,2,7,0,16,63,127] mix (by kernel_rfl) rfl ?_
 refine Pf 0 rfl (AD rfl) (Pf 1 rfl (AD rfl) ?_)
 refine Pf 2 rfl (Bq Tryz.underlying9 rfl rfl (by decide) (by(try simp only [List.length_cons,List.length_nil]);omega)) ?_
 refine Ab 3 rfl rfl (by kernel_rfl) (Ln (JX (Dl cW (.c rfl (.c rfl .n)) (fun w hS=>HX _ 32 hs w)))) ?_
 refine Pf 4 rfl (AD rfl) ?_
 refine Pf 5 rfl (Bq Tryz.underlying9 rfl rfl (by decide) (by(try simp only [List.length_cons,List.length_nil]);omega)) ?_
 refine Ab 6 rfl rfl (by kernel_rfl) (Ln (JX (Dl ZU (.c rfl (.c rfl .n)) (fun w hS=>FC _ 32 (by have:=Words.RP 32 s;omega) w)))) ?_
 refine Pf 7 rfl (A2 rfl) ?_
 refine A1 (by kernel_rfl) ?_
 refine AB (.t1 4) ?_
 refine AA (Ac (AE ?_))
 refine AZ rfl (.tmp rfl .n) ?_
 intro w1 hS;refine⟨?_,hS.Al⟩;rfl
theorem Ks (X:AI)(i:Int)(h0:0≤i)(h9:i < 9)(w:World):En Tryz.prog 68 #[.agg X.enc.toArray, .int .i64 i] w fun v w'=>v = .bool (X.Cm i)∧B9 w w':=by
 refine Am [] [] Tryz.func68 rfl rfl rfl (St.start w []) ?_
 refine Gs ?_
 refine B0 rfl rfl rfl (fun b1=>?_)
 refine Ga rfl (Gn (.t2 1 2) (Gs (Gm rfl (Gt (Aj Cx rfl) ?_))))
 refine Gt (AN GW rfl rfl (by omega) (by omega)) ?_
 refine Gt (AY rfl Mv .m0 (AI.l1.comp (AS.ar (n:=9) Ao.fl (by omega))) rfl) ?_
 refine BG rfl Kl rfl (fun b2=>?_)
 refine AU (AK (AS.id Ao.fl.len Ao.fl.one) rfl rfl rfl NP rfl .h) ?_
 refine Gn (.t2 2 5) (CD (Gt (Aj G9 rfl) (Gt (AG rfl A5 .m0 Ao.l1 rfl rfl) (Gt (BA rfl rfl) (Gm rfl (Bg 15 rfl rfl (fun q=>Aj G9 rfl) (Bg 15 rfl rfl (fun q=>AG (cF rfl q) A5 .m0 Ao.l1 rfl rfl) ?_)))))))
 refine Bg 15 rfl rfl (fun q=>Cp (cF rfl q) rfl) ?_
 refine Gt (BU rfl rfl (fun h=>by rw [h];rfl)) ?_
 refine Gm rfl (Bg 20 rfl rfl (fun q=>Aj G9 rfl) (Bg 20 rfl rfl (fun q=>AG (cF rfl q) A5 .m0 Ao.l1 rfl rfl) (Bg 20 rfl rfl (fun q=>Ak (cF rfl q) rfl) (Bg 20 rfl rfl (fun q=>AD (cF rfl q)) ?_))))
 refine DX (t:=24) rfl rfl rfl (fun qc q=>Aj GP rfl) ?_
 refine DX (t:=24) rfl rfl rfl (fun qc q=>AG (BX rfl (by rw [qc,q];rfl)) DO .m0 Ao.l4 rfl rfl) ?_
 refine Bg 20 rfl rfl (fun q=>BI (cF rfl q) rfl (fun h=>by rw [q,h];rfl)) ?_
 refine Gt (BU rfl rfl (fun h=>by rw [h];rfl)) ?_
 refine Gm rfl (Bg 29 rfl rfl (fun q=>Aj DN rfl) (Bg 29 rfl rfl (fun q=>AG (cF rfl q) A5 .m0 Ao.l3 rfl rfl) (Bg 29 rfl rfl (fun q=>BA (cF rfl q) rfl) ?_)))
 refine Gt (BU rfl rfl (fun h=>by rw [h];rfl)) ?_
 refine Gn (.t3 2 5 33) ?_
 refine Gc (fun c1=>?_) (fun c1=>?_)
 ·
  refine Gs (Ga rfl (Gn (.t1 4) (Ac (AE ?_))))
  refine AZ rfl (.tmp rfl .n) ?_
  intro w1 hS;refine⟨congrArg Value.bool ?_,hS.Al⟩;simp only [AI.Cm,c1,↓reduceIte,Bool.false_eq_true]
 have c1p:=kz c1
 refine Aa ?_
 refine AB (.t2 2 5) ?_
 refine AA (Gs (Gt (Aj G9 rfl) (Gt (AG rfl A5 .m0 Ao.l1 rfl rfl) (Gt (Ak rfl rfl) (Gm rfl (Bb 37 rfl rfl (fun q=>Aj GP rfl) (Bb 37 rfl rfl (fun q=>AG (BX rfl q) DO .m0 Ao.l4 rfl rfl) ?_)))))))
 refine Gt (BI rfl rfl (fun h=>h)) (Ga rfl (Gn (.t3 2 5 6) (CD (Gt (Aj Fe rfl) (Gt (AG rfl A5 .m0 Ao.l2 rfl rfl) (Gn (.t4 2 5 6 42) (Ag ?_)))))))
 refine Gs (Gt (Ak rfl rfl) (Ga rfl (Gn (.t5 2 5 6 42 43) ?_)))
 refine Gc (fun c2=>?_) (fun c2=>?_)
 ·
  refine Gs (Gt (Aj DN rfl) (Gt (AG rfl A5 .m0 Ao.l3 rfl rfl) (Gt (BA rfl rfl) (Gm rfl (Bb 48 rfl rfl (fun q=>AD rfl) (Bb 48 rfl rfl (fun q=>BR (BX rfl q)) (Gt (BI rfl rfl (fun h=>h)) ?_)))))))
  refine Ga rfl (Gn (.t1 4) (Ac (AT (AE ?_))))
  refine AZ rfl (.tmp rfl .n) ?_
  intro w1 hS;refine⟨congrArg Value.bool ?_,hS.Al⟩;simp only [AI.Cm,c1,c2,↓reduceIte,Bool.false_eq_true]
 have c2p:=kz c2
 refine Gs (Gt (Ak rfl rfl) (Ga rfl (Gn (.t5 2 5 6 42 52) ?_)))
 refine Gc (fun c3=>?_) (fun c3=>?_)
 ·
  have c3p:=kz c3
  refine Gs (Gt (Aj DN rfl) (Gt (AG rfl A5 .m0 Ao.l3 rfl rfl) (Gt (BA rfl rfl) (Gm rfl (Bb 57 rfl rfl (fun q=>Aj DN rfl) (Bb 57 rfl rfl (fun q=>AG (BX rfl q) A5 .m0 Ao.l3 rfl rfl) (Bb 57 rfl rfl (fun q=>Aj Br rfl) ?_)))))))
  refine Bb 57 rfl rfl (fun q=>by have q1:=q;(try simp at q1);exact AN C8 (BX rfl q) (BX rfl q) (by omega) (by omega)) ?_
  refine Bb 57 rfl rfl (fun q=>Aj Ie (BX rfl q)) ?_
  refine Bb 57 rfl rfl (fun q=>by have q1:=q;(try simp at q1);exact AG (BX rfl q) DO .m1 ((AI.l2.comp (AS.ar (n:=6) An.fl (by omega))).comp An.l1) rfl rfl) ?_
  refine Gt (BI rfl rfl (fun h=>h)) (Ga rfl (Gn (.t1 4) (Ac (AT (AE ?_)))))
  refine AZ rfl (.tmp rfl .n) ?_
  intro w1 hS;refine⟨congrArg Value.bool ?_,hS.Al⟩;simp only [AI.Cm,c1,c2,c3,↓reduceIte,Bool.false_eq_true]
 have c3p:=kz c3
 refine Gs (Gt (Ak rfl rfl) (Ga rfl (Gn (.t4 2 5 6 65) ?_)))
 refine Gc (fun c4=>?_) (fun c4=>?_)
 ·
  have c4p:=kz c4
  refine CD (Gt (Aj DN rfl) (Gt (AG rfl A5 .m0 Ao.l3 rfl rfl) (Gt (CK rfl rfl) (Gm rfl (Bg 70 rfl rfl (fun q=>Aj DN rfl) (Bg 70 rfl rfl (fun q=>AG (cF rfl q) A5 .m0 Ao.l3 rfl rfl) (Bg 70 rfl rfl (fun q=>Aj Cx rfl) ?_)))))))
  refine Bg 70 rfl rfl (fun q=>by have q1:=q;(try simp at q1);exact AN GW (cF rfl q) (cF rfl q) (by omega) (by omega)) ?_
  refine Bg 70 rfl rfl (fun q=>Aj G9 (cF rfl q)) ?_
  refine Bg 70 rfl rfl (fun q=>by have q1:=q;(try simp at q1);exact AG (cF rfl q) A5 .m1 ((AI.l1.comp (AS.ar (n:=9) Ao.fl (by omega))).comp Ao.l1) rfl rfl) ?_
  refine Bg 70 rfl rfl (fun q=>CN (cF rfl q) rfl) ?_
  refine Gt (BU rfl rfl (fun h=>by rw [h];rfl)) ?_
  refine Gm rfl (Bg 79 rfl rfl (fun q=>AD rfl) ?_)
  refine Gt (BU rfl rfl (fun h=>by rw [h];rfl)) ?_
  refine Gn (.t3 2 5 81) ?_
  refine Gc (fun c5=>?_) (fun c5=>?_)
  ·
   refine Gs (Ga rfl (Gn (.t1 4) (Ac (AE (AT (AE ?_))))))
   refine AZ rfl (.tmp rfl .n) ?_
   intro w1 hS;refine⟨congrArg Value.bool ?_,hS.Al⟩;simp only [AI.Cm,c1,c2,c3,c4,c5,↓reduceIte,Bool.false_eq_true]
  have c5p:=kz c5
  refine Aa ?_
  refine AB (.t2 2 5) ?_
  refine AA (Gs (Gm rfl (AQ (AA (Ag ?_)))))
  refine Bo (.t3 82 2 5) ?_
  refine HY (fun(k:Int) (t:Ao)=>0≤k∧k≤10∧X.Cm i=X.KC (10 - k).toNat t) (fun(k:Int) (t:Ao)=>(10 - k).toNat) (fun(k:Int) (t:Ao)=> [(82, .int .i64 k)]) (fun(k:Int) (t:Ao)=> [Ad.box b2 29 (Ao.enc t)]) (0) (X.AP.at i) ?_ rfl rfl (fun k t hI1=>?_)
  · refine⟨Int.le_refl _,by omega,?_⟩;simp only [AI.Cm,c1,c2,c3,c4,c5,↓reduceIte,Bool.false_eq_true];rfl
  obtain⟨hI11,hI12,hI13⟩:=hI1
  refine Gs (Gt (BA rfl rfl) (AQ (AA (Aq ?_))))
  refine Gc (fun c6=>?_) (fun c6=>?_)
  ·
   have c6p:=kz c6
   rw [show(10 - k).toNat=(10 - (k+1)).toNat+1 from by omega,AI.KC,show decide ((10 - (k+1)).toNat=0)=decide (k=9) from decide_eq_decide.2 ⟨by omega,by omega⟩] at hI13
   refine Aa ?_
   refine AB (.t3 2 5 82) ?_
   refine AA (Aq (Ag (Gs (Gm rfl (Ga rfl (Gn (.t4 2 5 7 82) (CD ?_)))))))
   refine Gt (Aj Fe rfl) (Gt (AG rfl A5 .m0 Ao.l2 rfl rfl) (Gt (CN rfl rfl) (Gn (.t5 2 5 7 82 87) ?_)))
   refine Gc (fun c7=>?_) (fun c7=>?_)
   ·
    refine Gs (Ga rfl (Gn (.t1 4) (Ac (AE (AT (AE (AE ?_)))))))
    refine AT (AT (AE ?_))
    refine AZ rfl (.tmp rfl .n) ?_
    intro w1 hS;refine⟨congrArg Value.bool ?_,hS.Al⟩;rw [hI13];simp only [c1,c2,c3,c4,c5,c6,c7,↓reduceIte,Bool.false_eq_true]
   have c7p:=kz c7
   refine Aa ?_
   refine AB (.t4 2 5 7 82) ?_
   refine AA (CD (Gm rfl (Gt (Ak rfl rfl) (Gm rfl (Bg 90 rfl rfl (fun q=>Aj DN rfl) (Bg 90 rfl rfl (fun q=>AG (cF rfl q) A5 .m0 Ao.l3 rfl rfl) (Bg 90 rfl rfl (fun q=>BA (cF rfl q) rfl) ?_)))))))
   refine Gt (BU rfl rfl (fun h=>by rw [h];rfl)) ?_
   refine Gm rfl (Bg 95 rfl rfl (fun q=>Aj DN rfl) (Bg 95 rfl rfl (fun q=>AG (cF rfl q) A5 .m0 Ao.l3 rfl rfl) (Bg 95 rfl rfl (fun q=>CK (cF rfl q) rfl) ?_)))
   refine Gt (BU rfl rfl (fun h=>by rw [h];rfl)) ?_
   refine Gn (.t4 2 5 82 99) ?_
   refine Gc (fun c8=>?_) (fun c8=>?_)
   ·
    refine Gs (Ga rfl (Gn (.t1 4) (Ac (AE (AT (AE (AE ?_)))))))
    refine AT (AT (AE ?_))
    refine AZ rfl (.tmp rfl .n) ?_
    intro w1 hS;refine⟨congrArg Value.bool ?_,hS.Al⟩;rw [hI13];simp only [c1,c2,c3,c4,c5,c6,c7,c8,↓reduceIte,Bool.false_eq_true]
   have c8p:=kz c8
   refine Aa ?_
   refine AB (.t3 2 5 82) ?_
   refine AA (AJ (Gt (Aj DN rfl) (Gt (AG rfl A5 .m0 Ao.l3 rfl rfl) (Gt (Aj Cx rfl) ?_))))
   refine Gt (AN GW rfl rfl (by omega) (by omega)) ?_
   refine Gt (AY rfl Mv .m1 (AI.l1.comp (AS.ar (n:=9) Ao.fl (by omega))) rfl) ?_
   refine AU (AK (AS.id Ao.fl.len Ao.fl.one) rfl rfl rfl NP rfl .h) ?_
   refine AQ (AB (.t3 2 5 82) ?_)
   refine AV (AA (AJ ?_))
   refine Gt (Ax rfl rfl (IntWalk.i64_in _ (by omega))) ?_
   refine Gm rfl ?_
   refine AQ (AB (.t3 2 5 82) ?_)
   refine Ds (k+1) (X.AP.at t.at_) ?_ ?_ (.t3 82 2 5) (.refl _)
   · exact⟨by omega,by omega,by rw [hI13];simp only [c1,c2,c3,c4,c5,c6,c7,c8,↓reduceIte,Bool.false_eq_true]⟩
   · omega
  have c6p:=kz c6
  obtain rfl:k=10:=by omega
  refine Be (AW (AW (Ai ?_)))
  refine AB (.nil _) ?_
  refine AV (AA (Gs (Ga rfl (AQ (AA (Ac ?_))))))
  refine AZ rfl (.tmp rfl .n) ?_
  intro w1 hS;refine⟨congrArg Value.bool ?_,hS.Al⟩;rw [hI13];rfl
 refine Aa ?_
 refine AB (.nil _) ?_
 refine AV (AA (Gs (Ga rfl (AQ (AA (Ac ?_))))))
 refine AZ rfl (.tmp rfl .n) ?_
 intro w1 hS;refine⟨congrArg Value.bool ?_,hS.Al⟩;simp only [AI.Cm,c1,c2,c3,c4,↓reduceIte,Bool.false_eq_true]
theorem Ho (X:AI)(w:World):En Tryz.prog 43 #[.agg X.enc.toArray] w fun v w'=>v = .bool X.Bj∧B9 w w':=by
 refine Am [] [] Tryz.func43 rfl rfl rfl (St.start w []) ?_
 refine Gs ?_
 refine B0 rfl rfl rfl (fun b1=>?_)
 refine Ga rfl (Gn (.t1 1) (CD (Gt (Aj G7 rfl) (Gt (AY rfl cT .m0 AI.l0 rfl) (Gm rfl (Gn (.t3 1 11 12) (Ag ?_)))))))
 refine Bo (.t3 12 1 11) ?_
 refine CT (fun(k:Int)=>0≤k∧k≤6∧X.Bj=(B7 6 X.MK (6 - k).toNat && (B7 6 (fun k=>!AI.Du (X.AO.at k)) 6 && B7 9 X.Cm 9))) (fun(k:Int)=>(6 - k).toNat) (fun(k:Int)=> [(12, .int .i64 k)]) (fun(k:Int)=> []) (0) ?_ rfl rfl (fun k hI1=>?_)
 · exact⟨Int.le_refl _,by omega,rfl⟩
 obtain⟨hI11,hI12,hI13⟩:=hI1
 refine Gs (Gt (BA rfl rfl) (AQ (AA (Aq ?_))))
 refine Gc (fun c1=>?_) (fun c1=>?_)
 ·
  have c1p:=kz c1
  rw [Di _ (by omega)] at hI13
  refine Aa ?_
  refine AB (.t3 1 11 12) ?_
  refine AA (Aq (Ag (Gs ?_)))
  refine Gt (GM Room.fl Tryz.underlying27 OM rfl rfl (by omega) (by omega)) ?_
  refine BG rfl N0 rfl (fun b2=>?_)
  refine AU (AK (AS.id Room.fl.len Room.fl.one) rfl rfl rfl RF rfl .h) ?_
  refine Gn (.t4 1 4 11 12) (Gs (Gt (Aj MZ rfl) (Gt (AY rfl Za .m0 Room.l2 rfl) (Gm rfl (Gn (.t6 1 4 11 12 16 17) (Ag ?_))))))
  refine Bo (.t6 17 1 4 11 12 16) ?_
  refine CT (fun(d:Int)=>0≤d∧d≤6∧X.MK k=B7 6 (fun d=>!AI.H7 (X.BS.at k) d) (6 - d).toNat) (fun(d:Int)=>(6 - d).toNat) (fun(d:Int)=> [(17, .int .i64 d)]) (fun(d:Int)=> []) (0) ?_ rfl rfl (fun d hI2=>?_)
  · exact⟨Int.le_refl _,by omega,rfl⟩
  obtain⟨hI21,hI22,hI23⟩:=hI2
  refine Gs (Gt (BA rfl rfl) (AQ (AA (Aq ?_))))
  refine Gc (fun c2=>?_) (fun c2=>?_)
  ·
   have c2p:=kz c2
   rw [Di _ (by omega)] at hI23
   refine Aa ?_
   refine AB (.t6 1 4 11 12 16 17) ?_
   refine AA (Aq (Ag (Gs (Gm rfl ?_))))
   refine Gt (Kb B1 Tryz.underlying23 DD A5 rfl rfl (by omega) (by omega) rfl) ?_
   refine Ga rfl (Ga rfl (Gn (.t8 1 4 5 6 11 12 16 17) (Gs (Gm rfl (Gt (BA rfl rfl) (Gm rfl (Bg 23 rfl rfl (fun q=>AD rfl) ?_)))))))
   refine Bg 23 rfl rfl (fun q=>Cp (cF rfl q) rfl) ?_
   refine Gt (BU rfl rfl (fun h=>by rw [h];rfl)) ?_
   refine Gm rfl (Bg 27 rfl rfl (fun q=>AD rfl) (Bg 27 rfl rfl (fun q=>Ak (cF rfl q) rfl) (Bg 27 rfl rfl (fun q=>AD (cF rfl q)) ?_)))
   refine DX (t:=30) rfl rfl rfl (fun qc q=>AD rfl) ?_
   refine DX (t:=30) rfl rfl rfl (fun qc q=>Aj MR rfl) ?_
   refine DX (t:=30) rfl rfl rfl (fun qc q=>by have q1:=q;have qc1:=qc;(try simp at q1 qc1);exact AN Vg (BX rfl (by rw [qc,q];rfl)) (BX rfl (by rw [qc,q];rfl)) (by omega) (by omega)) ?_
   refine DX (t:=30) rfl rfl rfl (fun qc q=>by have q1:=q;have qc1:=qc;(try simp at q1 qc1);exact AG (BX rfl (by rw [qc,q];rfl)) DO .m0 (Room.l3.comp (AS.ar (n:=6) HT (by omega))) rfl rfl) ?_
   refine Bg 27 rfl rfl (fun q=>BI (cF rfl q) rfl (fun h=>by rw [q,h];rfl)) ?_
   refine Gt (BU rfl rfl (fun h=>by rw [h];rfl)) ?_
   refine Gn (.t7 1 4 11 12 16 17 36) ?_
   refine Gc (fun c3=>?_) (fun c3=>?_)
   ·
    refine Gs (Ga rfl (Gn (.t1 2) (Ac (AT (AE (AE (AT ?_)))))))
    refine AT (AE (AE (AT (AE ?_))))
    refine AZ rfl (.tmp rfl .n) ?_
    intro w1 hS;refine⟨congrArg Value.bool ?_,hS.Al⟩;rw [hI13,hI23,AI.H7,c3];rfl
   have c3p:=kz c3
   refine Aa ?_
   refine AB (.t6 1 4 11 12 16 17) ?_
   refine AV (AA (AJ ?_))
   refine Gt (Ax rfl rfl (IntWalk.i64_in _ (by omega))) ?_
   refine Gm rfl ?_
   refine AQ (AB (.t6 1 4 11 12 16 17) ?_)
   refine Bz (d+1) ?_ ?_ (.t6 17 1 4 11 12 16) (.refl _)
   · exact⟨by omega,by omega,by rw [hI23,AI.H7,c3];rfl⟩
   · omega
  have c2p:=kz c2
  obtain rfl:d=6:=by omega
  refine Be (AW (AW (Ai ?_)))
  refine AB (.t3 1 11 12) ?_
  refine AV (AA (AJ ?_))
  refine Gt (Ax rfl rfl (IntWalk.i64_in _ (by omega))) ?_
  refine Gm rfl ?_
  refine AQ (AB (.t3 1 11 12) ?_)
  refine Bz (k+1) ?_ ?_ (.t3 12 1 11) (.cons _ (.refl _))
  · exact⟨by omega,by omega,by rw [hI13,hI23];rfl⟩
  · omega
 have c1p:=kz c1
 obtain rfl:k=6:=by omega
 refine Be (AW (AW (Ai ?_)))
 refine AB (.t1 1) ?_
 refine AA (CD (Gt (Aj Br rfl) (Gt (AY rfl ZX .m0 AI.l2 rfl) (Gm rfl (Gn (.t3 1 40 41) (Ag ?_))))))
 refine Bo (.t3 41 1 40) ?_
 refine CT (fun(b:Int)=>0≤b∧b≤6∧X.Bj=(B7 6 (fun k=>!AI.Du (X.AO.at k)) (6 - b).toNat && B7 9 X.Cm 9)) (fun(b:Int)=>(6 - b).toNat) (fun(b:Int)=> [(41, .int .i64 b)]) (fun(b:Int)=> []) (0) ?_ rfl rfl (fun b hI3=>?_)
 · exact⟨Int.le_refl _,by omega,hI13⟩
 obtain⟨hI31,hI32,hI33⟩:=hI3
 refine Gs (Gt (BA rfl rfl) (AQ (AA (Aq ?_))))
 refine Gc (fun c4=>?_) (fun c4=>?_)
 ·
  have c4p:=kz c4
  rw [Di _ (by omega)] at hI33
  refine Aa ?_
  refine AB (.t3 1 40 41) ?_
  refine AA (Aq (Ag (Gs ?_)))
  refine Gt (GM An.fl Tryz.underlying33 F2 rfl rfl (by omega) (by omega)) ?_
  refine BG rfl L5 rfl (fun b3=>?_)
  refine AU (AK (AS.id An.fl.len An.fl.one) rfl rfl rfl Ko rfl .h) ?_
  refine Gn (.t4 1 8 40 41) (Gs (Gt (Aj C6 rfl) (Gt (AG rfl A5 .m0 An.l3 rfl rfl) (Gt (BA rfl rfl) (Gm rfl (Bg 47 rfl rfl (fun q=>Aj C6 rfl) (Bg 47 rfl rfl (fun q=>AG (cF rfl q) A5 .m0 An.l3 rfl rfl) ?_)))))))
  refine Bg 47 rfl rfl (fun q=>CK (cF rfl q) rfl) ?_
  refine Gt (BU rfl rfl (fun h=>by rw [h];rfl)) ?_
  refine Gm rfl (Bg 52 rfl rfl (fun q=>Aj Js rfl) (Bg 52 rfl rfl (fun q=>AG (cF rfl q) A5 .m0 An.l4 rfl rfl) (Bg 52 rfl rfl (fun q=>BA (cF rfl q) rfl) ?_)))
  refine Gt (BU rfl rfl (fun h=>by rw [h];rfl)) ?_
  refine Gm rfl (Bg 57 rfl rfl (fun q=>Aj Js rfl) (Bg 57 rfl rfl (fun q=>AG (cF rfl q) A5 .m0 An.l4 rfl rfl) (Bg 57 rfl rfl (fun q=>Cp (cF rfl q) rfl) ?_)))
  refine Gt (BU rfl rfl (fun h=>by rw [h];rfl)) ?_
  refine Gm rfl (Bg 62 rfl rfl (fun q=>Aj GR rfl) (Bg 62 rfl rfl (fun q=>AG (cF rfl q) A5 .m0 An.l5 rfl rfl) (Bg 62 rfl rfl (fun q=>BA (cF rfl q) rfl) ?_)))
  refine Gt (BU rfl rfl (fun h=>by rw [h];rfl)) ?_
  refine Gm rfl (Bg 67 rfl rfl (fun q=>Aj GR rfl) (Bg 67 rfl rfl (fun q=>AG (cF rfl q) A5 .m0 An.l5 rfl rfl) (Bg 67 rfl rfl (fun q=>Cp (cF rfl q) rfl) ?_)))
  refine Gt (BU rfl rfl (fun h=>by rw [h];rfl)) ?_
  refine Gm rfl (Bg 72 rfl rfl (fun q=>Aj Ie rfl) (Bg 72 rfl rfl (fun q=>AG (cF rfl q) DO .m0 An.l1 rfl rfl) (Bg 72 rfl rfl (fun q=>BR (cF rfl q)) (Bg 72 rfl rfl (fun q=>AD (cF rfl q)) ?_))))
  refine DX (t:=76) rfl rfl rfl (fun qc q=>Aj GR rfl) ?_
  refine DX (t:=76) rfl rfl rfl (fun qc q=>AG (BX rfl (by rw [qc,q];rfl)) A5 .m0 An.l5 rfl rfl) ?_
  refine DX (t:=76) rfl rfl rfl (fun qc q=>CN (BX rfl (by rw [qc,q];rfl)) rfl) ?_
  refine Bg 72 rfl rfl (fun q=>BI (cF rfl q) rfl (fun h=>by rw [q,h];rfl)) ?_
  refine Gt (BU rfl rfl (fun h=>by rw [h];rfl)) ?_
  refine Gm rfl (Bg 82 rfl rfl (fun q=>Aj Ie rfl) (Bg 82 rfl rfl (fun q=>AG (cF rfl q) DO .m0 An.l1 rfl rfl) (Bg 82 rfl rfl (fun q=>Aj Js rfl) (Bg 82 rfl rfl (fun q=>AG (cF rfl q) A5 .m0 An.l4 rfl rfl) (Bg 82 rfl rfl (fun q=>Cp (cF rfl q) rfl) (Bg 82 rfl rfl (fun q=>Jq Tryz.underlying4 (cF rfl q) (cF rfl q)) ?_))))))
  refine Gt (BU rfl rfl (fun h=>by rw [h];rfl)) ?_
  refine Gn (.t4 1 40 41 89) ?_
  refine Gc (fun c5=>?_) (fun c5=>?_)
  ·
   refine Gs (Ga rfl (Gn (.t1 2) (Ac (AT (AE (AE (AT ?_)))))))
   refine AE ?_
   refine AZ rfl (.tmp rfl .n) ?_
   intro w1 hS;refine⟨congrArg Value.bool ?_,hS.Al⟩;rw [hI33,AI.Du,c5];rfl
  have c5p:=kz c5
  refine Aa ?_
  refine AB (.t3 1 40 41) ?_
  refine AV (AA (AJ ?_))
  refine Gt (Ax rfl rfl (IntWalk.i64_in _ (by omega))) ?_
  refine Gm rfl ?_
  refine AQ (AB (.t3 1 40 41) ?_)
  refine Bz (b+1) ?_ ?_ (.t3 41 1 40) (.cons _ (.refl _))
  · exact⟨by omega,by omega,by rw [hI33,AI.Du,c5];rfl⟩
  · omega
 have c4p:=kz c4
 obtain rfl:b=6:=by omega
 refine Be (AW (AW (Ai ?_)))
 refine AB (.t1 1) ?_
 refine AA (CD (Gm rfl (AQ (AA (Ag ?_)))))
 refine Bo (.t2 91 1) ?_
 refine CT (fun(t:Int)=>0≤t∧t≤9∧X.Bj=B7 9 X.Cm (9 - t).toNat) (fun(t:Int)=>(9 - t).toNat) (fun(t:Int)=> [(91, .int .i64 t)]) (fun(t:Int)=> []) (0) ?_ rfl rfl (fun t hI4=>?_)
 · exact⟨Int.le_refl _,by omega,hI33⟩
 obtain⟨hI41,hI42,hI43⟩:=hI4
 refine Gs (Gt (BA rfl rfl) (AQ (AA (Aq ?_))))
 refine Gc (fun c6=>?_) (fun c6=>?_)
 ·
  have c6p:=kz c6
  rw [Di _ (by omega)] at hI43
  refine Aa ?_
  refine AB (.t2 1 91) ?_
  refine AA (Aq (Ag (Gs (Gm rfl (Ga rfl (Gn (.t3 1 9 91) (Gs ?_)))))))
  refine Gt (AY rfl Ba .m0 (AS.id AI.fl.len AI.fl.one) rfl) (Gm rfl ?_)
  refine BD rfl du (.c rfl (.c rfl .n)) (fun w hS=>Ks X _ (by omega) (by omega) w) ?_
  refine Gt (BR rfl) (Gn (.t3 1 91 97) ?_)
  refine Gc (fun c7=>?_) (fun c7=>?_)
  ·
   refine Gs (Ga rfl (Gn (.t1 2) (Ac (AT (AE (AE (AT ?_)))))))
   refine AE ?_
   refine AZ rfl (.tmp rfl .n) ?_
   intro w1 hS;refine⟨congrArg Value.bool ?_,hS.Al⟩;rw [hI43,show X.Cm t=false by simpa using c7];rfl
  have c7p:=kz c7
  refine Aa ?_
  refine AB (.t2 1 91) ?_
  refine AV (AA (AJ ?_))
  refine Gt (Ax rfl rfl (IntWalk.i64_in _ (by omega))) ?_
  refine Gm rfl ?_
  refine AQ (AB (.t2 1 91) ?_)
  refine Bz (t+1) ?_ ?_ (.t2 91 1) (.refl _)
  · exact⟨by omega,by omega,by rw [hI43,show X.Cm t=true by simpa using c7];rfl⟩
  · omega
 have c6p:=kz c6
 obtain rfl:t=9:=by omega
 refine Be (AW (AW (Ai ?_)))
 refine AB (.nil _) ?_
 refine AA (Gs (Ga rfl (AQ (AA (Ac ?_)))))
 refine AZ rfl (.tmp rfl .n) ?_
 intro w1 hS;refine⟨congrArg Value.bool ?_,hS.Al⟩;rw [hI43];rfl
theorem Md (s:Au)(hs:s.length≤100000000)(w:World):En Tryz.prog 46 #[BT s] w fun v w'=>v = .bool (AF.FW s)∧B9 w w':=by
 refine Am [] [] Tryz.func46 rfl rfl rfl (St.start w []) ?_
 refine Gs (Ga rfl (Gn (.t1 0) (CD (Gm rfl (Gt (BL rfl Tryz.underlying9 rfl) (Gm rfl (Gn (.t3 0 5 6) ?_)))))))
 refine Ag ?_
 refine Bo (.t3 6 0 5) ?_
 refine CT (fun(k:Int)=>0≤k∧k≤(s.length:Int)∧AF.H0 s 0=AF.H0 s k.toNat) (fun(k:Int)=>((s.length:Int) - k).toNat) (fun(k:Int)=> [(6, .int .i64 k)]) (fun(k:Int)=> []) (0) ?_ rfl rfl (fun k hI1=>?_)
 · exact⟨by omega,by omega,rfl⟩
 obtain⟨hI11,hI12,hI13⟩:=hI1
 refine Gs (Gt (BA rfl rfl) (AQ (AA (Aq ?_))))
 refine Gc (fun c1=>?_) (fun c1=>?_)
 ·
  have c1p:=kz c1
  have hst:=AF.Vs (s:=s) hI11 (by omega)
  refine Aa ?_
  refine AB (.t3 0 5 6) ?_
  refine AA (Aq (Ag (Gs (Gm rfl (Ga rfl (Gn (.t4 0 3 5 6) (Gs ?_)))))))
  refine Gm rfl (Gm rfl ?_)
  refine Gt (Bq Tryz.underlying9 rfl rfl (by omega) (by omega)) ?_
  refine Gt (BA rfl rfl) (Gm rfl (Bg 13 rfl rfl (fun q=>AD rfl) (Bg 13 rfl rfl (fun q=>AD rfl) ?_)))
  refine Bg 13 rfl rfl (fun q=>by have q1:=q;(try simp at q1);exact Bq Tryz.underlying9 (cF rfl q) (cF rfl q) (by omega) (by omega)) ?_
  refine Bg 13 rfl rfl (fun q=>Cp (cF rfl q) rfl) ?_
  refine Gt (BU rfl rfl (fun h=>by rw [h];rfl)) ?_
  refine Gn (.t4 0 5 6 18) ?_
  refine Gc (fun c2=>?_) (fun c2=>?_)
  ·
   rw [show AF.low (s.getD k.toNat 0)=true from c2] at hst
   refine Gs (Ga rfl (Gn (.t1 2) (Ac (AT (AE (AE (AT ?_)))))))
   refine AE ?_
   refine AZ rfl (.tmp rfl .n) ?_
   intro w1 hS;refine⟨?_,hS.Al⟩;exact congrArg Value.bool (by rw [AF.FW,hI13,hst];rfl)
  have c2p:=kz c2
  rw [show AF.low (s.getD k.toNat 0)=false from c2] at hst
  refine Aa ?_
  refine AB (.t3 0 5 6) ?_
  refine AV (AA (AJ ?_))
  refine Gt (Ax rfl rfl (IntWalk.i64_in _ (by omega))) ?_
  refine Gm rfl ?_
  refine AQ (AB (.t3 0 5 6) ?_)
  refine Bz (k+1) ?_ ?_ (.t3 6 0 5) (.refl _)
  · exact⟨by omega,by omega,by rw [hI13,hst];rfl⟩
  · omega
 have c1p:=kz c1
 obtain rfl:k=(s.length:Int):=by omega
 rw [AF.XR] at hI13
 refine Be (AW (AW (Ai ?_)))
 refine AB (.t1 0) ?_
 refine AA (Gs (Gm rfl (Gt (BL rfl Tryz.underlying9 rfl) (Gt (CK rfl rfl) (Gm rfl (Bb 23 rfl rfl (fun q=>AD rfl) (Bb 23 rfl rfl (fun q=>BL rfl Tryz.underlying9 (BX rfl q)) ?_)))))))
 refine Bb 23 rfl rfl (fun q=>Ic (BX rfl q) rfl) (Gt (BI rfl rfl (fun h=>h)) (Gm rfl (Bb 28 rfl rfl (fun q=>AD rfl) (Bb 28 rfl rfl (fun q=>Dt (BX rfl q) rfl) (Gt (BI rfl rfl (fun h=>h)) (Gm rfl (Bb 32 rfl rfl (fun q=>AD rfl) ?_)))))))
 refine Bb 32 rfl rfl (fun q=>Dt (BX rfl q) rfl) (Gt (BI rfl rfl (fun h=>h)) (Ga rfl (Gn (.t1 2) (Ac ?_))))
 refine AZ rfl (.tmp rfl .n) ?_
 intro w1 hS;refine⟨?_,hS.Al⟩;exact congrArg Value.bool (by rw [AF.FW,hI13];simp only [Bool.true_and];rfl)
theorem GS (X:AI)(b:Int)(w:World):En Tryz.prog 159 #[.agg X.enc.toArray, .int .i64 b] w fun v w'=>v = .bool (X.A0 b)∧B9 w w':=by
 refine Am [] [] Tryz.func159 rfl rfl rfl (St.start w []) ?_
 refine Gs ?_
 refine B0 rfl rfl rfl (fun b1=>?_)
 refine Ga rfl (Gn (.t2 1 2) (Gs (Gm rfl (Gt (CK rfl rfl) (Gm rfl (Bb 7 rfl rfl (fun q=>AD rfl) (Bb 7 rfl rfl (fun q=>BA (BX rfl q) rfl) ?_)))))))
 refine Gt (BI rfl rfl (fun h=>h)) (Gm rfl (Bb 11 rfl rfl (fun q=>AD rfl) (Bb 11 rfl rfl (fun q=>Aj Br rfl) ?_)))
 refine Bb 11 rfl rfl (fun q=>by have q1:=q;(try simp at q1);exact AN C8 (BX rfl q) (BX rfl q) (by omega) (by omega)) ?_
 refine Bb 11 rfl rfl (fun q=>Aj Ie (BX rfl q)) ?_
 refine Bb 11 rfl rfl (fun q=>by have q1:=q;(try simp at q1);exact AG (BX rfl q) DO .m0 ((AI.l2.comp (AS.ar (n:=6) An.fl (by omega))).comp An.l1) rfl rfl) ?_
 refine Gt (BI rfl rfl (fun h=>h)) (Ga rfl (Gn (.t1 4) (Ac ?_)))
 refine AZ rfl (.tmp rfl .n) ?_
 intro w1 hS;refine⟨?_,hS.Al⟩;rfl
theorem PA (X:AI)(i:Int)(w:World):En Tryz.prog 19 #[.agg X.enc.toArray, .int .i64 i] w fun v w'=>v = .tuple #[.int .i64 (X.room i).1, .bool (X.room i).2]∧B9 w w':=by
 refine Am [] [] Tryz.func19 rfl rfl rfl (St.start w []) ?_
 refine Gs ?_
 refine B0 rfl rfl rfl (fun b1=>?_)
 refine Ga rfl (Ga rfl (Gn (.t2 1 2) (Gs (Ga rfl (AQ (AA (CD ?_)))))))
 refine Gm rfl (AQ (AA (Ag ?_)))
 refine Bo (.t4 1 6 8 2) ?_
 refine D2 (fun(k:Int) (j:Int) (o:Bool)=>0≤k∧k≤10∧X.room i=X.Jo (10 - k).toNat j o) (fun(k:Int) (j:Int) (o:Bool)=>(10 - k).toNat) (fun(k:Int) (j:Int) (o:Bool)=> [(1, .int .i64 j),(6, .bool o),(8, .int .i64 k)]) (fun(k:Int) (j:Int) (o:Bool)=> []) (0) (i) (true) ?_ rfl rfl (fun k j o hI1=>?_)
 · exact⟨Int.le_refl _,by omega,rfl⟩
 obtain⟨hI11,hI12,hI13⟩:=hI1
 refine Gs (Gt (BA rfl rfl) (AQ (AA (Aq ?_))))
 refine Gc (fun c1=>?_) (fun c1=>?_)
 ·
  have c1p:=kz c1
  rw [show(10 - k).toNat=(10 - (k+1)).toNat+1 from by omega,AI.Jo] at hI13
  refine Aa ?_
  refine AB (.t4 1 2 6 8) ?_
  refine AA (Aq (Ag (CD (Gm rfl (Gt (BA rfl rfl) (Gm rfl (Bg 12 rfl rfl (fun q=>AD rfl) ?_)))))))
  refine Bg 12 rfl rfl (fun q=>CK (cF rfl q) rfl) ?_
  refine Gt (BU rfl rfl (fun h=>by rw [h];rfl)) ?_
  refine Gn (.t5 1 2 6 8 15) ?_
  refine Gc (fun c2=>?_) (fun c2=>?_)
  ·
   refine Gs (Ga rfl (Ga rfl (Gn (.t2 4 5) (Ac (AE (AT (AE ?_)))))))
   refine AE (AT (AE ?_))
   refine AZ rfl (.tmp rfl (.tmp rfl .n)) ?_
   intro w1 hS;refine⟨?_,hS.Al⟩;rw [hI13];simp only [c1,c2,↓reduceIte,Bool.false_eq_true];rfl
  have c2p:=kz c2
  refine Aa ?_
  refine AB (.t4 1 2 6 8) ?_
  refine AA (Gs (Gm rfl (Gt (Aj Cx rfl) ?_)))
  refine Gt (AN GW rfl rfl (by omega) (by omega)) ?_
  refine Gt (AY rfl Mv .m0 (AI.l1.comp (AS.ar (n:=9) Ao.fl (by omega))) rfl) ?_
  refine BG rfl Kl rfl (fun b2=>?_)
  refine AU (AK (AS.id Ao.fl.len Ao.fl.one) rfl rfl rfl NP rfl .h) ?_
  refine Gn (.t4 2 6 7 8) (CD (Gt (Aj Fe rfl) (Gt (AG rfl A5 .m0 Ao.l2 rfl rfl) (Gn (.t5 2 6 7 8 21) (Ag (Gs (Gt (Ak rfl rfl) ?_)))))))
  refine Ga rfl (Gn (.t6 2 6 7 8 21 22) ?_)
  refine Gc (fun c3=>?_) (fun c3=>?_)
  ·
   refine Gs (Gt (Aj DN rfl) (Gt (AG rfl A5 .m0 Ao.l3 rfl rfl) (Gm rfl (Ga rfl (Ga rfl (Gn (.t2 4 5) (Ac ?_)))))))
   refine AT (AE (AT (AE (AE (AT (AE ?_))))))
   refine AZ rfl (.tmp rfl (.tmp rfl .n)) ?_
   intro w1 hS;refine⟨?_,hS.Al⟩;rw [hI13];simp only [c1,c2,c3,↓reduceIte,Bool.false_eq_true];rfl
  have c3p:=kz c3
  refine Gs (Gt (Ak rfl rfl) (Ga rfl (Gn (.t6 2 6 7 8 21 27) ?_)))
  refine Gc (fun c4=>?_) (fun c4=>?_)
  ·
   have c4p:=kz c4
   refine CD (Gt (Aj DN rfl) (Gt (AG rfl A5 .m0 Ao.l3 rfl rfl) (Gt (BA rfl rfl) (Gm rfl (Bg 32 rfl rfl (fun q=>Aj DN rfl) (Bg 32 rfl rfl (fun q=>AG (cF rfl q) A5 .m0 Ao.l3 rfl rfl) (Bg 32 rfl rfl (fun q=>CK (cF rfl q) rfl) ?_)))))))
   refine Gt (BU rfl rfl (fun h=>by rw [h];rfl)) ?_
   refine Gn (.t4 2 6 7 36) ?_
   refine Gc (fun c5=>?_) (fun c5=>?_)
   ·
    refine Gs (Ga rfl (Ga rfl (Gn (.t2 4 5) (Ac (AE (AT (AE ?_)))))))
    refine AT (AE (AE (AT (AE ?_))))
    refine AZ rfl (.tmp rfl (.tmp rfl .n)) ?_
    intro w1 hS;refine⟨?_,hS.Al⟩;rw [hI13];simp only [c1,c2,c3,c4,c5,↓reduceIte,Bool.false_eq_true];rfl
   have c5p:=kz c5
   refine Aa ?_
   refine AB (.t3 2 6 7) ?_
   refine AA (Gs (Gt (Aj DN rfl) (Gt (AG rfl A5 .m0 Ao.l3 rfl rfl) (Gt (Aj Br rfl) ?_))))
   refine Gt (AN C8 rfl rfl (by omega) (by omega)) ?_
   refine Gt (Aj C6 rfl) ?_
   refine Gt (AG rfl A5 .m1 ((AI.l2.comp (AS.ar (n:=6) An.fl (by omega))).comp An.l3) rfl rfl) ?_
   refine Gm rfl (Ga rfl (Ga rfl (Gn (.t2 4 5) (Ac (AT (AE (AT ?_)))))))
   refine AE (AE (AT (AE ?_)))
   refine AZ rfl (.tmp rfl (.tmp rfl .n)) ?_
   intro w1 hS;refine⟨?_,hS.Al⟩;rw [hI13];simp only [c1,c2,c3,c4,c5,↓reduceIte,Bool.false_eq_true];rfl
  have c4p:=kz c4
  refine Gs (Gt (Ak rfl rfl) (Ga rfl (Gn (.t5 2 6 7 8 44) ?_)))
  refine Gc (fun c6=>?_) (fun c6=>?_)
  ·
   have c6p:=kz c6
   refine Aa ?_
   refine AB (.t4 2 6 7 8) ?_
   refine AV (AA (Gs (Gt (Aj DN rfl) (Gt (AG rfl A5 .m0 Ao.l3 rfl rfl) (Ga rfl (Gn (.t4 1 2 6 8) (Gs ?_)))))))
   refine Gm rfl (Gt (CK rfl rfl) (Gm rfl (Bb 50 rfl rfl (fun q=>AD rfl) (Bb 50 rfl rfl (fun q=>BA (BX rfl q) rfl) (Gt (BI rfl rfl (fun h=>h)) (Gm rfl (Bb 54 rfl rfl (fun q=>AD rfl) ?_)))))))
   refine Bb 54 rfl rfl (fun q=>Aj Cx rfl) ?_
   refine Bb 54 rfl rfl (fun q=>by have q1:=q;(try simp at q1);exact AN GW (BX rfl q) (BX rfl q) (by omega) (by omega)) ?_
   refine Bb 54 rfl rfl (fun q=>Aj GP (BX rfl q)) ?_
   refine Bb 54 rfl rfl (fun q=>by have q1:=q;(try simp at q1);exact AG (BX rfl q) DO .m1 ((AI.l1.comp (AS.ar (n:=9) Ao.fl (by omega))).comp Ao.l4) rfl rfl) ?_
   refine Bb 54 rfl rfl (fun q=>BR (BX rfl q)) (Gt (BI rfl rfl (fun h=>h)) (Gn (.t5 1 2 6 8 61) ?_))
   refine Gc (fun c7=>?_) (fun c7=>?_)
   ·
    have c7p:=kz c7
    refine AJ (Ga rfl ?_)
    refine AQ (AB (.t4 1 2 6 8) ?_)
    refine AV (AA (AJ ?_))
    refine Gt (Ax rfl rfl (IntWalk.i64_in _ (by omega))) ?_
    refine Gm rfl ?_
    refine AQ (AB (.t4 1 2 6 8) ?_)
    refine B3 (k+1) ((X.AP.at j).at_) (false) ?_ ?_ (.t4 1 6 8 2) (.cons _ (.refl _))
    · exact⟨by omega,by omega,by rw [hI13];simp only [c1,c2,c3,c4,c6,c7,↓reduceIte,Bool.false_eq_true]⟩
    · omega
   have c7p:=kz c7
   refine Aa ?_
   refine AB (.t4 1 2 6 8) ?_
   refine AV (AA (AJ ?_))
   refine Gt (Ax rfl rfl (IntWalk.i64_in _ (by omega))) ?_
   refine Gm rfl ?_
   refine AQ (AB (.t4 1 2 6 8) ?_)
   refine B3 (k+1) ((X.AP.at j).at_) (o) ?_ ?_ (.t4 1 6 8 2) (.cons _ (.refl _))
   · exact⟨by omega,by omega,by rw [hI13];simp only [c1,c2,c3,c4,c6,c7,↓reduceIte,Bool.false_eq_true]⟩
   · omega
  refine Gs (Ga rfl (Ga rfl (Gn (.t2 4 5) (Ac (AT (AE (AT ?_)))))))
  refine AE (AE (AT (AE ?_)))
  refine AZ rfl (.tmp rfl (.tmp rfl .n)) ?_
  intro w1 hS;refine⟨?_,hS.Al⟩;rw [hI13];simp only [c1,c2,c3,c4,c6,↓reduceIte,Bool.false_eq_true];rfl
 have c1p:=kz c1
 obtain rfl:k=10:=by omega
 refine Be (AW (AW (Ai ?_)))
 refine AB (.nil _) ?_
 refine AA (Gs (Ga rfl (Ga rfl (AQ (AA (Ac ?_))))))
 refine AZ rfl (.tmp rfl (.tmp rfl .n)) ?_
 intro w1 hS;refine⟨?_,hS.Al⟩;rw [hI13];rfl
theorem El (X:AI)(r:Int)(w:World):En Tryz.prog 129 #[.agg X.enc.toArray, .int .i64 r] w fun v w'=>v = .bool (X.Hf r)∧B9 w w':=by
 refine Am [] [] Tryz.func129 rfl rfl rfl (St.start w []) ?_
 refine Gs ?_
 refine B0 rfl rfl rfl (fun b1=>?_)
 refine Ga rfl (Gn (.t2 1 2) (CD (Gm rfl (Gt (BA rfl rfl) (Gm rfl (Bg 11 rfl rfl (fun q=>AD rfl) (Bg 11 rfl rfl (fun q=>CK (cF rfl q) rfl) ?_)))))))
 refine Gt (BU rfl rfl (fun h=>by rw [h];rfl)) ?_
 refine Gn (.t3 1 2 14) ?_
 refine Gc (fun c1=>?_) (fun c1=>?_)
 ·
  refine Gs (Ga rfl (Gn (.t1 4) (Ac (AE ?_))))
  refine AZ rfl (.tmp rfl .n) ?_
  intro w1 hS;refine⟨congrArg Value.bool ?_,hS.Al⟩;rw [show X.Hf r=_ from BF c1]
 have c1p:=kz c1
 have hr:0≤r∧r < 6:=by simp at c1;omega
 refine Aa ?_
 refine AB (.t2 1 2) ?_
 refine AA (CD (Gm rfl (Gt (Aj G7 rfl) ?_)))
 refine Gt (AN Nw rfl rfl (by omega) (by omega)) ?_
 refine Gt (Aj aL rfl) ?_
 refine Gt (AG rfl DO .m0 ((AI.l0.comp (AS.ar (n:=6) Room.fl (by omega))).comp Room.l1) rfl rfl) ?_
 refine Gt (BR rfl) (Gn (.t3 1 2 20) ?_)
 refine Gc (fun c2=>?_) (fun c2=>?_)
 ·
  refine Gs (Ga rfl (Gn (.t1 4) (Ac (AE ?_))))
  refine AZ rfl (.tmp rfl .n) ?_
  intro w1 hS;refine⟨congrArg Value.bool ?_,hS.Al⟩;rw [show X.Hf r=_ from(AX c1).trans (BF c2)]
 have c2p:=kz c2
 refine Aa ?_
 refine AB (.t2 1 2) ?_
 refine AA (CD (Gt (Aj Cx rfl) (Gt (AY rfl X6 .m0 AI.l1 rfl) (Gm rfl (Gn (.t4 1 2 22 23) (Ag ?_))))))
 refine Bo (.t4 23 1 2 22) ?_
 refine CT (fun(k:Int)=>0≤k∧k≤9∧B7 9 (fun i=>!X.lit r i) 9=B7 9 (fun i=>!X.lit r i) (9 - k).toNat) (fun(k:Int)=>(9 - k).toNat) (fun(k:Int)=> [(23, .int .i64 k)]) (fun(k:Int)=> []) (0) ?_ rfl rfl (fun k hI1=>?_)
 · exact⟨by omega,by omega,rfl⟩
 obtain⟨hI11,hI12,hI13⟩:=hI1
 refine Gs (Gt (BA rfl rfl) (AQ (AA (Aq ?_))))
 refine Gc (fun c3=>?_) (fun c3=>?_)
 ·
  have c3p:=kz c3
  rw [Di _ (by omega)] at hI13
  refine Aa ?_
  refine AB (.t4 1 2 22 23) ?_
  refine AA (Aq (Ag (Gs (Gm rfl ?_))))
  refine Gt (GM Ao.fl Tryz.underlying30 Mv rfl rfl (by omega) (by omega)) ?_
  refine BG rfl Kl rfl (fun b2=>?_)
  refine Ga rfl ?_
  refine AU (AK (AS.id Ao.fl.len Ao.fl.one) rfl rfl rfl NP rfl .h) ?_
  refine Gn (.t6 1 2 5 6 22 23) (CD (Gt (Aj G9 rfl) (Gt (AG rfl A5 .m0 Ao.l1 rfl rfl) (Gt (CN rfl rfl) (Gm rfl (Bg 30 rfl rfl (fun q=>Aj GP rfl) (Bg 30 rfl rfl (fun q=>AG (cF rfl q) DO .m0 Ao.l4 rfl rfl) ?_)))))))
  refine Bg 30 rfl rfl (fun q=>BR (cF rfl q)) ?_
  refine Gt (BU rfl rfl (fun h=>by rw [h];rfl)) ?_
  refine Gn (.t6 1 2 5 22 23 34) ?_
  refine Gc (fun c4=>?_) (fun c4=>?_)
  ·
   have c4p:=kz c4
   refine Be (AW (Ai ?_))
   refine AB (.t4 1 2 22 23) ?_
   refine AA (AJ ?_)
   refine Gt (Ax rfl rfl (IntWalk.i64_in _ (by omega))) ?_
   refine Gm rfl ?_
   refine AQ (AB (.t4 1 2 22 23) ?_)
   refine Bz (k+1) ?_ ?_ (.t4 23 1 2 22) (.cons _ (.refl _))
   · exact⟨by omega,by omega,by rw [hI13,show X.lit r k=false from by rw [AI.lit,c4];first | rfl | exact Bool.and_false _];rfl⟩
   · omega
  have c4p:=kz c4
  refine Aa ?_
  refine AB (.t5 1 2 5 22 23) ?_
  refine AA (Gs (Gt (AY rfl Ba .m1 (AS.id AI.fl.len AI.fl.one) rfl) (Gm rfl ?_)))
  refine BD rfl eI (.c rfl (.c rfl .n)) (fun w hS=>PA _ _ w) ?_
  refine Gm rfl (Gt (AL rfl rfl) (Gt (AL rfl rfl) (Ga rfl (Ga rfl (Gn (.t6 1 2 7 8 22 23) (Gs (Gm rfl ?_)))))))
  refine Gm rfl (Gt (Ak rfl rfl) (Gm rfl (Bb 44 rfl rfl (fun q=>AD rfl) (Gt (BI rfl rfl (fun h=>h)) (Gn (.t5 1 2 22 23 46) ?_)))))
  refine Gc (fun c5=>?_) (fun c5=>?_)
  ·
   refine Gs (Ga rfl (Gn (.t1 4) (Ac (AT (AE (AE (AT ?_)))))))
   refine AE ?_
   refine AZ rfl (.tmp rfl .n) ?_
   intro w1 hS;refine⟨congrArg Value.bool ?_,hS.Al⟩;rw [show X.Hf r=_ from(AX c1).trans (AX c2),hI13,show X.lit r k=true from by rw [AI.lit,c4,c5];rfl];rfl
  have c5p:=kz c5
  refine Aa ?_
  refine AB (.t4 1 2 22 23) ?_
  refine AV (AA (AJ ?_))
  refine Gt (Ax rfl rfl (IntWalk.i64_in _ (by omega))) ?_
  refine Gm rfl ?_
  refine AQ (AB (.t4 1 2 22 23) ?_)
  refine Bz (k+1) ?_ ?_ (.t4 23 1 2 22) (.cons _ (.refl _))
  · exact⟨by omega,by omega,by rw [hI13,show X.lit r k=false from by rw [AI.lit,c5];first | rfl | exact Bool.and_false _];rfl⟩
  · omega
 have c3p:=kz c3
 obtain rfl:k=9:=by omega
 refine Be (AW (AW (Ai ?_)))
 refine AB (.nil _) ?_
 refine AA (Gs (Ga rfl (AQ (AA (Ac ?_)))))
 refine AZ rfl (.tmp rfl .n) ?_
 intro w1 hS;refine⟨congrArg Value.bool ?_,hS.Al⟩;rw [show X.Hf r=_ from(AX c1).trans (AX c2),hI13];rfl
theorem IC (X:AI)(b:Int)(w:World):En Tryz.prog 160 #[.agg X.enc.toArray, .int .i64 b] w fun v w'=>v = .bool (X.hidden b)∧B9 w w':=by
 refine Am [] [] Tryz.func160 rfl rfl rfl (St.start w []) ?_
 refine Gs ?_
 refine B0 rfl rfl rfl (fun b1=>?_)
 refine Ga rfl (Gn (.t2 1 2) (CD (Gt (Aj Cx rfl) (Gt (AY rfl X6 .m0 AI.l1 rfl) (Gm rfl (Gn (.t3 1 8 9) (Ag ?_)))))))
 refine Bo (.t3 9 1 8) ?_
 refine CT (fun(k:Int)=>0≤k∧k≤9∧B7 9 (fun i=>!X.L8 b i) 9=B7 9 (fun i=>!X.L8 b i) (9 - k).toNat) (fun(k:Int)=>(9 - k).toNat) (fun(k:Int)=> [(9, .int .i64 k)]) (fun(k:Int)=> []) (0) ?_ rfl rfl (fun k hI1=>?_)
 · exact⟨by omega,by omega,rfl⟩
 obtain⟨hI11,hI12,hI13⟩:=hI1
 refine Gs (Gt (BA rfl rfl) (AQ (AA (Aq ?_))))
 refine Gc (fun c1=>?_) (fun c1=>?_)
 ·
  have c1p:=kz c1
  rw [Di _ (by omega)] at hI13
  refine Aa ?_
  refine AB (.t3 1 8 9) ?_
  refine AA (Aq (Ag (Gs ?_)))
  refine Gt (GM Ao.fl Tryz.underlying30 Mv rfl rfl (by omega) (by omega)) ?_
  refine BG rfl Kl rfl (fun b2=>?_)
  refine AU (AK (AS.id Ao.fl.len Ao.fl.one) rfl rfl rfl NP rfl .h) ?_
  refine Gn (.t4 1 6 8 9) (Gs (Gt (Aj G9 rfl) (Gt (AG rfl A5 .m0 Ao.l1 rfl rfl) (Gt (Ak rfl rfl) (Gm rfl (Bb 15 rfl rfl (fun q=>Aj GP rfl) (Bb 15 rfl rfl (fun q=>AG (BX rfl q) DO .m0 Ao.l4 rfl rfl) ?_)))))))
  refine Gt (BI rfl rfl (fun h=>h)) (Gm rfl (Bb 19 rfl rfl (fun q=>Aj Fe rfl) (Bb 19 rfl rfl (fun q=>AG (BX rfl q) A5 .m0 Ao.l2 rfl rfl) (Bb 19 rfl rfl (fun q=>Ak (BX rfl q) rfl) (Gt (BI rfl rfl (fun h=>h)) (Gm rfl (Bb 24 rfl rfl (fun q=>Aj DN rfl) ?_)))))))
  refine Bb 24 rfl rfl (fun q=>AG (BX rfl q) A5 .m0 Ao.l3 rfl rfl) (Bb 24 rfl rfl (fun q=>AD rfl) (Bb 24 rfl rfl (fun q=>Ak (BX rfl q) (BX rfl q)) (Gt (BI rfl rfl (fun h=>h)) (Gn (.t4 1 8 9 29) ?_))))
  refine Gc (fun c2=>?_) (fun c2=>?_)
  ·
   refine Gs (Ga rfl (Gn (.t1 4) (Ac (AT (AE (AE (AT ?_)))))))
   refine AE ?_
   refine AZ rfl (.tmp rfl .n) ?_
   intro w1 hS;refine⟨congrArg Value.bool ?_,hS.Al⟩;rw [AI.hidden,hI13,show X.L8 b k=true from c2];rfl
  have c2p:=kz c2
  refine Aa ?_
  refine AB (.t3 1 8 9) ?_
  refine AV (AA (AJ ?_))
  refine Gt (Ax rfl rfl (IntWalk.i64_in _ (by omega))) ?_
  refine Gm rfl ?_
  refine AQ (AB (.t3 1 8 9) ?_)
  refine Bz (k+1) ?_ ?_ (.t3 9 1 8) (.cons _ (.refl _))
  · exact⟨by omega,by omega,by rw [hI13,show X.L8 b k=false from c2];rfl⟩
  · omega
 have c1p:=kz c1
 obtain rfl:k=9:=by omega
 refine Be (AW (AW (Ai ?_)))
 refine AB (.nil _) ?_
 refine AA (Gs (Ga rfl (AQ (AA (Ac ?_)))))
 refine AZ rfl (.tmp rfl .n) ?_
 intro w1 hS;refine⟨congrArg Value.bool ?_,hS.Al⟩;rw [AI.hidden,hI13];rfl
theorem DV (X:AI)(a b:Int)(w:World):En Tryz.prog 130 #[.agg X.enc.toArray, .int .i64 a, .int .i64 b] w fun v w'=>v = .bool (X.JC a b)∧B9 w w':=by
 refine Am [] [] Tryz.func130 rfl rfl rfl (St.start w []) ?_
 refine Gs ?_
 refine B0 rfl rfl rfl (fun b1=>?_)
 refine Ga rfl (Gn (.t3 1 2 3) (CD (Gt (AY rfl Ba .m0 (AS.id AI.fl.len AI.fl.one) rfl) (Gm rfl ?_))))
 refine BD rfl Xe (.c rfl (.c rfl .n)) (fun w hS=>GS _ _ w) ?_
 refine Gt (BR rfl) (Gm rfl (Bg 13 rfl rfl (fun q=>AY rfl Ba .m0 (AS.id AI.fl.len AI.fl.one) rfl) (Bg 13 rfl rfl (fun q=>AD rfl) ?_)))
 refine RL (t:=13) rfl rfl rfl (fun q=>by have q1:=q;(try simp at q1);exact Dl Xe (.c (cF rfl q) (.c (cF rfl q) .n)) (fun w hS=>GS _ _ w)) ?_
 refine Bg 13 rfl rfl (fun q=>BR (cF rfl q)) ?_
 refine Gt (BU rfl rfl (fun h=>by rw [h];rfl)) ?_
 refine Gn (.t4 1 2 3 18) ?_
 refine Gc (fun c1=>?_) (fun c1=>?_)
 ·
  refine Gs (Ga rfl (Gn (.t1 6) (Ac (AE ?_))))
  refine AZ rfl (.tmp rfl .n) ?_
  intro w1 hS;refine⟨congrArg Value.bool ?_,hS.Al⟩;rw [show X.JC a b=_ from(BF c1)]
 have c1p:=kz c1
 have hr:(0≤a∧a < 6)∧0≤b∧b < 6:=by simp at c1;have h1:=AI.HR c1.1;have h2:=AI.HR c1.2;omega
 refine Aa ?_
 refine AB (.t3 1 2 3) ?_
 refine AA (CD (Gm rfl (Gm rfl (Gt (Ak rfl rfl) (Gn (.t4 1 2 3 21) ?_)))))
 refine Gc (fun c2=>?_) (fun c2=>?_)
 ·
  refine Gs (Ga rfl (Gn (.t1 6) (Ac (AE ?_))))
  refine AZ rfl (.tmp rfl .n) ?_
  intro w1 hS;refine⟨congrArg Value.bool ?_,hS.Al⟩;rw [show X.JC a b=_ from((AX c1).trans (BF c2))]
 have c2p:=kz c2
 refine Aa ?_
 refine AB (.t3 1 2 3) ?_
 refine AA (Aq ?_)
 refine BE (N:=12) [0,0,3,7,0,0,48,112,0,0,783,2047] mix (by kernel_rfl) rfl ?_
 refine Pf 0 rfl (AD rfl) (Pf 1 rfl (Aj Br rfl) ?_)
 refine Pf 2 rfl (AN C8 rfl rfl (by omega) (by omega)) ?_
 refine Pf 3 rfl (AY rfl F2 .m0 (AI.l2.comp (AS.ar (n:=6) An.fl (by omega))) rfl) ?_
 refine Pf 4 rfl (AD rfl) (Pf 5 rfl (Aj Br rfl) ?_)
 refine Pf 6 rfl (AN C8 rfl rfl (by omega) (by omega)) ?_
 refine Pf 7 rfl (AY rfl F2 .m0 (AI.l2.comp (AS.ar (n:=6) An.fl (by omega))) rfl) ?_
 refine J9 8 9 rfl rfl (by kernel_rfl) ?_ ?_
 ·
  refine BG rfl L5 rfl (fun b2=>?_)
  refine Bf rfl ⟨?_,?_⟩
  · exact(Po rfl (AY rfl F2 .m1 (AI.l2.comp (AS.ar (n:=6) An.fl (by omega))) rfl) rfl rfl (Po rfl (AN C8 rfl rfl (by omega) (by omega)) rfl rfl (Po rfl (Aj Br rfl) rfl rfl (Po rfl (AD rfl) rfl rfl (Po rfl (AY rfl F2 .m1 (AI.l2.comp (AS.ar (n:=6) An.fl (by omega))) rfl) rfl rfl (Po rfl (AN C8 rfl rfl (by omega) (by omega)) rfl rfl (Po rfl (Aj Br rfl) rfl rfl (Po rfl (AD rfl) rfl rfl Ar))))))))
  refine Af 9 rfl (by kernel_rfl) ?_
  refine BG rfl L5 rfl (fun b3=>?_)
  refine Bf rfl ⟨?_,?_⟩
  · exact(Po rfl (AY rfl F2 .m2 (AI.l2.comp (AS.ar (n:=6) An.fl (by omega))) rfl) rfl rfl (Po rfl (AN C8 rfl rfl (by omega) (by omega)) rfl rfl (Po rfl (Aj Br rfl) rfl rfl (Po rfl (AD rfl) rfl rfl (Po rfl (AY rfl F2 .m2 (AI.l2.comp (AS.ar (n:=6) An.fl (by omega))) rfl) rfl rfl (Po rfl (AN C8 rfl rfl (by omega) (by omega)) rfl rfl (Po rfl (Aj Br rfl) rfl rfl (Po rfl (AD rfl) rfl rfl Ar))))))))
  refine Af 10 rfl (by kernel_rfl) ?_
  refine AU (AK (AS.id An.fl.len An.fl.one) rfl rfl rfl Ko rfl (.t .h)) ?_
  refine BN rfl ⟨?_,?_⟩
  · exact(Po rfl (AY rfl F2 .m2 (AI.l2.comp (AS.ar (n:=6) An.fl (by omega))) rfl) rfl rfl (Po rfl (AN C8 rfl rfl (by omega) (by omega)) rfl rfl (Po rfl (Aj Br rfl) rfl rfl (Po rfl (AD rfl) rfl rfl (Pk (Pk (Pk (Pk Ar))))))))
  refine Af 11 rfl (by kernel_rfl) ?_
  refine AU (AK (AS.id An.fl.len An.fl.one) rfl rfl rfl Ko rfl .h) ?_
  refine BN rfl ⟨?_,?_⟩
  · exact(Pk (Pk (Pk (Pk (Pk (Pk (Pk (Pk Ar))))))))
  refine A1 (by kernel_rfl) ?_
  refine AB (.t4 2 3 7 8) ?_
  refine AA (Gs (Gt (Aj C6 rfl) (Gt (AG rfl A5 .m1 An.l3 rfl rfl) (Gt (Aj C6 rfl) (Gt (AG rfl A5 .m0 An.l3 rfl rfl) (Gt (Ak rfl rfl) (Gm rfl ?_)))))))
  refine Bb 35 rfl rfl (fun q=>AY rfl Ba .m2 (AS.id AI.fl.len AI.fl.one) rfl) (Bb 35 rfl rfl (fun q=>Aj C6 rfl) (Bb 35 rfl rfl (fun q=>AG (BX rfl q) A5 .m1 An.l3 rfl rfl) ?_))
  refine K5 (t:=35) rfl rfl rfl (fun q=>Dl UL (.c (BX rfl q) (.c (BX rfl q) .n)) (fun w hS=>El _ _ w)) ?_
  refine Gt (BI rfl rfl (fun h=>h)) (Gm rfl (Bb 41 rfl rfl (fun q=>Aj XX rfl) (Bb 41 rfl rfl (fun q=>AG (BX rfl q) DO .m1 An.l2 rfl rfl) (Bb 41 rfl rfl (fun q=>AD (BX rfl q)) ?_))))
  refine C3 (t:=44) rfl rfl rfl (fun qc q=>AY rfl Ba .m2 (AS.id AI.fl.len AI.fl.one) rfl) ?_
  refine C3 (t:=44) rfl rfl rfl (fun qc q=>AD rfl) ?_
  refine Up (t:=44) rfl rfl rfl (fun qc q=>by have q1:=q;have qc1:=qc;(try simp at q1 qc1);exact Dl Ze (.c (BX rfl (by rw [qc,q];rfl)) (.c (BX rfl (by rw [qc,q];rfl)) .n)) (fun w hS=>IC _ _ w)) ?_
  refine C3 (t:=44) rfl rfl rfl (fun qc q=>BR (BX rfl (by rw [qc,q];rfl))) ?_
  refine Bb 41 rfl rfl (fun q=>BU (BX rfl q) rfl (fun h=>by rw [q,h];rfl)) ?_
  refine Gt (BI rfl rfl (fun h=>h)) (Ga rfl (Gn (.t1 6) (Ac ?_)))
  refine AZ rfl (.tmp rfl .n) ?_
  intro w1 hS;refine⟨congrArg Value.bool ?_,hS.Al⟩;rw [show X.JC a b=_ from((AX c1).trans (AX c2))]
 ·
  refine BG rfl L5 rfl (fun b4=>?_)
  refine Bf rfl ⟨?_,?_⟩
  · exact(Po rfl (AY rfl F2 .m1 (AI.l2.comp (AS.ar (n:=6) An.fl (by omega))) rfl) rfl rfl (Po rfl (AN C8 rfl rfl (by omega) (by omega)) rfl rfl (Po rfl (Aj Br rfl) rfl rfl (Po rfl (AD rfl) rfl rfl (Po rfl (AY rfl F2 .m1 (AI.l2.comp (AS.ar (n:=6) An.fl (by omega))) rfl) rfl rfl (Po rfl (AN C8 rfl rfl (by omega) (by omega)) rfl rfl (Po rfl (Aj Br rfl) rfl rfl (Po rfl (AD rfl) rfl rfl Ar))))))))
  refine Af 8 rfl (by kernel_rfl) ?_
  refine BG rfl L5 rfl (fun b5=>?_)
  refine Bf rfl ⟨?_,?_⟩
  · exact(Po rfl (AY rfl F2 .m2 (AI.l2.comp (AS.ar (n:=6) An.fl (by omega))) rfl) rfl rfl (Po rfl (AN C8 rfl rfl (by omega) (by omega)) rfl rfl (Po rfl (Aj Br rfl) rfl rfl (Po rfl (AD rfl) rfl rfl (Po rfl (AY rfl F2 .m2 (AI.l2.comp (AS.ar (n:=6) An.fl (by omega))) rfl) rfl rfl (Po rfl (AN C8 rfl rfl (by omega) (by omega)) rfl rfl (Po rfl (Aj Br rfl) rfl rfl (Po rfl (AD rfl) rfl rfl Ar))))))))
  refine Af 10 rfl (by kernel_rfl) ?_
  refine AU (AK (AS.id An.fl.len An.fl.one) rfl rfl rfl Ko rfl .h) ?_
  refine BN rfl ⟨?_,?_⟩
  · exact(Po rfl (AY rfl F2 .m2 (AI.l2.comp (AS.ar (n:=6) An.fl (by omega))) rfl) rfl rfl (Po rfl (AN C8 rfl rfl (by omega) (by omega)) rfl rfl (Po rfl (Aj Br rfl) rfl rfl (Po rfl (AD rfl) rfl rfl (Pk (Pk (Pk (Pk Ar))))))))
  refine Af 11 rfl (by kernel_rfl) ?_
  refine AU (AK (AS.id An.fl.len An.fl.one) rfl rfl rfl Ko rfl (.t .h)) ?_
  refine BN rfl ⟨?_,?_⟩
  · exact(Pk (Pk (Pk (Pk (Pk (Pk (Pk (Pk Ar))))))))
  refine A1 (by kernel_rfl) ?_
  refine AB (.t4 2 3 7 8) ?_
  refine AA (Gs (Gt (Aj C6 rfl) (Gt (AG rfl A5 .m0 An.l3 rfl rfl) (Gt (Aj C6 rfl) (Gt (AG rfl A5 .m1 An.l3 rfl rfl) (Gt (Ak rfl rfl) (Gm rfl ?_)))))))
  refine Bb 35 rfl rfl (fun q=>AY rfl Ba .m2 (AS.id AI.fl.len AI.fl.one) rfl) (Bb 35 rfl rfl (fun q=>Aj C6 rfl) (Bb 35 rfl rfl (fun q=>AG (BX rfl q) A5 .m0 An.l3 rfl rfl) ?_))
  refine K5 (t:=35) rfl rfl rfl (fun q=>Dl UL (.c (BX rfl q) (.c (BX rfl q) .n)) (fun w hS=>El _ _ w)) ?_
  refine Gt (BI rfl rfl (fun h=>h)) (Gm rfl (Bb 41 rfl rfl (fun q=>Aj XX rfl) (Bb 41 rfl rfl (fun q=>AG (BX rfl q) DO .m0 An.l2 rfl rfl) (Bb 41 rfl rfl (fun q=>AD (BX rfl q)) ?_))))
  refine C3 (t:=44) rfl rfl rfl (fun qc q=>AY rfl Ba .m2 (AS.id AI.fl.len AI.fl.one) rfl) ?_
  refine C3 (t:=44) rfl rfl rfl (fun qc q=>AD rfl) ?_
  refine Up (t:=44) rfl rfl rfl (fun qc q=>by have q1:=q;have qc1:=qc;(try simp at q1 qc1);exact Dl Ze (.c (BX rfl (by rw [qc,q];rfl)) (.c (BX rfl (by rw [qc,q];rfl)) .n)) (fun w hS=>IC _ _ w)) ?_
  refine C3 (t:=44) rfl rfl rfl (fun qc q=>BR (BX rfl (by rw [qc,q];rfl))) ?_
  refine Bb 41 rfl rfl (fun q=>BU (BX rfl q) rfl (fun h=>by rw [q,h];rfl)) ?_
  refine Gt (BI rfl rfl (fun h=>h)) (Ga rfl (Gn (.t1 6) (Ac ?_)))
  refine AZ rfl (.tmp rfl .n) ?_
  intro w1 hS;refine⟨congrArg Value.bool ?_,hS.Al⟩;rw [show X.JC a b=_ from((AX c1).trans (AX c2))]
theorem NM (k:Int)(w:World):En Tryz.prog 173 #[.int .i64 k] w fun v w'=>v = .bool (AI.cl k)∧B9 w w':=by
 refine Am [] [] Tryz.func173 rfl rfl rfl (St.start w []) ?_
 refine Gs (Ga rfl (Gn (.t1 0) (Gs (Gm rfl (Gt (Ak rfl rfl) (Gm rfl (Bg 5 rfl rfl (fun q=>AD rfl) ?_)))))))
 refine Bg 5 rfl rfl (fun q=>Ak (cF rfl q) rfl) ?_
 refine Gt (BU rfl rfl (fun h=>by rw [h];rfl)) ?_
 refine Gm rfl (Bg 9 rfl rfl (fun q=>AD rfl) (Bg 9 rfl rfl (fun q=>Ak (cF rfl q) rfl) ?_))
 refine Gt (BU rfl rfl (fun h=>by rw [h];rfl)) ?_
 refine Ga rfl (Gn (.t1 2) (Ac ?_))
 refine AZ rfl (.tmp rfl .n) ?_
 intro w1 hS;refine⟨?_,hS.Al⟩;rfl
theorem KN (X:AI)(b:Int)(e:Ing.Event)(w:World):En Tryz.prog 157 #[.agg X.enc.toArray, .int .i64 b, .agg e.enc.toArray] w fun v w'=>v = .int .i64 (X.Dz b e)∧B9 w w':=by
 refine Am [] [] Tryz.func157 rfl rfl rfl (St.start w []) ?_
 refine Gs ?_
 refine B0 rfl rfl rfl (fun b1=>?_)
 refine B0 rfl rfl rfl (fun b2=>?_)
 refine Ga rfl (Gn (.t3 1 3 5) (Aq (Ag (Gs (Gt (AY rfl Ba .m1 (AS.id AI.fl.len AI.fl.one) rfl) (Gm rfl ?_))))))
 refine BD rfl Xe (.c rfl (.c rfl .n)) (fun w hS=>GS _ _ w) ?_
 refine Gt (BR rfl) (Ga rfl (Gn (.t4 1 3 5 8) ?_))
 refine Gc (fun c1=>?_) (fun c1=>?_)
 ·
  refine Gs (Ga rfl (Gn (.t1 6) (Ac (AT (AE ?_)))))
  refine AZ rfl (.tmp rfl .n) ?_
  intro w1 hS;refine⟨?_,hS.Al⟩;rw [show X.Dz b e=_ from(BF c1)];rfl
 have c1p:=kz c1
 have hr:0≤b∧b < 6:=by simp at c1;have h1:=AI.HR c1;omega
 refine Gs (Gm rfl (Gt (Aj Qz rfl) (Gt (AG rfl A5 .m0 Ing.Event.l2 rfl rfl) (Gt (Ak rfl rfl) (Ga rfl (Gn (.t4 1 3 5 13) ?_))))))
 refine Gc (fun c2=>?_) (fun c2=>?_)
 ·
  refine CD (Gt (Aj G6 rfl) (Gt (AG rfl A5 .m0 Ing.Event.l3 rfl rfl) (Gt (BA rfl rfl) (Gm rfl (Bg 21 rfl rfl (fun q=>Aj G6 rfl) (Bg 21 rfl rfl (fun q=>AG (cF rfl q) A5 .m0 Ing.Event.l3 rfl rfl) (Bg 21 rfl rfl (fun q=>CK (cF rfl q) rfl) ?_)))))))
  refine Gt (BU rfl rfl (fun h=>by rw [h];rfl)) ?_
  refine Gm rfl (Bg 26 rfl rfl (fun q=>AY rfl Ba .m1 (AS.id AI.fl.len AI.fl.one) rfl) (Bg 26 rfl rfl (fun q=>AD rfl) (Bg 26 rfl rfl (fun q=>Aj G6 rfl) (Bg 26 rfl rfl (fun q=>AG (cF rfl q) A5 .m0 Ing.Event.l3 rfl rfl) ?_))))
  refine RL (t:=26) rfl rfl rfl (fun q=>by have q1:=q;(try simp at q1);exact Dl Oc (.c (cF rfl q) (.c (cF rfl q) (.c (cF rfl q) .n))) (fun w hS=>DV _ _ _ w)) ?_
  refine Gt (BU rfl rfl (fun h=>by rw [h];rfl)) ?_
  refine Gn (.t1 32) ?_
  refine Gc (fun c3=>?_) (fun c3=>?_)
  ·
   refine Gs (Ga rfl (Gn (.t1 6) (Ac (AE (AT (AE ?_))))))
   refine AZ rfl (.tmp rfl .n) ?_
   intro w1 hS;refine⟨?_,hS.Al⟩;rw [show X.Dz b e=_ from((AX c1).trans ((BF c2).trans (BF c3)))];rfl
  refine Aa ?_
  refine AB (.nil _) ?_
  refine AA (Gs (Ga rfl (AQ (AA (Ac (AT (AE ?_)))))))
  refine AZ rfl (.tmp rfl .n) ?_
  intro w1 hS;refine⟨?_,hS.Al⟩;rw [show X.Dz b e=_ from((AX c1).trans ((BF c2).trans (AX c3)))];rfl
 have c2p:=kz c2
 refine Aq ?_
 refine BE (N:=14) [0,1,3,7,15,15,63,127,255,15,527,2047,4095,8191] mix (by kernel_rfl) rfl ?_
 refine Pf 0 rfl (Aj S5 rfl) (Pf 1 rfl (AG rfl A5 .m0 Ing.Event.l0 rfl rfl) (Pf 2 rfl (Ak rfl rfl) (Pf 3 rfl (AD rfl) (GB 4 37 rfl rfl rfl (fun q=>AD rfl) (GB 5 37 rfl rfl rfl (fun q=>Aj Br rfl) ?_)))))
 refine Ab 6 rfl rfl (by kernel_rfl) (DE (t:=37) rfl rfl (fun q=>by have q1:=q;(try simp at q1);exact Cu (AN C8 (cF rfl q) (cF rfl q) (by omega) (by omega)))) ?_
 refine GB 7 37 rfl rfl rfl (fun q=>Aj C6 (cF rfl q)) ?_
 refine Ab 8 rfl rfl (by kernel_rfl) (DE (t:=37) rfl rfl (fun q=>by have q1:=q;(try simp at q1);exact Cu (AG (cF rfl q) A5 .m1 ((AI.l2.comp (AS.ar (n:=6) An.fl (by omega))).comp An.l3) rfl rfl))) ?_
 refine GB 9 37 rfl rfl rfl (fun q=>Aj Xx rfl) (GB 10 37 rfl rfl rfl (fun q=>AG (cF rfl q) A5 .m0 Ing.Event.l1 rfl rfl) (GB 11 37 rfl rfl rfl (fun q=>CN (cF rfl q) (cF rfl q)) ?_))
 refine Pf 12 rfl (BU rfl rfl (fun h=>by rw [h];rfl)) ?_
 refine Pf 13 rfl (A2 rfl) ?_
 refine A1 (by kernel_rfl) ?_
 refine AB (.t4 1 3 5 33) ?_
 refine AA ?_
 refine Gc (fun c4=>?_) (fun c4=>?_)
 ·
  refine Gs (Ga rfl (Gn (.t1 6) (Ac (AT (AE ?_)))))
  refine AZ rfl (.tmp rfl .n) ?_
  intro w1 hS;refine⟨?_,hS.Al⟩;rw [show X.Dz b e=_ from((AX c1).trans ((AX c2).trans (BF c4)))];rfl
 have c4p:=kz c4
 refine Aa ?_
 refine AB (.t3 1 3 5) ?_
 refine AV (AA (Gs (Ga rfl (AQ (AA (CD (Gt (AY rfl Ba .m1 (AS.id AI.fl.len AI.fl.one) rfl) ?_)))))))
 refine Gm rfl (Gt (Aj Qz rfl) (Gt (AG rfl A5 .m0 Ing.Event.l2 rfl rfl) ?_))
 refine BD rfl Oc (.c rfl (.c rfl (.c rfl .n))) (fun w hS=>DV _ _ _ w) ?_
 refine Gt (BR rfl) (Gn (.t5 1 3 5 7 52) ?_)
 refine Gc (fun c5=>?_) (fun c5=>?_)
 ·
  have c5p:=kz c5
  refine CD (Gt (Aj S5 rfl) (Gt (AG rfl A5 .m0 Ing.Event.l0 rfl rfl) ?_))
  refine BD rfl bt (.c rfl .n) (fun w hS=>NM _ w) ?_
  refine Gt (BR rfl) (Gn (.t5 1 3 5 7 56) ?_)
  refine Gc (fun c6=>?_) (fun c6=>?_)
  ·
   refine Gs (Ga rfl (Gn (.t1 6) (Ac (AE (AE ?_)))))
   refine AZ rfl (.tmp rfl .n) ?_
   intro w1 hS;refine⟨?_,hS.Al⟩;rw [show X.Dz b e=_ from((AX c1).trans ((AX c2).trans ((AX c4).trans ((BF c5).trans (BF c6)))))];rfl
  have c6p:=kz c6
  refine Aa ?_
  refine AB (.t4 1 3 5 7) ?_
  refine AA (AJ (Gm rfl ?_))
  refine Gt (Ax rfl rfl (IntWalk.i64_in _ (by omega))) ?_
  refine Ga rfl (Gn (.t4 1 3 5 7) (CD (Gt (Aj G6 rfl) (Gt (AG rfl A5 .m0 Ing.Event.l3 rfl rfl) (Gt (CK rfl rfl) (Gm rfl (Bb 62 rfl rfl (fun q=>Aj G6 rfl) ?_)))))))
  refine Bb 62 rfl rfl (fun q=>AG (BX rfl q) A5 .m0 Ing.Event.l3 rfl rfl) (Bb 62 rfl rfl (fun q=>BA (BX rfl q) rfl) (Gt (BI rfl rfl (fun h=>h)) (Gm rfl (Bb 67 rfl rfl (fun q=>AY rfl Ba .m1 (AS.id AI.fl.len AI.fl.one) rfl) (Bb 67 rfl rfl (fun q=>AD rfl) (Bb 67 rfl rfl (fun q=>Aj G6 rfl) (Bb 67 rfl rfl (fun q=>AG (BX rfl q) A5 .m0 Ing.Event.l3 rfl rfl) ?_)))))))
  refine K5 (t:=67) rfl rfl rfl (fun q=>Dl Oc (.c (BX rfl q) (.c (BX rfl q) (.c (BX rfl q) .n))) (fun w hS=>DV _ _ _ w)) ?_
  refine Bb 67 rfl rfl (fun q=>BR (BX rfl q)) (Gt (BI rfl rfl (fun h=>h)) (Gn (.t2 7 74) ?_))
  refine Gc (fun c7=>?_) (fun c7=>?_)
  ·
   have c7p:=kz c7
   refine AJ (Gm rfl ?_)
   refine Gt (Ax rfl rfl (IntWalk.i64_in _ (by omega))) ?_
   refine Ga rfl (Gn (.t1 7) (Gs (Gm rfl (Ga rfl (Gn (.t1 6) (Ac ?_))))))
   refine AZ rfl (.tmp rfl .n) ?_
   intro w1 hS;refine⟨?_,hS.Al⟩;rw [show X.Dz b e=_ from((AX c1).trans ((AX c2).trans ((AX c4).trans ((BF c5).trans ((AX c6).trans (BF c7))))))];rfl
  refine Aa ?_
  refine AB (.t1 7) ?_
  refine AA (Gs (Gm rfl (Ga rfl (Gn (.t1 6) (Ac ?_)))))
  refine AZ rfl (.tmp rfl .n) ?_
  intro w1 hS;refine⟨?_,hS.Al⟩;rw [show X.Dz b e=_ from((AX c1).trans ((AX c2).trans ((AX c4).trans ((BF c5).trans ((AX c6).trans (AX c7))))))];rfl
 have c5p:=kz c5
 refine Aa ?_
 refine AB (.t4 1 3 5 7) ?_
 refine AA (CD (Gt (Aj G6 rfl) (Gt (AG rfl A5 .m0 Ing.Event.l3 rfl rfl) (Gt (CK rfl rfl) (Gm rfl (Bb 62 rfl rfl (fun q=>Aj G6 rfl) (Bb 62 rfl rfl (fun q=>AG (BX rfl q) A5 .m0 Ing.Event.l3 rfl rfl) ?_)))))))
 refine Bb 62 rfl rfl (fun q=>BA (BX rfl q) rfl) (Gt (BI rfl rfl (fun h=>h)) (Gm rfl (Bb 67 rfl rfl (fun q=>AY rfl Ba .m1 (AS.id AI.fl.len AI.fl.one) rfl) (Bb 67 rfl rfl (fun q=>AD rfl) (Bb 67 rfl rfl (fun q=>Aj G6 rfl) (Bb 67 rfl rfl (fun q=>AG (BX rfl q) A5 .m0 Ing.Event.l3 rfl rfl) ?_))))))
 refine K5 (t:=67) rfl rfl rfl (fun q=>Dl Oc (.c (BX rfl q) (.c (BX rfl q) (.c (BX rfl q) .n))) (fun w hS=>DV _ _ _ w)) ?_
 refine Bb 67 rfl rfl (fun q=>BR (BX rfl q)) (Gt (BI rfl rfl (fun h=>h)) (Gn (.t2 7 74) ?_))
 refine Gc (fun c8=>?_) (fun c8=>?_)
 ·
  have c8p:=kz c8
  refine AJ (Gm rfl ?_)
  refine Gt (Ax rfl rfl (IntWalk.i64_in _ (by omega))) ?_
  refine Ga rfl (Gn (.t1 7) (Gs (Gm rfl (Ga rfl (Gn (.t1 6) (Ac ?_))))))
  refine AZ rfl (.tmp rfl .n) ?_
  intro w1 hS;refine⟨?_,hS.Al⟩;rw [show X.Dz b e=_ from((AX c1).trans ((AX c2).trans ((AX c4).trans ((AX c5).trans (BF c8)))))];rfl
 refine Aa ?_
 refine AB (.t1 7) ?_
 refine AA (Gs (Gm rfl (Ga rfl (Gn (.t1 6) (Ac ?_)))))
 refine AZ rfl (.tmp rfl .n) ?_
 intro w1 hS;refine⟨?_,hS.Al⟩;rw [show X.Dz b e=_ from((AX c1).trans ((AX c2).trans ((AX c4).trans ((AX c5).trans (AX c8)))))];rfl
theorem KL (X:AI)(e:Ing.Event)(w:World):En Tryz.prog 123 #[.agg X.enc.toArray, .agg e.enc.toArray] w fun v w'=>v = .agg (X.H5 e 6).enc.toArray∧B9 w w':=by
 refine Am [] [] Tryz.func123 rfl rfl rfl (St.start w []) ?_
 refine Gs ?_
 refine B0 rfl rfl rfl (fun b1=>?_)
 refine B0 rfl rfl rfl (fun b2=>?_)
 refine BG rfl JA rfl (fun b3=>?_)
 refine Gn (.t3 2 3 4) (CD (Gm rfl (AQ (AA (Ag ?_)))))
 refine Bo (.t4 6 2 3 4) ?_
 refine Bc (.t .h) ?_
 refine CT (fun(k:Int)=>0≤k∧k≤6) (fun(k:Int)=>(6 - k).toNat) (fun(k:Int)=> [(6, .int .i64 k)]) (fun(k:Int)=> [Ad.box b2 56 (Ing.Event.enc (X.H5 e k.toNat))]) (0) ?_ rfl rfl (fun k hI1=>?_)
 · exact⟨Int.le_refl _,by omega⟩
 obtain⟨hI11,hI12⟩:=hI1
 refine Gs (Gt (BA rfl rfl) (AQ (AA (Aq ?_))))
 refine Gc (fun c1=>?_) (fun c1=>?_)
 ·
  have c1p:=kz c1
  refine Aa ?_
  refine AB (.t4 2 3 4 6) ?_
  refine AA (Aq (Ag (Gs (Gm rfl (Ga rfl (Gn (.t5 2 3 4 5 6) (AJ ?_)))))))
  refine Gm rfl (Gt (AY rfl Ba .m2 (AS.id AI.fl.len AI.fl.one) rfl) (Gm rfl (Gt (AY rfl OB .m0 (AS.id Ing.Event.fl.len Ing.Event.fl.one) rfl) ?_)))
  refine BD rfl cQ (.c rfl (.c rfl (.c rfl .n))) (fun w hS=>KN _ _ _ w) ?_
  refine Gt (Aj NY rfl) ?_
  refine Gt (AN Rh rfl rfl (by omega) (by omega)) ?_
  refine AU (AK (Ing.Event.l10.comp (AS.ar (n:=6) B1 (by omega))) rfl rfl rfl DD rfl .h) ?_
  refine AQ (AB (.t4 2 3 4 6) ?_)
  refine AV (AA (AJ ?_))
  refine Gt (Ax rfl rfl (IntWalk.i64_in _ (by omega))) ?_
  refine Gm rfl ?_
  refine AQ (AB (.t4 2 3 4 6) ?_)
  refine Bz (k+1) ?_ ?_ (.t4 6 2 3 4) (by rw [AI.VI (by omega)];exact(.refl _))
  · exact⟨by omega,by omega⟩
  · omega
 have c1p:=kz c1
 obtain rfl:k=6:=by omega
 refine Be (AW (AW (Ai ?_)))
 refine AB (.t2 3 4) ?_
 refine AA (Gs (Gt (AY rfl OB .m0 (AS.id Ing.Event.fl.len Ing.Event.fl.one) rfl) ?_))
 refine AU (AK (AS.id Ing.Event.fl.len Ing.Event.fl.one) rfl rfl rfl PB rfl (.t .h)) ?_
 refine Gn (.t1 4) (Ac ?_)
 refine AZ rfl (.cell rfl .m1 (.inl ⟨(by rw [Ing.Event.fl.len];exact OB),rfl⟩) .n) ?_
 intro w1 hS;refine⟨?_,hS.Al⟩;rfl
theorem CU (b:Nat)(T:AF)(g:Hd)(e:Ing.Event)(hg:g.len=T.out.length)(hb:0≤T.b∧T.b < 6)(ho:e.other < 6)(hn:T.out.length≤100000):Jk Tryz.prog 96 #[.pointer (some ⟨b,0,none⟩), .agg e.enc.toArray] [Ad.box b 163 (Ae.enc ⟨T.w,T.b,g⟩),Ad.own g 56 16 (T.out.flatMap Ing.Event.enc)] (fun v B=>∃ g':Hd,v = .tuple #[]∧g'.len=(T.BP e).out.length∧B = [Ad.box b 163 (Ae.enc ⟨(T.BP e).w,(T.BP e).b,g'⟩),Ad.own g' 56 16 ((T.BP e).out.flatMap Ing.Event.enc)]):=by
 intro w hS0
 refine Am _ _ Tryz.func96 rfl rfl rfl (hS0) ?_
 refine Gs ?_
 refine B0 rfl rfl rfl (fun b1=>?_)
 refine Gn (.t2 0 3) (Aq ?_)
 refine BE (N:=12) [0,0,2,6,14,1,33,97,255,511,0,2047] mix (by kernel_rfl) rfl ?_
 refine Pf 0 rfl (AD rfl) (Pf 1 rfl (AD rfl) (Pf 2 rfl (BV rfl) (Pf 3 rfl (Aj CV rfl) (Pf 4 rfl (AG rfl A5 .m1 Ae.l1 rfl rfl) (Pf 5 rfl (BV rfl) (Pf 6 rfl (Aj BC rfl) (Pf 7 rfl (Aj Br rfl) ?_)))))))
 refine Pf 8 rfl (AN C8 rfl rfl (by(try dsimp only at *);omega) (by(try dsimp only at *);omega)) ?_
 refine Pf 9 rfl (AY rfl F2 .m1 ((Ae.l0.comp AI.l2).comp (AS.arr (n:=6) An.fl (by(try dsimp only at *);omega) (by(try dsimp only at *);omega))) rfl) ?_
 refine Af 10 rfl (by kernel_rfl) ?_
 refine BG rfl L5 rfl (fun b2=>?_)
 refine Bf rfl ⟨?_,?_⟩
 · exact(Po rfl (AY rfl F2 .m2 ((Ae.l0.comp AI.l2).comp (AS.arr (n:=6) An.fl (by(try dsimp only at *);omega) (by(try dsimp only at *);omega))) rfl) rfl rfl (Po rfl (AN C8 rfl rfl (by(try dsimp only at *);omega) (by(try dsimp only at *);omega)) rfl rfl (Po rfl (Aj Br rfl) rfl rfl (Po rfl (Aj BC rfl) rfl rfl (Po rfl (BV rfl) rfl rfl (Po rfl (AG rfl A5 .m2 Ae.l1 rfl rfl) rfl rfl (Po rfl (Aj CV rfl) rfl rfl (Po rfl (BV rfl) rfl rfl (Po rfl (AD rfl) rfl rfl (Po rfl (AD rfl) rfl rfl Ar))))))))))
 refine Af 11 rfl (by kernel_rfl) ?_
 refine AU (AK (AS.id An.fl.len An.fl.one) rfl rfl rfl Ko rfl .h) ?_
 refine BN rfl ⟨?_,?_⟩
 · exact(Pk (Pk (Pk (Pk (Pk (Pk (Pk (Pk (Pk (Pk Ar))))))))))
 refine A1 (by kernel_rfl) ?_
 refine AB (.t3 0 3 4) ?_
 refine AA (Aq ?_)
 refine BE (N:=14) [0,1,3,7,0,16,0,64,15,271,831,1855,4095,8191] mix (by kernel_rfl) rfl ?_
 refine Pf 0 rfl (AD rfl) (Pf 1 rfl (BV rfl) (Pf 2 rfl (Aj CV rfl) (Pf 3 rfl (AG rfl A5 .m2 Ae.l1 rfl rfl) (Pf 4 rfl (Aj LX rfl) (Pf 5 rfl (AG rfl CM .m0 An.l0 rfl rfl) (Pf 6 rfl (Aj C6 rfl) (Pf 7 rfl (AG rfl A5 .m0 An.l3 rfl rfl) ?_)))))))
 refine Pf 8 rfl (Aj Qz rfl) ?_
 refine Af 9 rfl (by kernel_rfl) ?_
 refine AU (AK Ing.Event.l2 rfl rfl rfl DD rfl (.t .h)) ?_
 refine BN rfl ⟨?_,?_⟩
 · exact(Pk (Po rfl (AG rfl A5 .m0 An.l3 rfl rfl) rfl rfl (Po rfl (Aj C6 rfl) rfl rfl (Po rfl (AG rfl CM .m0 An.l0 rfl rfl) rfl rfl (Po rfl (Aj LX rfl) rfl rfl (Pk (Pk (Pk (Pk Ar)))))))))
 refine Pf 10 rfl (Aj Wo rfl) ?_
 refine Af 11 rfl (by kernel_rfl) ?_
 refine AU (AK Ing.Event.l6 rfl rfl rfl Ez rfl (.t .h)) ?_
 refine BN rfl ⟨?_,?_⟩
 · exact(Pk (Pk (Po rfl (AG rfl A5 .m0 An.l3 rfl rfl) rfl rfl (Po rfl (Aj C6 rfl) rfl rfl (Pk (Pk (Pk (Pk (Pk (Pk Ar))))))))))
 refine Pf 12 rfl (Aj Xx rfl) ?_
 refine Af 13 rfl (by kernel_rfl) ?_
 refine AU (AK Ing.Event.l1 rfl rfl rfl DD rfl (.t .h)) ?_
 refine BN rfl ⟨?_,?_⟩
 · exact(Pk (Pk (Pk (Pk (Pk (Pk (Pk (Pk (Pk (Pk (Pk Ar)))))))))))
 refine A1 (by kernel_rfl) ?_
 refine AB (.t2 0 3) ?_
 refine AA (CD (Gt (Aj G6 rfl) (Gt (AG rfl A5 .m1 Ing.Event.l3 rfl rfl) (Gt (CK rfl rfl) (Gn (.t3 0 3 28) ?_)))))
 refine Gc (fun c1=>?_) (fun c1=>?_)
 ·
  have c1p:=kz c1
  refine BE (N:=11) [0,0,2,1,9,25,63,127,255,511,1023] mix (by kernel_rfl) rfl ?_
  refine Pf 0 rfl (AD rfl) (Pf 1 rfl (Aj G6 rfl) (Pf 2 rfl (AG rfl A5 .m1 Ing.Event.l3 rfl rfl) (Pf 3 rfl (BV rfl) (Pf 4 rfl (Aj BC rfl) (Pf 5 rfl (Aj Br rfl) ?_)))))
  refine Pf 6 rfl (AN C8 rfl rfl (by(try dsimp only at *);omega) (by(try dsimp only at *);omega)) ?_
  refine Pf 7 rfl (Aj LX rfl) ?_
  refine Pf 8 rfl (AG rfl CM .m2 (((Ae.l0.comp AI.l2).comp (AS.arr (n:=6) An.fl (by(try dsimp only at *);omega) (by(try dsimp only at *);omega))).comp An.l0) rfl rfl) ?_
  refine Pf 9 rfl (Aj XG rfl) ?_
  refine Af 10 rfl (by kernel_rfl) ?_
  refine AU (AK Ing.Event.l7 rfl rfl rfl Ez rfl (.t .h)) ?_
  refine BN rfl ⟨?_,?_⟩
  · exact(Pk (Pk (Pk (Pk (Pk (Pk (Pk (Pk (Pk (Pk Ar))))))))))
  refine A1 (by kernel_rfl) ?_
  refine AB (.t2 0 3) ?_
  refine AA ?_
  refine BE (N:=16) [0,0,2,6,14,0,32,96,224,0,992,2016,4094,8191,16383,32767] mix (by kernel_rfl) rfl ?_
  refine Pf 0 rfl (AD rfl) (Pf 1 rfl (AD rfl) (Pf 2 rfl (BV rfl) (Pf 3 rfl (Aj CO rfl) (Pf 4 rfl (AG rfl Dw .m2 Ae.l2 rfl rfl) (Pf 5 rfl (AD rfl) (Pf 6 rfl (BV rfl) (Pf 7 rfl (Aj BC rfl) ?_)))))))
  refine Pf 8 rfl (AY rfl Ba .m2 Ae.l0 rfl) (Pf 9 rfl (AY rfl OB .m1 (AS.id Ing.Event.fl.len Ing.Event.fl.one) rfl) ?_)
  refine Ab 10 rfl rfl (by kernel_rfl) (Ln (JX (Dl Zc (.c rfl (.c rfl .n)) (fun w hS=>KL _ _ w)))) ?_
  refine Af 11 rfl (by kernel_rfl) ?_
  refine F8 Ing.Event.enc Ing.Event.fl rfl Tryz.underlying53 PB JA rfl (by decide) (by decide) rfl rfl (fun b3=>?_)
  refine Bf rfl ⟨?_,?_⟩
  · exact(Pk (Pk (Pk (Pk (Pk (Pk (Po rfl (AG rfl Dw .m3 Ae.l2 rfl rfl) rfl rfl (Po rfl (Aj CO rfl) rfl rfl (Po rfl (BV rfl) rfl rfl (Po rfl (AD rfl) rfl rfl (Po rfl (AD rfl) rfl rfl Ar)))))))))))
  refine Af 12 rfl (by kernel_rfl) ?_
  refine Ch Ing.Event.fl rfl Tryz.underlying53 PB JA rfl X7 (by decide) (by decide) rfl rfl (fun w hS=>Src.D8 Tryz.underlying53 ((Kn.own .m0) w hS)) (by(try dsimp only);omega) (fun _=>(.t (.t (.t (.t .h))))) (fun h1 h1l h1z=>?_)
  refine Bf rfl ⟨?_,?_⟩
  · exact(Pk (Pk (Pk (Pk (Pk (Pk (Pk (Pk (Pk (Pk (Po rfl (AD rfl) rfl rfl Ar)))))))))))
  refine Pf 13 rfl (BV rfl) (Pf 14 rfl (Aj CO rfl) ?_)
  refine Af 15 rfl (by kernel_rfl) ?_
  refine AU (AK Ae.l2 rfl rfl rfl R8 rfl (.t (.t (.t .h)))) ?_
  refine BN rfl ⟨?_,?_⟩
  · exact(Pk (Pk (Pk (Pk (Pk (Pk (Pk (Pk (Pk (Pk (Pk (Pk (Pk Ar)))))))))))))
  refine A1 (by kernel_rfl) ?_
  refine Bn rfl .n ?_
  intro w1 hS
  have hS:=(hS.perm (Ay.perm (.c (.t (.t (.t .h))) (.c (.t (.t (.t .h))) .n)))).A4
  refine⟨_,⟨?gqTrue,rfl,?hlTrue,?hBTrue⟩,hS⟩
  case hBTrue=>rw [AF.BP,show T.Dx e=_ from BF c1];rfl
  case hlTrue=>simp only [AF.Cg];(try dsimp only at *);omega
 have c1p:=kz c1
 refine Aa ?_
 refine AB (.t2 0 3) ?_
 refine AA ?_
 refine BE (N:=16) [0,0,2,6,14,0,32,96,224,0,992,2016,4094,8191,16383,32767] mix (by kernel_rfl) rfl ?_
 refine Pf 0 rfl (AD rfl) (Pf 1 rfl (AD rfl) (Pf 2 rfl (BV rfl) (Pf 3 rfl (Aj CO rfl) (Pf 4 rfl (AG rfl Dw .m2 Ae.l2 rfl rfl) (Pf 5 rfl (AD rfl) (Pf 6 rfl (BV rfl) (Pf 7 rfl (Aj BC rfl) ?_)))))))
 refine Pf 8 rfl (AY rfl Ba .m2 Ae.l0 rfl) (Pf 9 rfl (AY rfl OB .m1 (AS.id Ing.Event.fl.len Ing.Event.fl.one) rfl) ?_)
 refine Ab 10 rfl rfl (by kernel_rfl) (Ln (JX (Dl Zc (.c rfl (.c rfl .n)) (fun w hS=>KL _ _ w)))) ?_
 refine Af 11 rfl (by kernel_rfl) ?_
 refine F8 Ing.Event.enc Ing.Event.fl rfl Tryz.underlying53 PB JA rfl (by decide) (by decide) rfl rfl (fun b4=>?_)
 refine Bf rfl ⟨?_,?_⟩
 · exact(Pk (Pk (Pk (Pk (Pk (Pk (Po rfl (AG rfl Dw .m3 Ae.l2 rfl rfl) rfl rfl (Po rfl (Aj CO rfl) rfl rfl (Po rfl (BV rfl) rfl rfl (Po rfl (AD rfl) rfl rfl (Po rfl (AD rfl) rfl rfl Ar)))))))))))
 refine Af 12 rfl (by kernel_rfl) ?_
 refine Ch Ing.Event.fl rfl Tryz.underlying53 PB JA rfl X7 (by decide) (by decide) rfl rfl (fun w hS=>Src.D8 Tryz.underlying53 ((Kn.own .m0) w hS)) (by(try dsimp only);omega) (fun _=>(.t (.t (.t (.t .h))))) (fun h2 h2l h2z=>?_)
 refine Bf rfl ⟨?_,?_⟩
 · exact(Pk (Pk (Pk (Pk (Pk (Pk (Pk (Pk (Pk (Pk (Po rfl (AD rfl) rfl rfl Ar)))))))))))
 refine Pf 13 rfl (BV rfl) (Pf 14 rfl (Aj CO rfl) ?_)
 refine Af 15 rfl (by kernel_rfl) ?_
 refine AU (AK Ae.l2 rfl rfl rfl R8 rfl (.t (.t (.t .h)))) ?_
 refine BN rfl ⟨?_,?_⟩
 · exact(Pk (Pk (Pk (Pk (Pk (Pk (Pk (Pk (Pk (Pk (Pk (Pk (Pk Ar)))))))))))))
 refine A1 (by kernel_rfl) ?_
 refine Bn rfl .n ?_
 intro w1 hS
 have hS:=(hS.perm (Ay.perm (.c (.t (.t (.t .h))) (.c (.t (.t (.t .h))) .n)))).A4
 refine⟨_,⟨?gqFalse,rfl,?hlFalse,?hBFalse⟩,hS⟩
 case hBFalse=>rw [AF.BP,show T.Dx e=_ from AX c1];rfl
 case hlFalse=>simp only [AF.Cg];(try dsimp only at *);omega
theorem Ge (b:Nat)(T:AF)(g:Hd)(k:Int)(hg:g.len=T.out.length)(hb:0≤T.b∧T.b < 6)(hn:T.out.length≤100000):Jk Tryz.prog 124 #[.pointer (some ⟨b,0,none⟩), .int .i64 k] [Ad.box b 163 (Ae.enc ⟨T.w,T.b,g⟩),Ad.own g 56 16 (T.out.flatMap Ing.Event.enc)] (fun v B=>∃ g':Hd,v = .tuple #[]∧g'.len=(T.kind k).out.length∧B = [Ad.box b 163 (Ae.enc ⟨(T.kind k).w,(T.kind k).b,g'⟩),Ad.own g' 56 16 ((T.kind k).out.flatMap Ing.Event.enc)]):=by
 intro w hS0
 refine Am _ _ Tryz.func124 rfl rfl rfl (hS0) ?_
 refine AJ (Gm rfl (Gm rfl (Gt (BH N9 JA rfl (.cons Ing.Event.l0 rfl rfl rfl (.cons Ing.Event.l3 rfl rfl rfl .nil))) ?_)))
 refine Ah rfl O4 (.c rfl (.c rfl .n)) (.c .h (.c .h .n)) (CU _ _ _ (AF.Fw k) hg hb (show(-1:Int) < 6 by decide) hn) (fun v1 B hv=>?_)
 obtain⟨y2,rfl,y3,rfl⟩:=hv
 refine AQ ?_
 refine Bn rfl .n ?_
 intro w1 hS
 have hS:=(hS.perm (Ay.perm (.c .h (.c .h .n)))).A4
 exact⟨_,⟨_,rfl,by assumption,rfl⟩,hS⟩
theorem Bh (b:Nat)(T:AF)(g:Hd)(u:Au)(hg:g.len=T.out.length)(hb:0≤T.b∧T.b < 6)(hn:T.out.length≤100000):Jk Tryz.prog 127 #[.pointer (some ⟨b,0,none⟩),BT u] [Ad.box b 163 (Ae.enc ⟨T.w,T.b,g⟩),Ad.own g 56 16 (T.out.flatMap Ing.Event.enc)] (fun v B=>∃ g':Hd,v = .tuple #[]∧g'.len=(T.tell u).out.length∧B = [Ad.box b 163 (Ae.enc ⟨(T.tell u).w,(T.tell u).b,g'⟩),Ad.own g' 56 16 ((T.tell u).out.flatMap Ing.Event.enc)]):=by
 intro w hS0
 refine Am _ _ Tryz.func127 rfl rfl rfl (hS0) ?_
 refine AJ (Gm rfl (Gm rfl (Gt (BH N9 JA rfl (.cons Ing.Event.l0 rfl rfl rfl (.cons Ing.Event.l3 rfl rfl rfl (.cons Ing.Event.l9 rfl rfl rfl .nil)))) ?_)))
 refine Ah rfl O4 (.c rfl (.c rfl .n)) (.c .h (.c .h .n)) (CU _ _ _ { AF.Fw 16 with text:=u } hg hb (show(-1:Int) < 6 by decide) hn) (fun v1 B hv=>?_)
 obtain⟨y2,rfl,y3,rfl⟩:=hv
 refine AQ ?_
 refine Bn rfl .n ?_
 intro w1 hS
 have hS:=(hS.perm (Ay.perm (.c .h (.c .h .n)))).A4
 exact⟨_,⟨_,rfl,by assumption,rfl⟩,hS⟩
theorem IF (d:Int)(w:World)(gl0:GV 0 AI.DP w):En Tryz.prog 52 #[.int .i64 d] w fun v w'=>v=BT (AI.called d)∧B9 w w':=by
 refine Am [] [] Tryz.func52 rfl rfl rfl (St.start w []) ?_
 refine Gs (Ga rfl (Gn (.t1 0) (CD (Gm rfl (Gt (BA rfl rfl) (Gm rfl (Bg 5 rfl rfl (fun q=>AD rfl) ?_)))))))
 refine Bg 5 rfl rfl (fun q=>CK (cF rfl q) rfl) ?_
 refine Gt (BU rfl rfl (fun h=>by rw [h];rfl)) ?_
 refine Gn (.t2 0 8) ?_
 refine Gc (fun c1=>?_) (fun c1=>?_)
 ·
  refine Gs (Ga rfl (Gn (.t1 2) (Ac (AE ?_))))
  refine AZ rfl (.tmp rfl .n) ?_
  intro w1 hS;refine⟨?_,hS.Al⟩;rw [show AI.called d=_ from BF c1];rfl
 have c1p:=kz c1
 have hr:0≤d∧d < 6:=by simp at c1;omega
 refine Aa ?_
 refine AB (.t1 0) ?_
 refine AA (Gs (Gm rfl ?_))
 refine Gt (AN Xo rfl rfl (by omega) (by omega)) ?_
 refine Gt (RN gl0 rfl CM (AI.O3 hr.1 hr.2)) (Ga rfl (Gn (.t1 2) (Ac ?_)))
 refine AZ rfl (.tmp rfl .n) ?_
 intro w1 hS;refine⟨?_,hS.Al⟩;rw [show AI.called d=_ from AX c1];rfl
theorem FK (X:AI)(Cb at_:Int):Jk Tryz.prog 102 #[.agg X.enc.toArray, .int .i64 Cb, .int .i64 at_] [] (fun v B=>∃ h':Hd,v=h'.val∧h'.len=(X.has Cb at_).length∧B = [Ad.own h' 3 1 ((X.has Cb at_).flatMap Az)]):=by
 intro w hS0
 refine Am _ _ Tryz.func102 rfl rfl rfl (hS0) ?_
 refine Gs ?_
 refine B0 rfl rfl rfl (fun b1=>?_)
 refine Ga rfl (Gn (.t3 1 2 3) (Gs (Ga rfl (AQ (AA (CD (Gt (Aj Cx rfl) ?_)))))))
 refine Gt (AY rfl X6 .m0 AI.l1 rfl) (Gm rfl (Gn (.t5 1 2 7 11 12) (Ag ?_)))
 refine Bo (.t5 7 12 1 2 11) ?_
 refine FF Az 3 1 ?_
 refine D2 (fun(k:Int) (xs:List Int) (g:Hd)=>0≤k∧k≤9∧xs=X.Pp Cb at_ k.toNat∧g.len=xs.length) (fun(k:Int) (xs:List Int) (g:Hd)=>(9 - k).toNat) (fun(k:Int) (xs:List Int) (g:Hd)=> [(7,g.val),(12, .int .i64 k)]) (fun(k:Int) (xs:List Int) (g:Hd)=> [Ad.own g 3 1 (xs.flatMap Az)]) (0) ([]) (_) ?_ rfl rfl (fun k xs g hI1=>?_)
 · exact⟨by omega,by omega,rfl,rfl⟩
 obtain⟨hI11,hI12,hI13,hI14⟩:=hI1
 refine Gs (Gt (BA rfl rfl) (AQ (AA (Aq ?_))))
 refine Gc (fun c1=>?_) (fun c1=>?_)
 ·
  have c1p:=kz c1
  have hxl:=AI.Sf X Cb at_ k.toNat
  rw [← hI13] at hxl
  refine Aa ?_
  refine AB (.t5 1 2 7 11 12) ?_
  refine AA (Aq (Ag (Gs (Gm rfl ?_))))
  refine Gt (GM Ao.fl Tryz.underlying30 Mv rfl rfl (by omega) (by omega)) ?_
  refine BG rfl Kl rfl (fun b2=>?_)
  refine Ga rfl ?_
  refine AU (AK (AS.id Ao.fl.len Ao.fl.one) rfl rfl rfl NP rfl .h) ?_
  refine Gn (.t7 1 2 7 8 9 11 12) (Gs (Gt (Aj Fe rfl) (Gt (AG rfl A5 .m0 Ao.l2 rfl rfl) (Gm rfl (Gt (Ak rfl rfl) (Gm rfl (Bb 20 rfl rfl (fun q=>Aj DN rfl) ?_)))))))
  refine Bb 20 rfl rfl (fun q=>AG (BX rfl q) A5 .m0 Ao.l3 rfl rfl) (Bb 20 rfl rfl (fun q=>AD rfl) (Bb 20 rfl rfl (fun q=>Ak (BX rfl q) (BX rfl q)) (Gt (BI rfl rfl (fun h=>h)) (Gn (.t7 1 2 7 8 11 12 25) ?_))))
  refine Gc (fun c2=>?_) (fun c2=>?_)
  ·
   have c2p:=kz c2
   refine AJ (Gm rfl (Gm rfl ?_))
   refine F8 Az B1 rfl Tryz.underlying169 DD ao rfl (by decide) (by decide) rfl rfl (fun b3=>?_)
   refine Ch B1 rfl Tryz.underlying169 DD ao rfl dE (by decide) (by decide) rfl rfl (fun w hS=>Src.D8 Tryz.underlying169 ((Kn.own .m0) w hS)) (by(try dsimp only);omega) (fun _=>(.t (.t .h))) (fun h1 h1l h1z=>?_)
   refine Ga rfl ?_
   refine AQ (AB (.t5 1 2 7 11 12) ?_)
   refine AV (AA (AJ ?_))
   refine Gt (Ax rfl rfl (IntWalk.i64_in _ (by omega))) ?_
   refine Gm rfl ?_
   refine AQ (AB (.t5 1 2 7 11 12) ?_)
   refine B3 (k+1) _ _ ?_ ?_ (.t5 7 12 1 2 11) (.cons _ (.cons _ (.refl _)))
   · exact⟨by omega,by omega,by rw [AI.Zs hI11 c2,← hI13],(by(try dsimp only at *)<;>(try simp only [List.length_append,List.length_cons,List.length_nil])<;>omega)⟩
   · omega
  have c2p:=kz c2
  refine Aa ?_
  refine AB (.t5 1 2 7 11 12) ?_
  refine AV (AA (AJ ?_))
  refine Gt (Ax rfl rfl (IntWalk.i64_in _ (by omega))) ?_
  refine Gm rfl ?_
  refine AQ (AB (.t5 1 2 7 11 12) ?_)
  refine B3 (k+1) _ _ ?_ ?_ (.t5 7 12 1 2 11) (.cons _ (.refl _))
  · exact⟨by omega,by omega,by rw [AI.Zy hI11 c2,← hI13],(by(try dsimp only at *)<;>(try simp only [List.length_append,List.length_cons,List.length_nil])<;>omega)⟩
  · omega
 have c1p:=kz c1
 obtain rfl:k=9:=by omega
 refine Be (AW (AW (Ai ?_)))
 refine AB (.t1 7) ?_
 refine AA (Gs (Gm rfl (Ga rfl (Gn (.t1 6) (Ac ?_)))))
 refine AZ rfl (.tmp rfl .n) ?_
 intro w1 hS
 have hS:=(hS.perm (Ay.perm (.c .h .n))).A4
 exact⟨_,⟨_,rfl,by rw [AI.Td,← hI13];assumption,by rw [AI.Td,← hI13]⟩,hS⟩
theorem Lr (b:Nat)(T:AF)(g:Hd)(u:Au)(f:Hd)(l:List Int)(hg:g.len=T.out.length)(hb:0≤T.b∧T.b < 6)(hf:f.len=l.length)(hl:l.length≤9)(hi:∀ i∈l,0≤i∧i < 9)(hw:T.w.DL)(hu:u.length≤1000)(hn:T.out.length≤100000):Jk Tryz.prog 101 #[.pointer (some ⟨b,0,none⟩),BT u,f.val] [Ad.box b 163 (Ae.enc ⟨T.w,T.b,g⟩),Ad.own g 56 16 (T.out.flatMap Ing.Event.enc),Ad.own f 3 1 (l.flatMap Az)] (fun v B=>∃ g':Hd,v = .tuple #[]∧g'.len=(T.list u l).out.length∧B = [Ad.box b 163 (Ae.enc ⟨(T.list u l).w,(T.list u l).b,g'⟩),Ad.own g' 56 16 ((T.list u l).out.flatMap Ing.Event.enc),Ad.own f 3 1 (l.flatMap Az)]):=by
 intro w hS0
 refine Am _ _ Tryz.func101 rfl rfl rfl (hS0) ?_
 refine CD (Gm rfl (Gt (Av rfl Tryz.underlying169 rfl) (Gm rfl (AQ (AA (Ag ?_))))))
 refine Bo (.t6 1 10 0 2 8 9) ?_
 refine HY (fun(k:Int) (x:Au)=>0≤k∧k≤(l.length:Int)∧AF.IG T.w u l=AF.IG T.w x (l.drop k.toNat)∧x.length≤1000+k.toNat * 140737488351300) (fun(k:Int) (x:Au)=>((l.length:Int) - k).toNat) (fun(k:Int) (x:Au)=> [(1,BT x),(10, .int .i64 k)]) (fun(k:Int) (x:Au)=> []) (0) (u) ?_ rfl rfl (fun k x hI1=>?_)
 · exact⟨by omega,by omega,by simp,by simp;omega⟩
 obtain⟨hI11,hI12,hI13,hI14⟩:=hI1
 refine Gs (Gt (BA rfl rfl) (AQ (AA (Aq ?_))))
 refine Gc (fun c1=>?_) (fun c1=>?_)
 ·
  have c1p:=kz c1
  have hx:=hi _ (Bi.E3 (xs:=l) (i:=k.toNat) (by omega))
  have hnl:=hw.th (l.getD k.toNat 0)
  refine Aa ?_
  refine AB (.t6 0 1 2 8 9 10) ?_
  refine AA (Aq (Ag (Gs ?_)))
  refine Gt (Bs G2 (by decide) (Kn.own .m2) rfl rfl (by omega) (by omega)) ?_
  refine Gt (DI rfl A5 (Kn.own .m2) (by omega)) ?_
  refine Ga rfl (Gn (.t7 0 1 2 7 8 9 10) (Gs (Gm rfl (Gm rfl (Gm rfl (Gt (BV rfl) (Gt (Aj BC rfl) ?_)))))))
  refine Gt (Aj Cx rfl) ?_
  refine Gt (AN GW rfl rfl (by(try dsimp only at *);(try simp only [List.length_append,List.length_cons,List.length_nil]);omega) (by(try dsimp only at *);(try simp only [List.length_append,List.length_cons,List.length_nil]);omega)) ?_
  refine Gt (Aj Mn rfl) ?_
  refine Gt (AG rfl CM .m0 (((Ae.l0.comp AI.l1).comp (AS.arr (n:=9) Ao.fl (by(try dsimp only at *);(try simp only [List.length_append,List.length_cons,List.length_nil]);omega) (by(try dsimp only at *);(try simp only [List.length_append,List.length_cons,List.length_nil]);omega))).comp Ao.l0) rfl rfl) ?_
  refine Gt (CZ rfl rfl (by(try dsimp only at *);(try simp only [List.length_append,List.length_cons,List.length_nil]);omega)) ?_
  refine Gt (CZ rfl rfl (by(try dsimp only at *);(try simp only [List.length_append,List.length_cons,List.length_nil]);omega)) ?_
  refine Ga rfl (Gn (.t7 0 1 2 7 8 9 10) (Gs (Gm rfl (Gm rfl (Gt (BV rfl) (Gt (Aj BC rfl) (Gt (Aj Cx rfl) ?_)))))))
  refine Gt (AN GW rfl rfl (by(try dsimp only at *);(try simp only [List.length_append,List.length_cons,List.length_nil]);omega) (by(try dsimp only at *);(try simp only [List.length_append,List.length_cons,List.length_nil]);omega)) ?_
  refine Gt (Aj GP rfl) ?_
  refine Gt (AG rfl DO .m0 (((Ae.l0.comp AI.l1).comp (AS.arr (n:=9) Ao.fl (by(try dsimp only at *);(try simp only [List.length_append,List.length_cons,List.length_nil]);omega) (by(try dsimp only at *);(try simp only [List.length_append,List.length_cons,List.length_nil]);omega))).comp Ao.l4) rfl rfl) ?_
  refine Gn (.t7 0 1 2 8 9 10 32) ?_
  refine Gc (fun c2=>?_) (fun c2=>?_)
  ·
   have c2p:=kz c2
   refine AJ (Gm rfl ?_)
   refine Gt (CZ rfl rfl (by(try dsimp only at *);(try simp only [List.length_append,List.length_cons,List.length_nil]);omega)) ?_
   refine Ga rfl ?_
   refine AQ (AB (.t6 0 1 2 8 9 10) ?_)
   refine AV (AA (AJ ?_))
   refine Gt (Ax rfl rfl (IntWalk.i64_in _ (by(try dsimp only at *);(try simp only [List.length_append,List.length_cons,List.length_nil]);omega))) ?_
   refine Gm rfl ?_
   refine AQ (AB (.t6 0 1 2 8 9 10) ?_)
   refine Ds (k+1) _ ?_ ?_ (.t6 1 10 0 2 8 9) (.refl _)
   · exact⟨by omega,by omega,by rw [hI13,AF.YY hI11 (by omega) c2],by simp only [List.length_append,List.length_cons,List.length_nil];omega⟩
   · omega
  have c2p:=kz c2
  refine Aa ?_
  refine AB (.t6 0 1 2 8 9 10) ?_
  refine AV (AA (AJ ?_))
  refine Gt (Ax rfl rfl (IntWalk.i64_in _ (by(try dsimp only at *);(try simp only [List.length_append,List.length_cons,List.length_nil]);omega))) ?_
  refine Gm rfl ?_
  refine AQ (AB (.t6 0 1 2 8 9 10) ?_)
  refine Ds (k+1) _ ?_ ?_ (.t6 1 10 0 2 8 9) (.refl _)
  · exact⟨by omega,by omega,by rw [hI13,AF.Yj hI11 (by omega) c2],by simp only [List.length_append,List.length_cons,List.length_nil];omega⟩
  · omega
 have c1p:=kz c1
 obtain rfl:k=(l.length:Int):=by omega
 rw [show(l.length:Int).toNat=l.length by omega,List.drop_length] at hI13
 refine Be (AW (AW (Ai ?_)))
 refine AB (.t3 0 1 2) ?_
 refine AA (CD (Gm rfl (Gt (Av rfl Tryz.underlying169 rfl) (Gt (Ak rfl rfl) (Gn (.t3 0 1 38) ?_)))))
 refine Gc (fun c3=>?_) (fun c3=>?_)
 ·
  have c3p:=kz c3
  rw [hf] at c3
  refine AJ (Gm rfl ?_)
  refine Gt (CZ rfl rfl (by(try dsimp only at *);(try simp only [List.length_append,List.length_cons,List.length_nil]);omega)) ?_
  refine Ga rfl (Gn (.t2 0 1) (AJ (Gm rfl (Gm rfl ?_))))
  refine Gt (CZ rfl rfl (by(try dsimp only at *);(try simp only [List.length_append,List.length_cons,List.length_nil]);omega)) ?_
  refine Ah rfl EJ (.c rfl (.c rfl .n)) (.c .h (.c .h .n)) (Bh _ _ _ _ hg hb hn) (fun v1 B hv=>?_)
  obtain⟨y2,rfl,y3,rfl⟩:=hv
  refine AQ ?_
  refine Bn rfl .n ?_
  intro w1 hS
  have hS:=(hS.perm (Ay.perm (.c .h (.c .h (.c .h .n))))).A4
  refine⟨_,⟨?gqTrue,rfl,?hlTrue,?hBTrue⟩,hS⟩
  case hBTrue=>rw [AF.list,show AF.SW T.w u l=_ from BF c3,hI13];rfl
  case hlTrue=>(try simp only [AF.CI] at *);rw [(AF.Hn T u l).2.2];assumption
 have c3p:=kz c3
 rw [hf] at c3
 refine Aa ?_
 refine AB (.t2 0 1) ?_
 refine AA (AJ (Gm rfl (Gm rfl ?_)))
 refine Gt (CZ rfl rfl (by(try dsimp only at *);(try simp only [List.length_append,List.length_cons,List.length_nil]);omega)) ?_
 refine Ah rfl EJ (.c rfl (.c rfl .n)) (.c .h (.c .h .n)) (Bh _ _ _ _ hg hb hn) (fun v4 B hv=>?_)
 obtain⟨y5,rfl,y6,rfl⟩:=hv
 refine AQ ?_
 refine Bn rfl .n ?_
 intro w1 hS
 have hS:=(hS.perm (Ay.perm (.c .h (.c .h (.c .h .n))))).A4
 refine⟨_,⟨?gqFalse,rfl,?hlFalse,?hBFalse⟩,hS⟩
 case hBFalse=>rw [AF.list,show AF.SW T.w u l=_ from AX c3,hI13];rfl
 case hlFalse=>(try simp only [AF.CI] at *);rw [(AF.Hn T u l).2.2];assumption
end Go.Proofs.YtoidpggbbfncpaaGreatDoor
