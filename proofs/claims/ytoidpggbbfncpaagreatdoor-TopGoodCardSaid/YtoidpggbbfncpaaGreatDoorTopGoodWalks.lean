/- What the functions that the law TopGood reaches compute: walks, part 1. No condition. -/
import Derived.Test.YtoidpggbbfncpaaGreatDoorCards
import Derived.Test.YtoidpggbbfncpaaGreatDoorTie
import Derived.Deep.DeepHandedRow
import Derived.Test.YtoidpggbbfncpaaGreatDoorRows
import Derived.Test.YtoidpggbbfncpaaGreatDoorTopGoodEc3
import Derived.Test.YtoidpggbbfncpaaGreatDoorTopGoodRa1
import Derived.Test.YtoidpggbbfncpaaGreatDoorTopGoodRb1
import Derived.Test.YtoidpggbbfncpaaGreatDoorTopGoodRc1
set_option linter.unusedSimpArgs false
set_option linter.unusedVariables false
set_option maxRecDepth 100000
set_option maxHeartbeats 1000000
namespace Go.Proofs.YtoidpggbbfncpaaGreatDoor
open Go Go.Ing Go.RowKit Go.ChangeShapes Go.WideShapes Go.ChangeAt
theorem L6:ZV Tryz.prog 35 (.agg (AH.enc (default:AH)).toArray):=E8 (by kernel_rfl)
theorem D3:Sz Tryz.prog 35 165:=Dr (by kernel_rfl)
theorem D8:FA Tryz.prog 101 0 0:=Bu Tryz.underlying101 rfl D3
theorem BW:O4 Tryz.prog 35 165:=E2 Tryz.underlying35 rfl D3
theorem cD:Sz Tryz.prog 30 45:=Dr (by kernel_rfl)
theorem Cw:FA Tryz.prog 35 1 84:=Bu Tryz.underlying35 rfl cD
theorem My:Sz Tryz.prog 29 5:=Dr (by kernel_rfl)
theorem F9:IA Tryz.prog 30 9 5:=Mr Tryz.underlying30 My
theorem Mp:O4 Tryz.prog 29 5:=E2 Tryz.underlying29 rfl My
theorem KW:ZV Tryz.prog 29 (.agg (Al.enc (default:Al)).toArray):=E8 (by kernel_rfl)
theorem DB:Sz Tryz.prog 3 1:=Dr (by kernel_rfl)
theorem Gz:FA Tryz.prog 29 1 1:=Bu Tryz.underlying29 rfl DB
theorem A5:Ql Tryz.prog 3:=I7 Tryz.underlying3 rfl
theorem J8:Sz Tryz.prog 4 1:=Dr (by kernel_rfl)
theorem GI:FA Tryz.prog 29 4 4:=Bu Tryz.underlying29 rfl J8
theorem DN:Ql Tryz.prog 4:=I7 Tryz.underlying4 rfl
theorem DF:FA Tryz.prog 29 3 3:=Bu Tryz.underlying29 rfl DB
theorem FP:FA Tryz.prog 29 2 2:=Bu Tryz.underlying29 rfl DB
theorem bh:Sz Tryz.prog 33 36:=Dr (by kernel_rfl)
theorem Bi:FA Tryz.prog 35 2 129:=Bu Tryz.underlying35 rfl bh
theorem KX:Sz Tryz.prog 32 6:=Dr (by kernel_rfl)
theorem Cs:IA Tryz.prog 33 6 6:=Mr Tryz.underlying33 KX
theorem F8:FA Tryz.prog 32 1 1:=Bu Tryz.underlying32 rfl J8
theorem cM:Sz Tryz.prog 27 84:=Dr (by kernel_rfl)
theorem G2:FA Tryz.prog 35 0 0:=Bu Tryz.underlying35 rfl cM
theorem bx:O4 Tryz.prog 27 84:=E2 Tryz.underlying27 rfl cM
theorem Q1:Sz Tryz.prog 26 14:=Dr (by kernel_rfl)
theorem Nu:O4 Tryz.prog 26 14:=E2 Tryz.underlying26 rfl Q1
theorem Ns:ZV Tryz.prog 26 (.agg (Room.enc (default:Room)).toArray):=E8 (by kernel_rfl)
theorem WR:Sz Tryz.prog 23 6:=Dr (by kernel_rfl)
theorem MQ:FA Tryz.prog 26 2 2:=Bu Tryz.underlying26 rfl WR
theorem Y6:O4 Tryz.prog 23 6:=E2 Tryz.underlying23 rfl WR
theorem aA:Sz Tryz.prog 24 6:=Dr (by kernel_rfl)
theorem MJ:FA Tryz.prog 26 3 8:=Bu Tryz.underlying26 rfl aA
theorem QT:IA Tryz.prog 24 6 1:=Mr Tryz.underlying24 J8
theorem Y0:O4 Tryz.prog 33 36:=E2 Tryz.underlying33 rfl bh
theorem Fl:O4 Tryz.prog 32 6:=E2 Tryz.underlying32 rfl KX
theorem Lx:ZV Tryz.prog 32 (.agg (Ag.enc (default:Ag)).toArray):=E8 (by kernel_rfl)
theorem C2:FA Tryz.prog 32 3 3:=Bu Tryz.underlying32 rfl DB
theorem Jg:FA Tryz.prog 32 4 4:=Bu Tryz.underlying32 rfl DB
theorem GD:FA Tryz.prog 32 5 5:=Bu Tryz.underlying32 rfl DB
theorem dS:CF Tryz.prog 68:=Tryz.call68
theorem Tl:ZV Tryz.prog 65 (.agg (As.enc ⟨⟨none,0,0⟩,0,false,[],false⟩).toArray):=E8 (by kernel_rfl)
theorem aw:Sz Tryz.prog 99 88:=Dr (by kernel_rfl)
theorem Ft:FA Tryz.prog 101 1 165:=Bu Tryz.underlying101 rfl aw
theorem TM:Sz Tryz.prog 98 22:=Dr (by kernel_rfl)
theorem NX:IA Tryz.prog 99 4 22:=Mr Tryz.underlying99 TM
theorem FO:Sz Tryz.prog 65 5:=Dr (by kernel_rfl)
theorem Dn:FA Tryz.prog 98 4 16:=Bu Tryz.underlying98 rfl FO
theorem Cr:O4 Tryz.prog 65 5:=E2 Tryz.underlying65 rfl FO
theorem MO:Sz Tryz.prog 52 1:=Dr (by kernel_rfl)
theorem H8:FA Tryz.prog 65 0 0:=Bu Tryz.underlying65 rfl MO
theorem FW:Ql Tryz.prog 52:=I7 Tryz.underlying52 rfl
theorem Em:Sz Tryz.prog 9 1:=Dr (by kernel_rfl)
theorem RX:ZV Tryz.prog 9 (BU []):=E8 (by kernel_rfl)
theorem Ws:BY Tryz.prog 9 16:=UP (by kernel_rfl)
theorem Js:FA Tryz.prog 65 3 3:=Bu Tryz.underlying65 rfl Em
theorem CP:Ql Tryz.prog 9:=I7 Tryz.underlying9 rfl
theorem ML:FA Tryz.prog 65 1 1:=Bu Tryz.underlying65 rfl DB
theorem YY:ZV Tryz.prog 75 (.agg (BG.enc ⟨[],false,false,⟨none,0,0⟩⟩).toArray):=E8 (by kernel_rfl)
theorem MS:Sz Tryz.prog 75 4:=Dr (by kernel_rfl)
theorem Ku:FA Tryz.prog 98 3 12:=Bu Tryz.underlying98 rfl MS
theorem Hu:O4 Tryz.prog 75 4:=E2 Tryz.underlying75 rfl MS
theorem FN:FA Tryz.prog 75 3 3:=Bu Tryz.underlying75 rfl MO
theorem JZ:FA Tryz.prog 75 0 0:=Bu Tryz.underlying75 rfl Em
theorem NZ:FA Tryz.prog 75 1 1:=Bu Tryz.underlying75 rfl J8
theorem NU:FA Tryz.prog 75 2 2:=Bu Tryz.underlying75 rfl J8
theorem mix:Tryz.prog.follows .mixedOrders=true:=by kernel_rfl
theorem Ut:CF Tryz.prog 69:=Tryz.call69
theorem JU:IS Tryz.prog 52 1:=PB Tryz.underlying52 Em
theorem Zs:CF Tryz.prog 70:=Tryz.call70
theorem JK:FA Tryz.prog 98 0 0:=Bu Tryz.underlying98 rfl DB
theorem IC:FA Tryz.prog 98 1 1:=Bu Tryz.underlying98 rfl DB
theorem ca:CF Tryz.prog 18:=Tryz.call18
theorem Yc:CF Tryz.prog 43:=Tryz.call43
theorem YN:ZV Tryz.prog 24 (.agg (CH (n:=6) CX (Vector.replicate 6 default)).toArray):=E8 (by kernel_rfl)
theorem ay:CF Tryz.prog 28:=Tryz.call28
theorem Yw:CF Tryz.prog 44:=Tryz.call44
theorem dN:CF Tryz.prog 32:=Tryz.call32
theorem ah:CF Tryz.prog 45:=Tryz.call45
theorem bc:CF Tryz.prog 21:=Tryz.call21
theorem IB:FA Tryz.prog 32 0 0:=Bu Tryz.underlying32 rfl Em
theorem bU:CF Tryz.prog 46:=Tryz.call46
theorem Vz:ZV Tryz.prog 23 (.agg (CH (n:=6) Ay (Vector.replicate 6 default)).toArray):=E8 (by kernel_rfl)
theorem Vl:HV Tryz.prog 26 [(0,1),(1,1),(2,6),(8,6)]:=⟨_,Tryz.underlying26,fun w=>by simp [Em w,J8 w,WR w,aA w]⟩
theorem dU:IS Tryz.prog 95 14:=PB Tryz.underlying95 Q1
theorem OO:IA Tryz.prog 27 6 14:=Mr Tryz.underlying27 Q1
theorem Qn:HV Tryz.prog 29 [(0,1),(1,1),(2,1),(3,1),(4,1)]:=⟨_,Tryz.underlying29,fun w=>by simp [Em w,DB w,J8 w]⟩
theorem dM:IS Tryz.prog 96 5:=PB Tryz.underlying96 My
theorem Wc:HV Tryz.prog 32 [(0,1),(1,1),(2,1),(3,1),(4,1),(5,1)]:=⟨_,Tryz.underlying32,fun w=>by simp [Em w,J8 w,DB w]⟩
theorem dP:CF Tryz.prog 15:=Tryz.call15
theorem SX:Sz Tryz.prog 53 1:=Dr (by kernel_rfl)
theorem an:HV Tryz.prog 101 [(0,165),(165,88),(253,1),(254,1)]:=⟨_,Tryz.underlying101,fun w=>by simp [D3 w,aw w,DB w,SX w]⟩
theorem bV:ZV Tryz.prog 101 (.agg (AL.enc (default:AL)).toArray):=E8 (by kernel_rfl)
theorem Q0:FA Tryz.prog 65 2 2:=Bu Tryz.underlying65 rfl J8
theorem ae:CF Tryz.prog 116:=Tryz.call116
theorem ZP:CF Tryz.prog 115:=Tryz.call115
theorem Zp:FA Tryz.prog 26 1 1:=Bu Tryz.underlying26 rfl J8
theorem Wr:O4 Tryz.prog 30 45:=E2 Tryz.underlying30 rfl cD
theorem dB:CF Tryz.prog 19:=Tryz.call19
theorem W0:CF Tryz.prog 159:=Tryz.call159
theorem Uf:CF Tryz.prog 129:=Tryz.call129
theorem Wa:FA Tryz.prog 32 2 2:=Bu Tryz.underlying32 rfl J8
theorem Y9:CF Tryz.prog 160:=Tryz.call160
theorem Qg:FA Tryz.prog 56 2 2:=Bu Tryz.underlying56 rfl DB
theorem Gx:FA Tryz.prog 56 3 3:=Bu Tryz.underlying56 rfl DB
theorem OD:CF Tryz.prog 130:=Tryz.call130
theorem Si:FA Tryz.prog 56 0 0:=Bu Tryz.underlying56 rfl DB
theorem WL:FA Tryz.prog 56 1 1:=Bu Tryz.underlying56 rfl DB
theorem av:CF Tryz.prog 173:=Tryz.call173
theorem IU:ZV Tryz.prog 56 (.agg (Ing.Event.enc (default:Ing.Event)).toArray):=E8 (by kernel_rfl)
theorem Nl:Sz Tryz.prog 56 16:=Dr (by kernel_rfl)
theorem PA:O4 Tryz.prog 56 16:=E2 Tryz.underlying56 rfl Nl
theorem bK:CF Tryz.prog 157:=Tryz.call157
theorem NK:FA Tryz.prog 56 10 10:=Bu Tryz.underlying56 rfl WR
theorem R4:IA Tryz.prog 23 6 1:=Mr Tryz.underlying23 DB
theorem CR:FA Tryz.prog 163 1 165:=Bu Tryz.underlying163 rfl DB
theorem A9:FA Tryz.prog 163 0 0:=Bu Tryz.underlying163 rfl D3
theorem XI:FA Tryz.prog 56 6 6:=Bu Tryz.underlying56 rfl Em
theorem WB:FA Tryz.prog 56 7 7:=Bu Tryz.underlying56 rfl Em
theorem CK:FA Tryz.prog 163 2 166:=Bu Tryz.underlying163 rfl SX
theorem Dl:Ql Tryz.prog 53:=I7 Tryz.underlying53 rfl
theorem ZC:CF Tryz.prog 123:=Tryz.call123
theorem WD:BY Tryz.prog 56 160:=UP (by kernel_rfl)
theorem O9:HV Tryz.prog 56 [(0,1),(1,1),(2,1),(3,1),(4,1),(5,1),(6,1),(7,1),(8,1),(9,1),(10,6)]:=⟨_,Tryz.underlying56,fun w=>by simp [DB w,Em w,WR w]⟩
theorem Nx:CF Tryz.prog 96:=Tryz.call96
theorem WX:IA Tryz.prog 133 21 1:=Mr Tryz.underlying133 Em
theorem aN:ZV Tryz.prog 3 (.int .i64 0):=E8 (by kernel_rfl)
theorem cT:BY Tryz.prog 3 8:=UP (by kernel_rfl)
theorem GY:IS Tryz.prog 169 1:=PB Tryz.underlying169 DB
theorem Mb:FA Tryz.prog 29 0 0:=Bu Tryz.underlying29 rfl Em
theorem EC:CF Tryz.prog 127:=Tryz.call127
theorem ZX:FA Tryz.prog 26 0 0:=Bu Tryz.underlying26 rfl Em
theorem aX:CF Tryz.prog 52:=Tryz.call52
theorem SK:CF Tryz.prog 102:=Tryz.call102
theorem ZJ:CF Tryz.prog 101:=Tryz.call101
theorem UT:HV Tryz.prog 163 [(0,165),(165,1),(166,1)]:=⟨_,Tryz.underlying163,fun w=>by simp [D3 w,DB w,SX w]⟩
theorem Tz:ZV Tryz.prog 163 (.agg (Ad.enc (default:Ad)).toArray):=E8 (by kernel_rfl)
theorem Ty:CF Tryz.prog 124:=Tryz.call124
theorem Ub:CF Tryz.prog 100:=Tryz.call100
theorem ZG:Sz Tryz.prog 104 1:=Dr (by kernel_rfl)
theorem Q4:FA Tryz.prog 107 0 0:=Bu Tryz.underlying107 rfl ZG
theorem W5:Ql Tryz.prog 104:=I7 Tryz.underlying104 rfl
theorem TO:∃ i,Tryz.prog.info? 107=some i∧i.size≠0:=by
  have h:(Tryz.prog.info? 107).map (·.size)=some 2:=by kernel_rfl
  obtain⟨i,h1,h2⟩:=Option.map_eq_some_iff.1 h
  exact⟨i,h1,by omega⟩
theorem Z7:CF Tryz.prog 71:=Tryz.call71
theorem UY:Sz Tryz.prog 105 1:=Dr (by kernel_rfl)
theorem Eu:FA Tryz.prog 107 1 1:=Bu Tryz.underlying107 rfl UY
theorem IJ:Ql Tryz.prog 105:=I7 Tryz.underlying105 rfl
theorem Vt:Sz Tryz.prog 5 1:=Dr (by kernel_rfl)
theorem Z2:ZV Tryz.prog 5 (.int .u8 0):=E8 (by kernel_rfl)
theorem dZ:BY Tryz.prog 5 1:=UP (by kernel_rfl)
theorem eB:Tryz.prog.cellsOf 5=1:=by kernel_rfl
theorem cm:CF Tryz.prog 49:=Tryz.call49
theorem UQ:ZV Tryz.prog 107 (.agg (DX.enc ⟨none,⟨none,0,0⟩⟩).toArray):=E8 (by kernel_rfl)
theorem YU:CF Tryz.prog 50:=Tryz.call50
theorem PO:CF Tryz.prog 51:=Tryz.call51
theorem aL:FA Tryz.prog 56 8 8:=Bu Tryz.underlying56 rfl Em
theorem Z5:FA Tryz.prog 56 4 4:=Bu Tryz.underlying56 rfl DB
theorem ZZ:FA Tryz.prog 56 9 9:=Bu Tryz.underlying56 rfl Em
theorem Ze:FA Tryz.prog 56 5 5:=Bu Tryz.underlying56 rfl DB
theorem dk:CF Tryz.prog 53:=Tryz.call53
theorem YF:CF Tryz.prog 54:=Tryz.call54
theorem Kr:FA Tryz.prog 65 4 4:=Bu Tryz.underlying65 rfl J8
theorem cq:CF Tryz.prog 82:=Tryz.call82
theorem Qf:FA Tryz.prog 98 5 21:=Bu Tryz.underlying98 rfl MO
theorem Qq:FA Tryz.prog 101 3 254:=Bu Tryz.underlying101 rfl SX
theorem dD:IS Tryz.prog 53 16:=PB Tryz.underlying53 Nl
theorem cu:CF Tryz.prog 23:=Tryz.call23
theorem Sl:CF Tryz.prog 64:=Tryz.call64
theorem cP:CF Tryz.prog 114:=Tryz.call114
theorem VY:CF Tryz.prog 79:=Tryz.call79
theorem LP:ZV Tryz.prog 151 (.agg (Order.enc (default:Order)).toArray):=E8 (by kernel_rfl)
theorem Ro:HV Tryz.prog 151 [(0,1),(1,1),(2,1),(3,1),(4,1),(5,1)]:=⟨_,Tryz.underlying151,fun w=>by simp [DB w,J8 w,Em w]⟩
theorem D6:Sz Tryz.prog 151 6:=Dr (by kernel_rfl)
theorem B8:O4 Tryz.prog 151 6:=E2 Tryz.underlying151 rfl D6
theorem dQ:CF Tryz.prog 87:=Tryz.call87
theorem bC:CF Tryz.prog 76:=Tryz.call76
theorem ZL:CF Tryz.prog 174:=Tryz.call174
theorem W4:CF Tryz.prog 176:=Tryz.call176
theorem bZ:CF Tryz.prog 179:=Tryz.call179
theorem Xj:IS Tryz.prog 105 1:=PB Tryz.underlying105 Vt
theorem cB:Ql Tryz.prog 5:=I7 Tryz.underlying5 rfl
theorem bp:CF Tryz.prog 167:=Tryz.call167
theorem bm:CF Tryz.prog 168:=Tryz.call168
theorem ZQ:CF Tryz.prog 180:=Tryz.call180
theorem aR:Sz Tryz.prog 133 21:=Dr (by kernel_rfl)
theorem Zj:O4 Tryz.prog 133 21:=E2 Tryz.underlying133 rfl aR
theorem bE:CF Tryz.prog 169:=Tryz.call169
theorem cc:CF Tryz.prog 59:=Tryz.call59
theorem bW:CF Tryz.prog 181:=Tryz.call181
theorem bS:CF Tryz.prog 170:=Tryz.call170
theorem ZN:CF Tryz.prog 171:=Tryz.call171
theorem af:CF Tryz.prog 30:=Tryz.call30
theorem bR:CF Tryz.prog 172:=Tryz.call172
theorem bu:CF Tryz.prog 151:=Tryz.call151
theorem Ip:CF Tryz.prog 150:=Tryz.call150
theorem ZF:CF Tryz.prog 152:=Tryz.call152
theorem bG:CF Tryz.prog 153:=Tryz.call153
theorem cJ:CF Tryz.prog 94:=Tryz.call94
theorem Qz:FA Tryz.prog 151 5 5:=Bu Tryz.underlying151 rfl Em
theorem Fm:FA Tryz.prog 151 3 3:=Bu Tryz.underlying151 rfl Em
theorem GM:FA Tryz.prog 151 1 1:=Bu Tryz.underlying151 rfl DB
theorem UC:CF Tryz.prog 154:=Tryz.call154
theorem HC:FA Tryz.prog 151 2 2:=Bu Tryz.underlying151 rfl J8
theorem ZI:CF Tryz.prog 155:=Tryz.call155
theorem ZM:CF Tryz.prog 156:=Tryz.call156
theorem Hy:FA Tryz.prog 151 4 4:=Bu Tryz.underlying151 rfl Em
theorem Y4:CF Tryz.prog 128:=Tryz.call128
theorem Ts:CF Tryz.prog 136:=Tryz.call136
theorem ZO:CF Tryz.prog 125:=Tryz.call125
theorem Y5:CF Tryz.prog 131:=Tryz.call131
theorem W1:CF Tryz.prog 132:=Tryz.call132
theorem QG:CF Tryz.prog 134:=Tryz.call134
theorem bg:CF Tryz.prog 161:=Tryz.call161
theorem ZA:CF Tryz.prog 133:=Tryz.call133
theorem OF:CF Tryz.prog 135:=Tryz.call135
theorem DC:FA Tryz.prog 151 0 0:=Bu Tryz.underlying151 rfl DB
theorem bI:CF Tryz.prog 137:=Tryz.call137
theorem cC:CF Tryz.prog 138:=Tryz.call138
theorem cL:CF Tryz.prog 139:=Tryz.call139
theorem Ua:CF Tryz.prog 140:=Tryz.call140
theorem dH:CF Tryz.prog 99:=Tryz.call99
theorem aT:CF Tryz.prog 103:=Tryz.call103
theorem bT:CF Tryz.prog 104:=Tryz.call104
theorem bo:CF Tryz.prog 105:=Tryz.call105
theorem ba:CF Tryz.prog 106:=Tryz.call106
theorem au:CF Tryz.prog 107:=Tryz.call107
theorem Yl:CF Tryz.prog 84:=Tryz.call84
theorem Ka:Sz Tryz.prog 69 10:=Dr (by kernel_rfl)
theorem VL:HV Tryz.prog 98 [(0,1),(1,1),(2,10),(12,4),(16,5),(21,1)]:=⟨_,Tryz.underlying98,fun w=>by simp [DB w,Ka w,MS w,FO w,MO w]⟩
theorem Vu:ZV Tryz.prog 98 (.agg (A2.enc (default:A2)).toArray):=E8 (by kernel_rfl)
theorem cK:CF Tryz.prog 122:=Tryz.call122
theorem ZT:CF Tryz.prog 67:=Tryz.call67
theorem dI:CF Tryz.prog 91:=Tryz.call91
theorem dV:CF Tryz.prog 92:=Tryz.call92
theorem dX:CF Tryz.prog 93:=Tryz.call93
theorem dR:CF Tryz.prog 95:=Tryz.call95
theorem db:CF Tryz.prog 97:=Tryz.call97
theorem bB:CF Tryz.prog 186:=Tryz.call186
theorem bL:CF Tryz.prog 175:=Tryz.call175
theorem bd:CF Tryz.prog 158:=Tryz.call158
theorem aZ:CF Tryz.prog 126:=Tryz.call126
theorem WH:CF Tryz.prog 62:=Tryz.call62
theorem cr:CF Tryz.prog 98:=Tryz.call98
theorem K2:FA Tryz.prog 98 2 2:=Bu Tryz.underlying98 rfl Ka
theorem RD:FA Tryz.prog 69 5 9:=Bu Tryz.underlying69 rfl DB
theorem dO:CF Tryz.prog 83:=Tryz.call83
theorem dA:CF Tryz.prog 77:=Tryz.call77
theorem cn:CF Tryz.prog 78:=Tryz.call78
theorem SO:CF Tryz.prog 65:=Tryz.call65
theorem cI:Sz Tryz.prog 67 3:=Dr (by kernel_rfl)
theorem K7:FA Tryz.prog 69 3 3:=Bu Tryz.underlying69 rfl cI
theorem Ko:IA Tryz.prog 67 3 1:=Mr Tryz.underlying67 DB
theorem J9:FA Tryz.prog 69 4 6:=Bu Tryz.underlying69 rfl cI
theorem Fq:FA Tryz.prog 69 0 0:=Bu Tryz.underlying69 rfl DB
theorem LJ:FA Tryz.prog 69 1 1:=Bu Tryz.underlying69 rfl DB
theorem Gw:FA Tryz.prog 69 2 2:=Bu Tryz.underlying69 rfl Em
theorem Zg:ZV Tryz.prog 69 (.agg (AP.enc (default:AP)).toArray):=E8 (by kernel_rfl)
theorem Zu:CF Tryz.prog 73:=Tryz.call73
theorem D5:O4 Tryz.prog 69 10:=E2 Tryz.underlying69 rfl Ka
theorem Zl:CF Tryz.prog 55:=Tryz.call55
theorem R0:CF Tryz.prog 74:=Tryz.call74
theorem ai:ZV Tryz.prog 145 (.agg (CH (n:=2) Ay (Vector.replicate 2 default)).toArray):=E8 (by kernel_rfl)
theorem dE:CF Tryz.prog 80:=Tryz.call80
theorem cZ:CF Tryz.prog 81:=Tryz.call81
theorem Ya:CF Tryz.prog 75:=Tryz.call75
theorem de:CF Tryz.prog 56:=Tryz.call56
theorem bM:CF Tryz.prog 57:=Tryz.call57
theorem df:CF Tryz.prog 58:=Tryz.call58
theorem KU:ZV Tryz.prog 44 (.agg (Bn.enc (default:Bn)).toArray):=E8 (by kernel_rfl)
theorem Qr:FA Tryz.prog 101 2 253:=Bu Tryz.underlying101 rfl DB
theorem bH:Sz Tryz.prog 42 1:=Dr (by kernel_rfl)
theorem M0:HV Tryz.prog 44 [(0,1),(1,1)]:=⟨_,Tryz.underlying44,fun w=>by simp [bH w,Em w]⟩
theorem KV:Sz Tryz.prog 44 2:=Dr (by kernel_rfl)
theorem IP:O4 Tryz.prog 44 2:=E2 Tryz.underlying44 rfl KV
theorem Na:FA Tryz.prog 41 0 0:=Bu Tryz.underlying41 rfl DB
theorem X0:FA Tryz.prog 41 2 2:=Bu Tryz.underlying41 rfl DB
theorem cx:CF Tryz.prog 60:=Tryz.call60
theorem Sj:FA Tryz.prog 41 1 1:=Bu Tryz.underlying41 rfl DB
theorem cz:CF Tryz.prog 61:=Tryz.call61
theorem Z9:FA Tryz.prog 41 3 3:=Bu Tryz.underlying41 rfl Em
theorem dF:CF Tryz.prog 29:=Tryz.call29
theorem dY:CF Tryz.prog 63:=Tryz.call63
theorem dG:CF Tryz.prog 66:=Tryz.call66
theorem bt:CF Tryz.prog 37:=Tryz.call37
theorem Zd:HV Tryz.prog 41 [(0,1),(1,1),(2,1),(3,1)]:=⟨_,Tryz.underlying41,fun w=>by simp [DB w,Em w]⟩
theorem ZY:ZV Tryz.prog 41 (.agg (B0.enc (default:B0)).toArray):=E8 (by kernel_rfl)
theorem Yb:CF Tryz.prog 38:=Tryz.call38
theorem WI:FA Tryz.prog 44 0 0:=Bu Tryz.underlying44 rfl bH
theorem Y2:Ql Tryz.prog 42:=I7 Tryz.underlying42 rfl
theorem dj:CF Tryz.prog 24:=Tryz.call24
theorem dL:CF Tryz.prog 33:=Tryz.call33
theorem ao:Sz Tryz.prog 41 4:=Dr (by kernel_rfl)
theorem ax:IS Tryz.prog 22 4:=PB Tryz.underlying22 ao
theorem Y3:O4 Tryz.prog 41 4:=E2 Tryz.underlying41 rfl ao
theorem ch:CF Tryz.prog 42:=Tryz.call42
theorem dC:CF Tryz.prog 16:=Tryz.call16
theorem Qa (b:Nat)(V:AL):JO Tryz.prog 18 #[.pointer (some ⟨b,0,none⟩)] [Ac.box b 101 (AL.enc V)] (fun v B=>v = .agg (AH.enc V.w).toArray∧B = [Ac.box b 101 (AL.enc V)]):=by
 intro w hS0
 refine Ak _ _ Tryz.func18 rfl rfl rfl (hS0) ?_
 refine Gs ?_
 refine BD rfl L6 rfl (fun b1=>?_)
 refine AR (AA (CB (Gm rfl (Gt (EM Tryz.underlying37 rfl) (Gn (.t3 0 2 4) ?_)))))
 refine DD rfl rfl ?_
 refine Aa ?_
 refine AB (.t2 0 2) ?_
 refine AA (Gs (Gm rfl (Gt (BV rfl) (Gt (Ah D8 rfl) (Gt (AY rfl BW .m1 AL.l0 rfl) ?_)))))
 refine AS (AK (AU.id AH.fl.len AH.fl.one) rfl rfl rfl D3 rfl .h) ?_
 refine Gn (.t1 2) (Ab ?_)
 refine AZ rfl (.cell rfl .m0 (.inl ⟨(by rw [AH.fl.len];exact BW),rfl⟩) .n) ?_
 intro w1 hS
 have hS:=(hS.perm (Ax.perm (.c (.t .h) .n))).A1
 exact⟨_,⟨rfl,rfl⟩,hS⟩
theorem KY (X:AH)(i:Int)(h0:0≤i)(h9:i < 9)(w:World):Eh Tryz.prog 68 #[.agg X.enc.toArray, .int .i64 i] w fun v w'=>v = .bool (X.Ci i)∧CA w w':=by
 refine Ak [] [] Tryz.func68 rfl rfl rfl (St.start w []) ?_
 refine Gs ?_
 refine B5 rfl rfl rfl (fun b1=>?_)
 refine Ga rfl (Gn (.t2 1 2) (Gs (Gm rfl (Gt (Ah Cw rfl) ?_))))
 refine Gt (AQ F9 rfl rfl (by omega) (by omega)) ?_
 refine Gt (AY rfl Mp .m0 (AH.l1.comp (AU.ar (n:=9) Al.fl (by omega))) rfl) ?_
 refine BD rfl KW rfl (fun b2=>?_)
 refine AS (AK (AU.id Al.fl.len Al.fl.one) rfl rfl rfl My rfl .h) ?_
 refine Gn (.t2 2 5) (CB (Gt (Ah Gz rfl) (Gt (AG rfl A5 .m0 Al.l1 rfl rfl) (Gt (A8 rfl rfl) (Gm rfl (BZ 15 rfl rfl (fun q=>Ah Gz rfl) (BZ 15 rfl rfl (fun q=>AG (cF rfl q) A5 .m0 Al.l1 rfl rfl) ?_)))))))
 refine BZ 15 rfl rfl (fun q=>Ck (cF rfl q) rfl) ?_
 refine Gt (BS rfl rfl (fun h=>by rw [h];rfl)) ?_
 refine Gm rfl (BZ 20 rfl rfl (fun q=>Ah Gz rfl) (BZ 20 rfl rfl (fun q=>AG (cF rfl q) A5 .m0 Al.l1 rfl rfl) (BZ 20 rfl rfl (fun q=>Aj (cF rfl q) rfl) (BZ 20 rfl rfl (fun q=>AE (cF rfl q)) ?_))))
 refine DP (t:=24) rfl rfl rfl (fun qc q=>Ah GI rfl) ?_
 refine DP (t:=24) rfl rfl rfl (fun qc q=>AG (Bf rfl (by rw [qc,q];rfl)) DN .m0 Al.l4 rfl rfl) ?_
 refine BZ 20 rfl rfl (fun q=>BJ (cF rfl q) rfl (fun h=>by rw [q,h];rfl)) ?_
 refine Gt (BS rfl rfl (fun h=>by rw [h];rfl)) ?_
 refine Gm rfl (BZ 29 rfl rfl (fun q=>Ah DF rfl) (BZ 29 rfl rfl (fun q=>AG (cF rfl q) A5 .m0 Al.l3 rfl rfl) (BZ 29 rfl rfl (fun q=>A8 (cF rfl q) rfl) ?_)))
 refine Gt (BS rfl rfl (fun h=>by rw [h];rfl)) ?_
 refine Gn (.t3 2 5 33) ?_
 refine Gc (fun c1=>?_) (fun c1=>?_)
 ·
  refine Gs (Ga rfl (Gn (.t1 4) (Ab (AD ?_))))
  refine AZ rfl (.tmp rfl .n) ?_
  intro w1 hS;refine⟨congrArg Value.bool ?_,hS.Am⟩;simp only [AH.Ci,c1,↓reduceIte,Bool.false_eq_true]
 have c1p:=kz c1
 refine Aa ?_
 refine AB (.t2 2 5) ?_
 refine AA (Gs (Gt (Ah Gz rfl) (Gt (AG rfl A5 .m0 Al.l1 rfl rfl) (Gt (Aj rfl rfl) (Gm rfl (Bl 37 rfl rfl (fun q=>Ah GI rfl) (Bl 37 rfl rfl (fun q=>AG (Bf rfl q) DN .m0 Al.l4 rfl rfl) ?_)))))))
 refine Gt (BJ rfl rfl (fun h=>h)) (Ga rfl (Gn (.t3 2 5 6) (CB (Gt (Ah FP rfl) (Gt (AG rfl A5 .m0 Al.l2 rfl rfl) (Gn (.t4 2 5 6 42) (Ae ?_)))))))
 refine Gs (Gt (Aj rfl rfl) (Ga rfl (Gn (.t5 2 5 6 42 43) ?_)))
 refine Gc (fun c2=>?_) (fun c2=>?_)
 ·
  refine Gs (Gt (Ah DF rfl) (Gt (AG rfl A5 .m0 Al.l3 rfl rfl) (Gt (A8 rfl rfl) (Gm rfl (Bl 48 rfl rfl (fun q=>AE rfl) (Bl 48 rfl rfl (fun q=>BQ (Bf rfl q)) (Gt (BJ rfl rfl (fun h=>h)) ?_)))))))
  refine Ga rfl (Gn (.t1 4) (Ab (AT (AD ?_))))
  refine AZ rfl (.tmp rfl .n) ?_
  intro w1 hS;refine⟨congrArg Value.bool ?_,hS.Am⟩;simp only [AH.Ci,c1,c2,↓reduceIte,Bool.false_eq_true]
 have c2p:=kz c2
 refine Gs (Gt (Aj rfl rfl) (Ga rfl (Gn (.t5 2 5 6 42 52) ?_)))
 refine Gc (fun c3=>?_) (fun c3=>?_)
 ·
  have c3p:=kz c3
  refine Gs (Gt (Ah DF rfl) (Gt (AG rfl A5 .m0 Al.l3 rfl rfl) (Gt (A8 rfl rfl) (Gm rfl (Bl 57 rfl rfl (fun q=>Ah DF rfl) (Bl 57 rfl rfl (fun q=>AG (Bf rfl q) A5 .m0 Al.l3 rfl rfl) (Bl 57 rfl rfl (fun q=>Ah Bi rfl) ?_)))))))
  refine Bl 57 rfl rfl (fun q=>by have q1:=q;(try simp at q1);exact AQ Cs (Bf rfl q) (Bf rfl q) (by omega) (by omega)) ?_
  refine Bl 57 rfl rfl (fun q=>Ah F8 (Bf rfl q)) ?_
  refine Bl 57 rfl rfl (fun q=>by have q1:=q;(try simp at q1);exact AG (Bf rfl q) DN .m1 ((AH.l2.comp (AU.ar (n:=6) Ag.fl (by omega))).comp Ag.l1) rfl rfl) ?_
  refine Gt (BJ rfl rfl (fun h=>h)) (Ga rfl (Gn (.t1 4) (Ab (AT (AD ?_)))))
  refine AZ rfl (.tmp rfl .n) ?_
  intro w1 hS;refine⟨congrArg Value.bool ?_,hS.Am⟩;simp only [AH.Ci,c1,c2,c3,↓reduceIte,Bool.false_eq_true]
 have c3p:=kz c3
 refine Gs (Gt (Aj rfl rfl) (Ga rfl (Gn (.t4 2 5 6 65) ?_)))
 refine Gc (fun c4=>?_) (fun c4=>?_)
 ·
  have c4p:=kz c4
  refine CB (Gt (Ah DF rfl) (Gt (AG rfl A5 .m0 Al.l3 rfl rfl) (Gt (CI rfl rfl) (Gm rfl (BZ 70 rfl rfl (fun q=>Ah DF rfl) (BZ 70 rfl rfl (fun q=>AG (cF rfl q) A5 .m0 Al.l3 rfl rfl) (BZ 70 rfl rfl (fun q=>Ah Cw rfl) ?_)))))))
  refine BZ 70 rfl rfl (fun q=>by have q1:=q;(try simp at q1);exact AQ F9 (cF rfl q) (cF rfl q) (by omega) (by omega)) ?_
  refine BZ 70 rfl rfl (fun q=>Ah Gz (cF rfl q)) ?_
  refine BZ 70 rfl rfl (fun q=>by have q1:=q;(try simp at q1);exact AG (cF rfl q) A5 .m1 ((AH.l1.comp (AU.ar (n:=9) Al.fl (by omega))).comp Al.l1) rfl rfl) ?_
  refine BZ 70 rfl rfl (fun q=>Ce (cF rfl q) rfl) ?_
  refine Gt (BS rfl rfl (fun h=>by rw [h];rfl)) ?_
  refine Gm rfl (BZ 79 rfl rfl (fun q=>AE rfl) ?_)
  refine Gt (BS rfl rfl (fun h=>by rw [h];rfl)) ?_
  refine Gn (.t3 2 5 81) ?_
  refine Gc (fun c5=>?_) (fun c5=>?_)
  ·
   refine Gs (Ga rfl (Gn (.t1 4) (Ab (AD (AT (AD ?_))))))
   refine AZ rfl (.tmp rfl .n) ?_
   intro w1 hS;refine⟨congrArg Value.bool ?_,hS.Am⟩;simp only [AH.Ci,c1,c2,c3,c4,c5,↓reduceIte,Bool.false_eq_true]
  have c5p:=kz c5
  refine Aa ?_
  refine AB (.t2 2 5) ?_
  refine AA (Gs (Gm rfl (AR (AA (Ae ?_)))))
  refine Bo (.t3 82 2 5) ?_
  refine HZ (fun(k:Int) (t:Al)=>0≤k∧k≤10∧X.Ci i=X.J0 (10 - k).toNat t) (fun(k:Int) (t:Al)=>(10 - k).toNat) (fun(k:Int) (t:Al)=> [(82, .int .i64 k)]) (fun(k:Int) (t:Al)=> [Ac.box b2 29 (Al.enc t)]) (0) (X.AO.at i) ?_ rfl rfl (fun k t hI1=>?_)
  · refine⟨Int.le_refl _,by omega,?_⟩;simp only [AH.Ci,c1,c2,c3,c4,c5,↓reduceIte,Bool.false_eq_true];rfl
  obtain⟨hI11,hI12,hI13⟩:=hI1
  refine Gs (Gt (A8 rfl rfl) (AR (AA (Ap ?_))))
  refine Gc (fun c6=>?_) (fun c6=>?_)
  ·
   have c6p:=kz c6
   rw [show(10 - k).toNat=(10 - (k+1)).toNat+1 from by omega,AH.J0,show decide ((10 - (k+1)).toNat=0)=decide (k=9) from decide_eq_decide.2 ⟨by omega,by omega⟩] at hI13
   refine Aa ?_
   refine AB (.t3 2 5 82) ?_
   refine AA (Ap (Ae (Gs (Gm rfl (Ga rfl (Gn (.t4 2 5 7 82) (CB ?_)))))))
   refine Gt (Ah FP rfl) (Gt (AG rfl A5 .m0 Al.l2 rfl rfl) (Gt (Ce rfl rfl) (Gn (.t5 2 5 7 82 87) ?_)))
   refine Gc (fun c7=>?_) (fun c7=>?_)
   ·
    refine Gs (Ga rfl (Gn (.t1 4) (Ab (AD (AT (AD (AD ?_)))))))
    refine AT (AT (AD ?_))
    refine AZ rfl (.tmp rfl .n) ?_
    intro w1 hS;refine⟨congrArg Value.bool ?_,hS.Am⟩;rw [hI13];simp only [c1,c2,c3,c4,c5,c6,c7,↓reduceIte,Bool.false_eq_true]
   have c7p:=kz c7
   refine Aa ?_
   refine AB (.t4 2 5 7 82) ?_
   refine AA (CB (Gm rfl (Gt (Aj rfl rfl) (Gm rfl (BZ 90 rfl rfl (fun q=>Ah DF rfl) (BZ 90 rfl rfl (fun q=>AG (cF rfl q) A5 .m0 Al.l3 rfl rfl) (BZ 90 rfl rfl (fun q=>A8 (cF rfl q) rfl) ?_)))))))
   refine Gt (BS rfl rfl (fun h=>by rw [h];rfl)) ?_
   refine Gm rfl (BZ 95 rfl rfl (fun q=>Ah DF rfl) (BZ 95 rfl rfl (fun q=>AG (cF rfl q) A5 .m0 Al.l3 rfl rfl) (BZ 95 rfl rfl (fun q=>CI (cF rfl q) rfl) ?_)))
   refine Gt (BS rfl rfl (fun h=>by rw [h];rfl)) ?_
   refine Gn (.t4 2 5 82 99) ?_
   refine Gc (fun c8=>?_) (fun c8=>?_)
   ·
    refine Gs (Ga rfl (Gn (.t1 4) (Ab (AD (AT (AD (AD ?_)))))))
    refine AT (AT (AD ?_))
    refine AZ rfl (.tmp rfl .n) ?_
    intro w1 hS;refine⟨congrArg Value.bool ?_,hS.Am⟩;rw [hI13];simp only [c1,c2,c3,c4,c5,c6,c7,c8,↓reduceIte,Bool.false_eq_true]
   have c8p:=kz c8
   refine Aa ?_
   refine AB (.t3 2 5 82) ?_
   refine AA (AJ (Gt (Ah DF rfl) (Gt (AG rfl A5 .m0 Al.l3 rfl rfl) (Gt (Ah Cw rfl) ?_))))
   refine Gt (AQ F9 rfl rfl (by omega) (by omega)) ?_
   refine Gt (AY rfl Mp .m1 (AH.l1.comp (AU.ar (n:=9) Al.fl (by omega))) rfl) ?_
   refine AS (AK (AU.id Al.fl.len Al.fl.one) rfl rfl rfl My rfl .h) ?_
   refine AR (AB (.t3 2 5 82) ?_)
   refine AV (AA (AJ ?_))
   refine Gt (Aw rfl rfl (IntWalk.i64_in _ (by omega))) ?_
   refine Gm rfl ?_
   refine AR (AB (.t3 2 5 82) ?_)
   refine Dh (k+1) (X.AO.at t.at_) ?_ ?_ (.t3 82 2 5) (.refl _)
   · exact⟨by omega,by omega,by rw [hI13];simp only [c1,c2,c3,c4,c5,c6,c7,c8,↓reduceIte,Bool.false_eq_true]⟩
   · omega
  have c6p:=kz c6
  obtain rfl:k=10:=by omega
  refine Ba (AW (AW (Af ?_)))
  refine AB (.nil _) ?_
  refine AV (AA (Gs (Ga rfl (AR (AA (Ab ?_))))))
  refine AZ rfl (.tmp rfl .n) ?_
  intro w1 hS;refine⟨congrArg Value.bool ?_,hS.Am⟩;rw [hI13];rfl
 refine Aa ?_
 refine AB (.nil _) ?_
 refine AV (AA (Gs (Ga rfl (AR (AA (Ab ?_))))))
 refine AZ rfl (.tmp rfl .n) ?_
 intro w1 hS;refine⟨congrArg Value.bool ?_,hS.Am⟩;simp only [AH.Ci,c1,c2,c3,c4,↓reduceIte,Bool.false_eq_true]
theorem Fk (X:AH)(w:World):Eh Tryz.prog 43 #[.agg X.enc.toArray] w fun v w'=>v = .bool X.Bb∧CA w w':=by
 refine Ak [] [] Tryz.func43 rfl rfl rfl (St.start w []) ?_
 refine Gs ?_
 refine B5 rfl rfl rfl (fun b1=>?_)
 refine Ga rfl (Gn (.t1 1) (CB (Gt (Ah G2 rfl) (Gt (AY rfl bx .m0 AH.l0 rfl) (Gm rfl (Gn (.t3 1 11 12) (Ae ?_)))))))
 refine Bo (.t3 12 1 11) ?_
 refine CQ (fun(k:Int)=>0≤k∧k≤6∧X.Bb=(B7 6 X.Lt (6 - k).toNat && (B7 6 (fun k=>!AH.Dk (X.AM.at k)) 6 && B7 9 X.Ci 9))) (fun(k:Int)=>(6 - k).toNat) (fun(k:Int)=> [(12, .int .i64 k)]) (fun(k:Int)=> []) (0) ?_ rfl rfl (fun k hI1=>?_)
 · exact⟨Int.le_refl _,by omega,rfl⟩
 obtain⟨hI11,hI12,hI13⟩:=hI1
 refine Gs (Gt (A8 rfl rfl) (AR (AA (Ap ?_))))
 refine Gc (fun c1=>?_) (fun c1=>?_)
 ·
  have c1p:=kz c1
  rw [DY _ (by omega)] at hI13
  refine Aa ?_
  refine AB (.t3 1 11 12) ?_
  refine AA (Ap (Ae (Gs ?_)))
  refine Gt (GB Room.fl Tryz.underlying27 Nu rfl rfl (by omega) (by omega)) ?_
  refine BD rfl Ns rfl (fun b2=>?_)
  refine AS (AK (AU.id Room.fl.len Room.fl.one) rfl rfl rfl Q1 rfl .h) ?_
  refine Gn (.t4 1 4 11 12) (Gs (Gt (Ah MQ rfl) (Gt (AY rfl Y6 .m0 Room.l2 rfl) (Gm rfl (Gn (.t6 1 4 11 12 16 17) (Ae ?_))))))
  refine Bo (.t6 17 1 4 11 12 16) ?_
  refine CQ (fun(d:Int)=>0≤d∧d≤6∧X.Lt k=B7 6 (fun d=>!AH.H0 (X.BT.at k) d) (6 - d).toNat) (fun(d:Int)=>(6 - d).toNat) (fun(d:Int)=> [(17, .int .i64 d)]) (fun(d:Int)=> []) (0) ?_ rfl rfl (fun d hI2=>?_)
  · exact⟨Int.le_refl _,by omega,rfl⟩
  obtain⟨hI21,hI22,hI23⟩:=hI2
  refine Gs (Gt (A8 rfl rfl) (AR (AA (Ap ?_))))
  refine Gc (fun c2=>?_) (fun c2=>?_)
  ·
   have c2p:=kz c2
   rw [DY _ (by omega)] at hI23
   refine Aa ?_
   refine AB (.t6 1 4 11 12 16 17) ?_
   refine AA (Ap (Ae (Gs (Gm rfl ?_))))
   refine Gt (KN B2 Tryz.underlying23 DB A5 rfl rfl (by omega) (by omega) rfl) ?_
   refine Ga rfl (Ga rfl (Gn (.t8 1 4 5 6 11 12 16 17) (Gs (Gm rfl (Gt (A8 rfl rfl) (Gm rfl (BZ 23 rfl rfl (fun q=>AE rfl) ?_)))))))
   refine BZ 23 rfl rfl (fun q=>Ck (cF rfl q) rfl) ?_
   refine Gt (BS rfl rfl (fun h=>by rw [h];rfl)) ?_
   refine Gm rfl (BZ 27 rfl rfl (fun q=>AE rfl) (BZ 27 rfl rfl (fun q=>Aj (cF rfl q) rfl) (BZ 27 rfl rfl (fun q=>AE (cF rfl q)) ?_)))
   refine DP (t:=30) rfl rfl rfl (fun qc q=>AE rfl) ?_
   refine DP (t:=30) rfl rfl rfl (fun qc q=>Ah MJ rfl) ?_
   refine DP (t:=30) rfl rfl rfl (fun qc q=>by have q1:=q;have qc1:=qc;(try simp at q1 qc1);exact AQ QT (Bf rfl (by rw [qc,q];rfl)) (Bf rfl (by rw [qc,q];rfl)) (by omega) (by omega)) ?_
   refine DP (t:=30) rfl rfl rfl (fun qc q=>by have q1:=q;have qc1:=qc;(try simp at q1 qc1);exact AG (Bf rfl (by rw [qc,q];rfl)) DN .m0 (Room.l3.comp (AU.ar (n:=6) Fx (by omega))) rfl rfl) ?_
   refine BZ 27 rfl rfl (fun q=>BJ (cF rfl q) rfl (fun h=>by rw [q,h];rfl)) ?_
   refine Gt (BS rfl rfl (fun h=>by rw [h];rfl)) ?_
   refine Gn (.t7 1 4 11 12 16 17 36) ?_
   refine Gc (fun c3=>?_) (fun c3=>?_)
   ·
    refine Gs (Ga rfl (Gn (.t1 2) (Ab (AT (AD (AD (AT ?_)))))))
    refine AT (AD (AD (AT (AD ?_))))
    refine AZ rfl (.tmp rfl .n) ?_
    intro w1 hS;refine⟨congrArg Value.bool ?_,hS.Am⟩;rw [hI13,hI23,AH.H0,c3];rfl
   have c3p:=kz c3
   refine Aa ?_
   refine AB (.t6 1 4 11 12 16 17) ?_
   refine AV (AA (AJ ?_))
   refine Gt (Aw rfl rfl (IntWalk.i64_in _ (by omega))) ?_
   refine Gm rfl ?_
   refine AR (AB (.t6 1 4 11 12 16 17) ?_)
   refine Bx (d+1) ?_ ?_ (.t6 17 1 4 11 12 16) (.refl _)
   · exact⟨by omega,by omega,by rw [hI23,AH.H0,c3];rfl⟩
   · omega
  have c2p:=kz c2
  obtain rfl:d=6:=by omega
  refine Ba (AW (AW (Af ?_)))
  refine AB (.t3 1 11 12) ?_
  refine AV (AA (AJ ?_))
  refine Gt (Aw rfl rfl (IntWalk.i64_in _ (by omega))) ?_
  refine Gm rfl ?_
  refine AR (AB (.t3 1 11 12) ?_)
  refine Bx (k+1) ?_ ?_ (.t3 12 1 11) (.cons _ (.refl _))
  · exact⟨by omega,by omega,by rw [hI13,hI23];rfl⟩
  · omega
 have c1p:=kz c1
 obtain rfl:k=6:=by omega
 refine Ba (AW (AW (Af ?_)))
 refine AB (.t1 1) ?_
 refine AA (CB (Gt (Ah Bi rfl) (Gt (AY rfl Y0 .m0 AH.l2 rfl) (Gm rfl (Gn (.t3 1 40 41) (Ae ?_))))))
 refine Bo (.t3 41 1 40) ?_
 refine CQ (fun(b:Int)=>0≤b∧b≤6∧X.Bb=(B7 6 (fun k=>!AH.Dk (X.AM.at k)) (6 - b).toNat && B7 9 X.Ci 9)) (fun(b:Int)=>(6 - b).toNat) (fun(b:Int)=> [(41, .int .i64 b)]) (fun(b:Int)=> []) (0) ?_ rfl rfl (fun b hI3=>?_)
 · exact⟨Int.le_refl _,by omega,hI13⟩
 obtain⟨hI31,hI32,hI33⟩:=hI3
 refine Gs (Gt (A8 rfl rfl) (AR (AA (Ap ?_))))
 refine Gc (fun c4=>?_) (fun c4=>?_)
 ·
  have c4p:=kz c4
  rw [DY _ (by omega)] at hI33
  refine Aa ?_
  refine AB (.t3 1 40 41) ?_
  refine AA (Ap (Ae (Gs ?_)))
  refine Gt (GB Ag.fl Tryz.underlying33 Fl rfl rfl (by omega) (by omega)) ?_
  refine BD rfl Lx rfl (fun b3=>?_)
  refine AS (AK (AU.id Ag.fl.len Ag.fl.one) rfl rfl rfl KX rfl .h) ?_
  refine Gn (.t4 1 8 40 41) (Gs (Gt (Ah C2 rfl) (Gt (AG rfl A5 .m0 Ag.l3 rfl rfl) (Gt (A8 rfl rfl) (Gm rfl (BZ 47 rfl rfl (fun q=>Ah C2 rfl) (BZ 47 rfl rfl (fun q=>AG (cF rfl q) A5 .m0 Ag.l3 rfl rfl) ?_)))))))
  refine BZ 47 rfl rfl (fun q=>CI (cF rfl q) rfl) ?_
  refine Gt (BS rfl rfl (fun h=>by rw [h];rfl)) ?_
  refine Gm rfl (BZ 52 rfl rfl (fun q=>Ah Jg rfl) (BZ 52 rfl rfl (fun q=>AG (cF rfl q) A5 .m0 Ag.l4 rfl rfl) (BZ 52 rfl rfl (fun q=>A8 (cF rfl q) rfl) ?_)))
  refine Gt (BS rfl rfl (fun h=>by rw [h];rfl)) ?_
  refine Gm rfl (BZ 57 rfl rfl (fun q=>Ah Jg rfl) (BZ 57 rfl rfl (fun q=>AG (cF rfl q) A5 .m0 Ag.l4 rfl rfl) (BZ 57 rfl rfl (fun q=>Ck (cF rfl q) rfl) ?_)))
  refine Gt (BS rfl rfl (fun h=>by rw [h];rfl)) ?_
  refine Gm rfl (BZ 62 rfl rfl (fun q=>Ah GD rfl) (BZ 62 rfl rfl (fun q=>AG (cF rfl q) A5 .m0 Ag.l5 rfl rfl) (BZ 62 rfl rfl (fun q=>A8 (cF rfl q) rfl) ?_)))
  refine Gt (BS rfl rfl (fun h=>by rw [h];rfl)) ?_
  refine Gm rfl (BZ 67 rfl rfl (fun q=>Ah GD rfl) (BZ 67 rfl rfl (fun q=>AG (cF rfl q) A5 .m0 Ag.l5 rfl rfl) (BZ 67 rfl rfl (fun q=>Ck (cF rfl q) rfl) ?_)))
  refine Gt (BS rfl rfl (fun h=>by rw [h];rfl)) ?_
  refine Gm rfl (BZ 72 rfl rfl (fun q=>Ah F8 rfl) (BZ 72 rfl rfl (fun q=>AG (cF rfl q) DN .m0 Ag.l1 rfl rfl) (BZ 72 rfl rfl (fun q=>BQ (cF rfl q)) (BZ 72 rfl rfl (fun q=>AE (cF rfl q)) ?_))))
  refine DP (t:=76) rfl rfl rfl (fun qc q=>Ah GD rfl) ?_
  refine DP (t:=76) rfl rfl rfl (fun qc q=>AG (Bf rfl (by rw [qc,q];rfl)) A5 .m0 Ag.l5 rfl rfl) ?_
  refine DP (t:=76) rfl rfl rfl (fun qc q=>Ce (Bf rfl (by rw [qc,q];rfl)) rfl) ?_
  refine BZ 72 rfl rfl (fun q=>BJ (cF rfl q) rfl (fun h=>by rw [q,h];rfl)) ?_
  refine Gt (BS rfl rfl (fun h=>by rw [h];rfl)) ?_
  refine Gm rfl (BZ 82 rfl rfl (fun q=>Ah F8 rfl) (BZ 82 rfl rfl (fun q=>AG (cF rfl q) DN .m0 Ag.l1 rfl rfl) (BZ 82 rfl rfl (fun q=>Ah Jg rfl) (BZ 82 rfl rfl (fun q=>AG (cF rfl q) A5 .m0 Ag.l4 rfl rfl) (BZ 82 rfl rfl (fun q=>Ck (cF rfl q) rfl) (BZ 82 rfl rfl (fun q=>Jw Tryz.underlying4 (cF rfl q) (cF rfl q)) ?_))))))
  refine Gt (BS rfl rfl (fun h=>by rw [h];rfl)) ?_
  refine Gn (.t4 1 40 41 89) ?_
  refine Gc (fun c5=>?_) (fun c5=>?_)
  ·
   refine Gs (Ga rfl (Gn (.t1 2) (Ab (AT (AD (AD (AT ?_)))))))
   refine AD ?_
   refine AZ rfl (.tmp rfl .n) ?_
   intro w1 hS;refine⟨congrArg Value.bool ?_,hS.Am⟩;rw [hI33,AH.Dk,c5];rfl
  have c5p:=kz c5
  refine Aa ?_
  refine AB (.t3 1 40 41) ?_
  refine AV (AA (AJ ?_))
  refine Gt (Aw rfl rfl (IntWalk.i64_in _ (by omega))) ?_
  refine Gm rfl ?_
  refine AR (AB (.t3 1 40 41) ?_)
  refine Bx (b+1) ?_ ?_ (.t3 41 1 40) (.cons _ (.refl _))
  · exact⟨by omega,by omega,by rw [hI33,AH.Dk,c5];rfl⟩
  · omega
 have c4p:=kz c4
 obtain rfl:b=6:=by omega
 refine Ba (AW (AW (Af ?_)))
 refine AB (.t1 1) ?_
 refine AA (CB (Gm rfl (AR (AA (Ae ?_)))))
 refine Bo (.t2 91 1) ?_
 refine CQ (fun(t:Int)=>0≤t∧t≤9∧X.Bb=B7 9 X.Ci (9 - t).toNat) (fun(t:Int)=>(9 - t).toNat) (fun(t:Int)=> [(91, .int .i64 t)]) (fun(t:Int)=> []) (0) ?_ rfl rfl (fun t hI4=>?_)
 · exact⟨Int.le_refl _,by omega,hI33⟩
 obtain⟨hI41,hI42,hI43⟩:=hI4
 refine Gs (Gt (A8 rfl rfl) (AR (AA (Ap ?_))))
 refine Gc (fun c6=>?_) (fun c6=>?_)
 ·
  have c6p:=kz c6
  rw [DY _ (by omega)] at hI43
  refine Aa ?_
  refine AB (.t2 1 91) ?_
  refine AA (Ap (Ae (Gs (Gm rfl (Ga rfl (Gn (.t3 1 9 91) (Gs ?_)))))))
  refine Gt (AY rfl BW .m0 (AU.id AH.fl.len AH.fl.one) rfl) (Gm rfl ?_)
  refine BA rfl dS (.c rfl (.c rfl .n)) (fun w hS=>KY X _ (by omega) (by omega) w) ?_
  refine Gt (BQ rfl) (Gn (.t3 1 91 97) ?_)
  refine Gc (fun c7=>?_) (fun c7=>?_)
  ·
   refine Gs (Ga rfl (Gn (.t1 2) (Ab (AT (AD (AD (AT ?_)))))))
   refine AD ?_
   refine AZ rfl (.tmp rfl .n) ?_
   intro w1 hS;refine⟨congrArg Value.bool ?_,hS.Am⟩;rw [hI43,show X.Ci t=false by simpa using c7];rfl
  have c7p:=kz c7
  refine Aa ?_
  refine AB (.t2 1 91) ?_
  refine AV (AA (AJ ?_))
  refine Gt (Aw rfl rfl (IntWalk.i64_in _ (by omega))) ?_
  refine Gm rfl ?_
  refine AR (AB (.t2 1 91) ?_)
  refine Bx (t+1) ?_ ?_ (.t2 91 1) (.refl _)
  · exact⟨by omega,by omega,by rw [hI43,show X.Ci t=true by simpa using c7];rfl⟩
  · omega
 have c6p:=kz c6
 obtain rfl:t=9:=by omega
 refine Ba (AW (AW (Af ?_)))
 refine AB (.nil _) ?_
 refine AA (Gs (Ga rfl (AR (AA (Ab ?_)))))
 refine AZ rfl (.tmp rfl .n) ?_
 intro w1 hS;refine⟨congrArg Value.bool ?_,hS.Am⟩;rw [hI43];rfl
theorem LU (b:Nat)(V:AL)(ls:Vector BI 4)(i:Int)(hi:0≤i∧i < 4)(hl:(ls.at i).wait.length≤1000000):JO Tryz.prog 28 #[.pointer (some ⟨b,0,none⟩), .int .i64 i] [Ac.box b 101 (AL.enc V),Ac.Dv (CG 9 (AL.Ao V) ls)] (fun v B=>∃ h':Hd,v = .agg (As.enc ⟨h',(V.Ao.at i).out.shown,(V.Ao.at i).out.B6,(V.Ao.at i).out.ring,(V.Ao.at i).out.cut⟩).toArray∧h'.len=(ls.at i).wait.length∧B = [Ac.box b 101 (AL.enc V),Ac.Dv (CG 9 (AL.Ao V) ls),Ac.own h' 9 1 ((ls.at i).wait.flatMap A7)]):=by
 intro w hS0
 refine Ak _ _ Tryz.func28 rfl rfl rfl (hS0) ?_
 refine Gs ?_
 refine BD rfl Tl rfl (fun b1=>?_)
 refine AR (AA (CB (Gm rfl (Gt (EM Tryz.underlying37 rfl) (Gm rfl ?_)))))
 refine C7 (t:=8) rfl rfl rfl (AE rfl) ?_
 refine C7 (t:=8) rfl rfl rfl (A8 rfl rfl) ?_
 refine Gt (Cm rfl rfl) (Gm rfl (BZ 12 rfl rfl (fun q=>AE rfl) (BZ 12 rfl rfl (fun q=>CI (cF rfl q) rfl) ?_)))
 refine Gt (BS rfl rfl (fun h=>by rw [h];rfl)) ?_
 refine Gn (.t4 0 1 4 15) ?_
 refine DD rfl (by rw [Bool.or_eq_false_iff,decide_eq_false_iff_not,decide_eq_false_iff_not];omega) ?_
 refine Aa ?_
 refine AB (.t3 0 1 4) ?_
 refine AA (Ap ?_)
 refine EJ (.c (.t .h) (.c (.t .h) .n)) ?_
 refine E4 (k:=i) hi.1 hi.2 (fun sv sl hsv hlv hln=>?_)
 have hl2:=hl
 rw [hlv] at hl2
 refine AJ (Gm rfl (Gm rfl (Gt (BV rfl) (Gt (Ah Ft rfl) ?_))))
 refine Gt (AQ NX rfl rfl (by first | omega | exact hi.1 | exact hi.2) (by first | omega | exact hi.1 | exact hi.2)) ?_
 refine Gt (Ah Dn rfl) (Gt (AY rfl Cr .m3 ((AU.BL V hi.1 hi.2).comp A2.l4) rfl) ?_)
 refine BD rfl Tl rfl (fun b2=>?_)
 refine AS (AK (AU.id As.fl.len As.fl.one) rfl rfl rfl FO rfl .h) ?_
 refine Gn (.t2 4 5) (Gs (Gt (Ah H8 rfl) (Gt (AG rfl FW .m0 As.l0 rfl rfl) ?_)))
 refine DU A7 9 1 ?_
 refine JD (e:=A7) rfl Tryz.underlying52 Em RX rfl Ws (by decide) rfl rfl (fun w hS=>Src.Dz Tryz.underlying52 ((Kn.own .m3) w hS)) rfl rfl (by omega) (fun _=> .h) (fun h1 h1l=>?_)
 refine Gt (Ah H8 rfl) ?_
 refine AS (AK As.l0 rfl rfl rfl MO rfl (.t .h)) ?_
 refine Gn (.t2 4 5) (Gs (Gt (AY rfl Cr .m1 (AU.id As.fl.len As.fl.one) rfl) ?_))
 refine AS (AK (AU.id As.fl.len As.fl.one) rfl rfl rfl FO rfl (.t (.t (.t (.t (.t (.t (.t .h)))))))) ?_
 refine Gn (.t1 4) (Ab ?_)
 refine AZ rfl (.cell rfl .m7 (.inl ⟨(by rw [As.fl.len];exact Cr),rfl⟩) .n) ?_
 intro w1 hS
 have hS:=(hS.perm (Ax.perm (.c (.t (.t .h)) (.c (.t (.t .h)) (.c (.t (.t .h)) (.c (.t (.t .h)) (.c (.t (.t .h)) (.c .h .n)))))))).A1
 have e1:V.BL i sv=V:=by rw [← hsv];exact V.KP hi.1 hi.2
 have e2:ls.put i ⟨sl.queue,sl.wait,sl.told⟩=ls:=by rw [← hlv];exact Vector.Lp ls hi.1 hi.2
 have hS:=St.close' (s:=sv) (qs:=sl.queue) (ws:=sl.wait) (ts:=sl.told) hi.1 hi.2 rfl rfl rfl hS
 rw [e1,e2] at hS
 try rw [hsv]
 rw [hlv]
 refine⟨_,⟨_,rfl,?gl,rfl⟩,hS⟩
 case gl=>(try simp only [List.length_append,List.length_nil] at *);omega
theorem FF (p:As)(w:World):Eh Tryz.prog 44 #[.agg p.enc.toArray] w fun v w'=>v = .bool (Page.Bb p)∧CA w w':=by
 refine Ak [] [] Tryz.func44 rfl rfl rfl (St.start w []) ?_
 refine Gs ?_
 refine B5 rfl rfl rfl (fun b1=>?_)
 refine Ga rfl (Gn (.t1 1) (Gs (Gt (Ah H8 rfl) (Gt (AG rfl FW .m0 As.l0 rfl rfl) (Gt (Av rfl Tryz.underlying52 rfl) (Gt (IK rfl rfl) (Gm rfl ?_)))))))
 refine Bl 7 rfl rfl (fun q=>Ah Js rfl) (Bl 7 rfl rfl (fun q=>AG (Bf rfl q) CP .m0 As.l3 rfl rfl) (Bl 7 rfl rfl (fun q=>BH rfl Tryz.underlying9 (Bf rfl q)) (Bl 7 rfl rfl (fun q=>IK (Bf rfl q) rfl) (Gt (BJ rfl rfl (fun h=>h)) (Gm rfl (Bl 13 rfl rfl (fun q=>Ah ML rfl) (Bl 13 rfl rfl (fun q=>AG (Bf rfl q) A5 .m0 As.l1 rfl rfl) ?_)))))))
 refine Bl 13 rfl rfl (fun q=>CI (Bf rfl q) rfl) (Gt (BJ rfl rfl (fun h=>h)) (Gm rfl (Bl 18 rfl rfl (fun q=>Ah ML rfl) (Bl 18 rfl rfl (fun q=>AG (Bf rfl q) A5 .m0 As.l1 rfl rfl) (Bl 18 rfl rfl (fun q=>IK (Bf rfl q) rfl) (Gt (BJ rfl rfl (fun h=>h)) (Ga rfl ?_)))))))
 refine Gn (.t1 2) (Ab ?_)
 refine AZ rfl (.tmp rfl .n) ?_
 intro w1 hS;refine⟨congrArg Value.bool ?_,hS.Am⟩;rfl
theorem RO (b:Nat)(V:AL)(ls:Vector BI 4)(i:Int)(hi:0≤i∧i < 4)(hl:(ls.at i).queue.length≤1000000):JO Tryz.prog 32 #[.pointer (some ⟨b,0,none⟩), .int .i64 i] [Ac.box b 101 (AL.enc V),Ac.Dv (CG 9 (AL.Ao V) ls)] (fun v B=>∃ h':Hd,v = .agg (BG.enc ⟨(V.Ao.at i).EE.now,(V.Ao.at i).EE.Cq,(V.Ao.at i).EE.ret,h'⟩).toArray∧h'.len=(ls.at i).queue.length∧B = [Ac.box b 101 (AL.enc V),Ac.Dv (CG 9 (AL.Ao V) ls),Ac.own h' 9 1 ((ls.at i).queue.flatMap A7)]):=by
 intro w hS0
 refine Ak _ _ Tryz.func32 rfl rfl rfl (hS0) ?_
 refine Gs ?_
 refine BD rfl YY rfl (fun b1=>?_)
 refine AR (AA (CB (Gm rfl (Gt (EM Tryz.underlying37 rfl) (Gm rfl ?_)))))
 refine C7 (t:=8) rfl rfl rfl (AE rfl) ?_
 refine C7 (t:=8) rfl rfl rfl (A8 rfl rfl) ?_
 refine Gt (Cm rfl rfl) (Gm rfl (BZ 12 rfl rfl (fun q=>AE rfl) (BZ 12 rfl rfl (fun q=>CI (cF rfl q) rfl) ?_)))
 refine Gt (BS rfl rfl (fun h=>by rw [h];rfl)) ?_
 refine Gn (.t4 0 1 4 15) ?_
 refine DD rfl (by rw [Bool.or_eq_false_iff,decide_eq_false_iff_not,decide_eq_false_iff_not];omega) ?_
 refine Aa ?_
 refine AB (.t3 0 1 4) ?_
 refine AA (Ap ?_)
 refine EJ (.c (.t .h) (.c (.t .h) .n)) ?_
 refine E4 (k:=i) hi.1 hi.2 (fun sv sl hsv hlv hln=>?_)
 have hl2:=hl
 rw [hlv] at hl2
 refine AJ (Gm rfl (Gm rfl (Gt (BV rfl) (Gt (Ah Ft rfl) ?_))))
 refine Gt (AQ NX rfl rfl (by first | omega | exact hi.1 | exact hi.2) (by first | omega | exact hi.1 | exact hi.2)) ?_
 refine Gt (Ah Ku rfl) (Gt (AY rfl Hu .m3 ((AU.BL V hi.1 hi.2).comp A2.l3) rfl) ?_)
 refine BD rfl YY rfl (fun b2=>?_)
 refine AS (AK (AU.id BG.fl.len BG.fl.one) rfl rfl rfl MS rfl .h) ?_
 refine Gn (.t2 4 5) (Gs (Gt (Ah FN rfl) (Gt (AG rfl FW .m0 BG.l3 rfl rfl) ?_)))
 refine DU A7 9 1 ?_
 refine JD (e:=A7) rfl Tryz.underlying52 Em RX rfl Ws (by decide) rfl rfl (fun w hS=>Src.Dz Tryz.underlying52 ((Kn.own .m2) w hS)) rfl rfl (by omega) (fun _=> .h) (fun h1 h1l=>?_)
 refine Gt (Ah FN rfl) ?_
 refine AS (AK BG.l3 rfl rfl rfl MO rfl (.t .h)) ?_
 refine Gn (.t2 4 5) (Gs (Gt (AY rfl Hu .m1 (AU.id BG.fl.len BG.fl.one) rfl) ?_))
 refine AS (AK (AU.id BG.fl.len BG.fl.one) rfl rfl rfl MS rfl (.t (.t (.t (.t (.t (.t (.t .h)))))))) ?_
 refine Gn (.t1 4) (Ab ?_)
 refine AZ rfl (.cell rfl .m7 (.inl ⟨(by rw [BG.fl.len];exact Hu),rfl⟩) .n) ?_
 intro w1 hS
 have hS:=(hS.perm (Ax.perm (.c (.t (.t .h)) (.c (.t (.t .h)) (.c (.t (.t .h)) (.c (.t (.t .h)) (.c (.t (.t .h)) (.c .h .n)))))))).A1
 have e1:V.BL i sv=V:=by rw [← hsv];exact V.KP hi.1 hi.2
 have e2:ls.put i ⟨sl.queue,sl.wait,sl.told⟩=ls:=by rw [← hlv];exact Vector.Lp ls hi.1 hi.2
 have hS:=St.close' (s:=sv) (qs:=sl.queue) (ws:=sl.wait) (ts:=sl.told) hi.1 hi.2 rfl rfl rfl hS
 rw [e1,e2] at hS
 try rw [hsv]
 rw [hlv]
 refine⟨_,⟨_,rfl,?gl,rfl⟩,hS⟩
 case gl=>(try simp only [List.length_append,List.length_nil] at *);omega
theorem Bv {t0:Nat}(h:Hd)(xs:List Aq)(hb:xs.length≤17592186044416):FK Tryz.prog 69 #[h.val] [] (fun w=>Rd w h t0 1 (xs.flatMap A7)) (fun v B=>∃ h':Hd,v=h'.val∧h'.len=xs.length∧B = [Ac.own h' 9 1 (xs.flatMap A7)]):=by
 intro w hS0 hH
 have r0:=hH
 have hl:=r0.Mw DZ (by decide)
 refine Ak _ _ Tryz.func69 rfl rfl rfl (hS0) ?_
 refine Gs (Ga rfl (Gn (.t1 0) (CB (Gm rfl (Gt (Tf Tryz.underlying52 rfl) (Gn (.t2 0 4) ?_))))))
 refine Gc (fun c1=>?_) (fun c1=>?_)
 ·
  refine Gs (Ga rfl (Gn (.t1 2) (Ab (AD ?_))))
  refine AZ rfl (.tmp rfl .n) ?_
  intro w1 hS
  have hS:=(hS.perm (Ax.perm .n)).A1
  have hx:xs = []:=by
    rcases xs with _ | ⟨x,xs⟩
    · rfl
    · exfalso
      obtain⟨b,o,C,fz,e1,_⟩:=r0.2 (by simp [A7])
      rw [e1] at c1
      cases c1
  subst hx
  exact⟨_,⟨⟨none,0,0⟩,rfl,rfl,rfl⟩,hS.Co _ _⟩
 have c1p:=kz c1
 refine Aa ?_
 refine AB (.t1 0) ?_
 refine AA (Gs ?_)
 refine X9 A7 rfl Tryz.underlying52 Em (fun b1=>?_)
 refine Gm rfl ?_
 refine JD (e:=A7) rfl Tryz.underlying52 Em RX rfl Ws (by decide) rfl rfl (fun w hS=>Src.Dz Tryz.underlying52 ((Kn.I0 r0) w hS)) rfl rfl (by omega) (fun _=> .h) (fun h1 h1l=>?_)
 refine Ga rfl (Gn (.t1 2) (Ab ?_))
 refine AZ rfl (.tmp rfl .n) ?_
 intro w1 hS
 have hS:=(hS.perm (Ax.perm (.c .h .n))).A1
 exact⟨_,⟨_,rfl,by omega,rfl⟩,hS⟩
theorem Gv (b:UInt8)(w:World):Eh Tryz.prog 70 #[.int .u8 (b.toNat:Int)] w fun v w'=>v = .bool (Bg.Fg b)∧CA w w':=by
 refine Ak [] [] Tryz.func70 rfl rfl rfl (St.start w []) ?_
 refine Gs (Ga rfl (Gn (.t1 0) (Gs (Gm rfl (Gt (CI rfl rfl) (Gm rfl (Bl 5 rfl rfl (fun q=>AE rfl) ?_)))))))
 refine Bl 5 rfl rfl (fun q=>A8 (Bf rfl q) rfl) (Gt (BJ rfl rfl (fun h=>h)) (Ga rfl (Gn (.t1 2) (Ab ?_))))
 refine AZ rfl (.tmp rfl .n) ?_
 intro w1 hS;refine⟨?_,hS.Am⟩;rfl
theorem Ja {t0:Nat}(l:BG)(qs:List Aq)(w:World)(r0:Rd w l.queue t0 1 (qs.flatMap A7)):Eh Tryz.prog 45 #[.agg l.enc.toArray] w fun v w'=>v = .bool (Bg.Bb l qs)∧CA w w':=by
 have hl:=r0.Mw DZ (by decide)
 refine Ak [] [] Tryz.func45 rfl rfl rfl (St.start w []) ?_
 refine Gs ?_
 refine B5 rfl rfl rfl (fun b1=>?_)
 refine Ga rfl (Gn (.t1 1) (CB (Gt (Ah JZ rfl) (Gt (AG rfl CP .m0 BG.l0 rfl rfl) (Gt (BH rfl Tryz.underlying9 rfl) (Gt (Ck rfl rfl) (Gm rfl ?_)))))))
 refine BZ 10 rfl rfl (fun q=>Ah FN rfl) (BZ 10 rfl rfl (fun q=>AG (cF rfl q) FW .m0 BG.l3 rfl rfl) (BZ 10 rfl rfl (fun q=>Av rfl Tryz.underlying52 (cF rfl q)) (BZ 10 rfl rfl (fun q=>Ck (cF rfl q) rfl) ?_)))
 refine Gt (BS rfl rfl (fun h=>by rw [h];rfl)) ?_
 refine Gm rfl (BZ 16 rfl rfl (fun q=>Ah NZ rfl) (BZ 16 rfl rfl (fun q=>AG (cF rfl q) DN .m0 BG.l1 rfl rfl) (BZ 16 rfl rfl (fun q=>AE (cF rfl q)) ?_)))
 refine DP (t:=19) rfl rfl rfl (fun qc q=>Ah JZ rfl) ?_
 refine DP (t:=19) rfl rfl rfl (fun qc q=>AG (Bf rfl (by rw [qc,q];rfl)) CP .m0 BG.l0 rfl rfl) ?_
 refine DP (t:=19) rfl rfl rfl (fun qc q=>BH rfl Tryz.underlying9 (Bf rfl (by rw [qc,q];rfl))) ?_
 refine DP (t:=19) rfl rfl rfl (fun qc q=>Ck (Bf rfl (by rw [qc,q];rfl)) rfl) ?_
 refine BZ 16 rfl rfl (fun q=>BJ (cF rfl q) rfl (fun h=>by rw [q,h];rfl)) ?_
 refine Gt (BS rfl rfl (fun h=>by rw [h];rfl)) ?_
 refine Gm rfl (BZ 26 rfl rfl (fun q=>Ah NU rfl) (BZ 26 rfl rfl (fun q=>AG (cF rfl q) DN .m0 BG.l2 rfl rfl) (BZ 26 rfl rfl (fun q=>AE (cF rfl q)) ?_)))
 refine DP (t:=29) rfl rfl rfl (fun qc q=>Ah JZ rfl) ?_
 refine DP (t:=29) rfl rfl rfl (fun qc q=>AG (Bf rfl (by rw [qc,q];rfl)) CP .m0 BG.l0 rfl rfl) ?_
 refine DP (t:=29) rfl rfl rfl (fun qc q=>D1 (Bf rfl (by rw [qc,q];rfl)) rfl) ?_
 refine DP (t:=29) rfl rfl rfl (fun qc q=>AE (Bf rfl (by rw [qc,q];rfl))) ?_
 refine C3 (t:=33) rfl rfl rfl (fun qc q=>Ah NZ rfl) ?_
 refine C3 (t:=33) rfl rfl rfl (fun qc q=>AG (Bf rfl (by rw [qc,q];rfl)) DN .m0 BG.l1 rfl rfl) ?_
 refine DP (t:=29) rfl rfl rfl (fun qc q=>BS (Bf rfl (by rw [qc,q];rfl)) rfl (fun h=>by rw [qc,q,h];rfl)) ?_
 refine BZ 26 rfl rfl (fun q=>BJ (cF rfl q) rfl (fun h=>by rw [q,h];rfl)) ?_
 refine Gt (BS rfl rfl (fun h=>by rw [h];rfl)) ?_
 refine Gn (.t2 1 38) ?_
 refine Gc (fun c1=>?_) (fun c1=>?_)
 ·
  refine Gs (Ga rfl (Gn (.t1 2) (Ab (AD ?_))))
  refine AZ rfl (.tmp rfl .n) ?_
  intro w1 hS;refine⟨congrArg Value.bool ?_,hS.Am⟩;rw [Bg.Bb,show Bg.JI l=true from c1];rfl
 have c1p:=kz c1
 have hq:(l.queue.len:Int)≤6:=by omega
 refine Aa ?_
 refine AB (.t1 1) ?_
 refine AA (Ap (Ap ?_))
 refine BE (N:=9) [0,1,3,0,8,24,63,127,0] mix (by kernel_rfl) rfl ?_
 refine Pf 0 rfl (Ah FN rfl) (Pf 1 rfl (AG rfl FW .m0 BG.l3 rfl rfl) (Pf 3 rfl (Ah JZ rfl) (Pf 4 rfl (AG rfl CP .m0 BG.l0 rfl rfl) (Pf 8 rfl (AE rfl) ?_))))
 refine J4 2 5 rfl rfl (by kernel_rfl) ?_ ?_
 ·
  refine BF rfl Ut (.c rfl .n) .n (Bv _ _ (by first | assumption | omega)) (fun w hS=>(Kn.I0 r0) w hS) (fun v1 B hv=>?_)
  obtain⟨y2,rfl,y3,rfl⟩:=hv
  refine Bp rfl ⟨?_,?_⟩
  · exact(Po rfl (AE rfl) rfl rfl (Po rfl (AG rfl CP .m1 BG.l0 rfl rfl) rfl rfl (Po rfl (Ah JZ rfl) rfl rfl (Pk (Pk Ar)))))
  refine An 5 rfl (by kernel_rfl) ?_
  refine Fv A7 DZ rfl Tryz.underlying52 Em RX rfl (by decide) (by decide) rfl rfl (fun b2=>?_)
  refine Bp rfl ⟨?_,?_⟩
  · exact(Po rfl (AE rfl) rfl rfl (Pk (Pk (Po rfl (AG rfl FW .m2 BG.l3 rfl rfl) rfl rfl (Po rfl (Ah FN rfl) rfl rfl Ar)))))
  refine An 6 rfl (by kernel_rfl) ?_
  refine Cd DZ rfl Tryz.underlying52 Em RX rfl Ws (by decide) (by decide) rfl rfl (fun w hS=>Src.Dz Tryz.underlying52 ((Kn.own .m0) w hS)) (by(try dsimp only);omega) (fun _=>(.t .h)) (fun h5 h5l h5z=>?_)
  refine Bp rfl ⟨?_,?_⟩
  · exact(Po rfl (AE rfl) rfl rfl (Pk (Pk (Pk (Pk Ar)))))
  refine Pf 7 rfl (Av rfl Tryz.underlying52 rfl) ?_
  refine A4 (by kernel_rfl) ?_
  refine AB (.t3 45 46 47) ?_
  refine AA (Ae ?_)
  refine Bo (.t3 47 45 46) ?_
  refine CQ (fun(k:Int)=>0≤k∧k≤((qs ++ [l.now]).length:Int)∧Bg.Bb l qs=((qs ++ [l.now]).drop k.toNat).all Bg.F5) (fun(k:Int)=>(((qs ++ [l.now]).length:Int) - k).toNat) (fun(k:Int)=> [(47, .int .i64 k)]) (fun(k:Int)=> []) (0) ?_ rfl rfl (fun k hI1=>?_)
  · exact⟨by omega,by omega,by rw [Bg.Bb,show Bg.JI l=false from c1];rfl⟩
  obtain⟨hI11,hI12,hI13⟩:=hI1
  refine Gs (Gt (A8 rfl rfl) (AR (AA (Ap ?_))))
  refine Gc (fun c2=>?_) (fun c2=>?_)
  ·
   have c2p:=kz c2
   have hk:k < ((qs ++ [l.now]).length:Int):=by simp only [List.length_append,List.length_cons,List.length_nil] at *;omega
   have hk7:((qs ++ [l.now]).length:Int)≤7:=by simp only [List.length_append,List.length_cons,List.length_nil] at *;omega
   refine Aa ?_
   refine AB (.t3 45 46 47) ?_
   refine AA (Ap (Ae (Gs ?_)))
   refine Gt (Br JU (by decide) (Kn.own .m1) rfl rfl (by omega) (by simp only [List.length_append,List.length_cons,List.length_nil] at *;omega)) ?_
   refine Gt (Dj rfl CP (Kn.own .m1) (by omega)) ?_
   refine Ga rfl (Gn (.t4 4 45 46 47) (CB (Gm rfl (Gt (BH rfl Tryz.underlying9 rfl) (Gt (Ck rfl rfl) (Gn (.t5 4 45 46 47 53) ?_))))))
   refine Gc (fun c3=>?_) (fun c3=>?_)
   ·
    refine Gs (Ga rfl (Gn (.t1 2) (Ab (AD (AT (AD (AD ?_)))))))
    refine AT (AD ?_)
    refine AZ rfl (.tmp rfl .n) ?_
    intro w1 hS;refine⟨congrArg Value.bool ?_,hS.Am⟩;rw [hI13,Bg.E5 (d:= []) hI11 hk,Bg.F5,c3];rfl
   have c3p:=kz c3
   refine Aa ?_
   refine AB (.t4 4 45 46 47) ?_
   refine AA (Gs (Gm rfl (Gt (BH rfl Tryz.underlying9 rfl) (Gm rfl (Gn (.t6 4 45 46 47 55 56) (Ae ?_))))))
   refine Bo (.t6 56 4 45 46 47 55) ?_
   refine CQ (fun(i:Int)=>0≤i∧i≤(((qs ++ [l.now]).getD k.toNat []).length:Int)∧Bg.F5 ((qs ++ [l.now]).getD k.toNat [])=(((qs ++ [l.now]).getD k.toNat []).drop i.toNat).all Bg.Fg) (fun(i:Int)=>((((qs ++ [l.now]).getD k.toNat []).length:Int) - i).toNat) (fun(i:Int)=> [(56, .int .i64 i)]) (fun(i:Int)=> []) (0) ?_ rfl rfl (fun i hI2=>?_)
   · exact⟨by omega,by omega,by rw [Bg.F5,c3];rfl⟩
   obtain⟨hI21,hI22,hI23⟩:=hI2
   refine Gs (Gt (A8 rfl rfl) (AR (AA (Ap ?_))))
   refine Gc (fun c4=>?_) (fun c4=>?_)
   ·
    have c4p:=kz c4
    refine Aa ?_
    refine AB (.t6 4 45 46 47 55 56) ?_
    refine AA (Ap (Ae (Gs (Gm rfl (Ga rfl (Gn (.t7 4 5 45 46 47 55 56) (Gs ?_)))))))
    refine Gm rfl (Gm rfl ?_)
    refine Gt (Bm Tryz.underlying9 rfl rfl (by omega) (by omega)) ?_
    refine BA rfl Zs (.c rfl .n) (fun w hS=>Gv _ w) ?_
    refine Gt (BQ rfl) (Gn (.t7 4 45 46 47 55 56 63) ?_)
    refine Gc (fun c5=>?_) (fun c5=>?_)
    ·
     have c5p:=kz c5
     refine Gs (Ga rfl (Gn (.t1 2) (Ab (AT (AD (AD (AT ?_)))))))
     refine AT (AD (AD (AT (AD ?_))))
     refine AZ rfl (.tmp rfl .n) ?_
     intro w1 hS;refine⟨congrArg Value.bool ?_,hS.Am⟩;rw [hI13,Bg.E5 (d:= []) hI11 hk,hI23,Bg.E5 (d:=0) hI21 (by omega),show Bg.Fg _=false from by simpa using c5];rfl
    have c5p:=kz c5
    refine Aa ?_
    refine AB (.t6 4 45 46 47 55 56) ?_
    refine AV (AA (AJ ?_))
    refine Gt (Aw rfl rfl (IntWalk.i64_in _ (by omega))) ?_
    refine Gm rfl ?_
    refine AR (AB (.t6 4 45 46 47 55 56) ?_)
    refine Bx (i+1) ?_ ?_ (.t6 56 4 45 46 47 55) (.refl _)
    · exact⟨by omega,by omega,by rw [hI23,Bg.E5 (d:=0) hI21 (by omega),show Bg.Fg _=true from by simpa using c5];rfl⟩
    · omega
   have c4p:=kz c4
   refine Ba (AW (AW (Af ?_)))
   refine AB (.t3 45 46 47) ?_
   refine AV (AA (AJ ?_))
   refine Gt (Aw rfl rfl (IntWalk.i64_in _ (by omega))) ?_
   refine Gm rfl ?_
   refine AR (AB (.t3 45 46 47) ?_)
   refine Bx (k+1) ?_ ?_ (.t3 47 45 46) (.refl _)
   · exact⟨by omega,by omega,by rw [hI13,Bg.E5 (d:= []) hI11 hk,hI23,show i.toNat=((qs ++ [l.now]).getD k.toNat []).length from by omega,List.drop_length];rfl⟩
   · omega
  have c2p:=kz c2
  have hk:¬ k < ((qs ++ [l.now]).length:Int):=by simp only [List.length_append,List.length_cons,List.length_nil] at *;omega
  refine Ba (AW (AW (Af ?_)))
  refine AB (.nil _) ?_
  refine AA (Gs (Ga rfl (AR (AA (Ab ?_)))))
  refine AZ rfl (.tmp rfl .n) ?_
  intro w1 hS;refine⟨congrArg Value.bool ?_,hS.Am⟩;rw [hI13,show k.toNat=(qs ++ [l.now]).length from by omega,List.drop_length];rfl
 ·
  refine Fv A7 DZ rfl Tryz.underlying52 Em RX rfl (by decide) (by decide) rfl rfl (fun b3=>?_)
  refine Bp rfl ⟨?_,?_⟩
  · exact(Po rfl (AE rfl) rfl rfl (Pk (Pk (Po rfl (AG rfl FW .m1 BG.l3 rfl rfl) rfl rfl (Po rfl (Ah FN rfl) rfl rfl Ar)))))
  refine An 2 rfl (by kernel_rfl) ?_
  refine BF rfl Ut (.c rfl .n) .n (Bv _ _ (by first | assumption | omega)) (fun w hS=>(Kn.I0 r0) w hS) (fun v6 B hv=>?_)
  obtain⟨y7,rfl,y8,rfl⟩:=hv
  refine Bp rfl ⟨?_,?_⟩
  · exact(Po rfl (AE rfl) rfl rfl (Po rfl (AG rfl CP .m2 BG.l0 rfl rfl) rfl rfl (Po rfl (Ah JZ rfl) rfl rfl (Pk (Pk Ar)))))
  refine An 6 rfl (by kernel_rfl) ?_
  refine Cd DZ rfl Tryz.underlying52 Em RX rfl Ws (by decide) (by decide) rfl rfl (fun w hS=>Src.Dz Tryz.underlying52 ((Kn.own .m1) w hS)) (by(try dsimp only);omega) (fun _=> .h) (fun h10 h10l h10z=>?_)
  refine Bp rfl ⟨?_,?_⟩
  · exact(Po rfl (AE rfl) rfl rfl (Pk (Pk (Pk (Pk Ar)))))
  refine Pf 7 rfl (Av rfl Tryz.underlying52 rfl) ?_
  refine A4 (by kernel_rfl) ?_
  refine AB (.t3 45 46 47) ?_
  refine AA (Ae ?_)
  refine Bo (.t3 47 45 46) ?_
  refine CQ (fun(k:Int)=>0≤k∧k≤((qs ++ [l.now]).length:Int)∧Bg.Bb l qs=((qs ++ [l.now]).drop k.toNat).all Bg.F5) (fun(k:Int)=>(((qs ++ [l.now]).length:Int) - k).toNat) (fun(k:Int)=> [(47, .int .i64 k)]) (fun(k:Int)=> []) (0) ?_ rfl rfl (fun k hI1=>?_)
  · exact⟨by omega,by omega,by rw [Bg.Bb,show Bg.JI l=false from c1];rfl⟩
  obtain⟨hI11,hI12,hI13⟩:=hI1
  refine Gs (Gt (A8 rfl rfl) (AR (AA (Ap ?_))))
  refine Gc (fun c6=>?_) (fun c6=>?_)
  ·
   have c6p:=kz c6
   have hk:k < ((qs ++ [l.now]).length:Int):=by simp only [List.length_append,List.length_cons,List.length_nil] at *;omega
   have hk7:((qs ++ [l.now]).length:Int)≤7:=by simp only [List.length_append,List.length_cons,List.length_nil] at *;omega
   refine Aa ?_
   refine AB (.t3 45 46 47) ?_
   refine AA (Ap (Ae (Gs ?_)))
   refine Gt (Br JU (by decide) (Kn.own .m0) rfl rfl (by omega) (by simp only [List.length_append,List.length_cons,List.length_nil] at *;omega)) ?_
   refine Gt (Dj rfl CP (Kn.own .m0) (by omega)) ?_
   refine Ga rfl (Gn (.t4 4 45 46 47) (CB (Gm rfl (Gt (BH rfl Tryz.underlying9 rfl) (Gt (Ck rfl rfl) (Gn (.t5 4 45 46 47 53) ?_))))))
   refine Gc (fun c7=>?_) (fun c7=>?_)
   ·
    refine Gs (Ga rfl (Gn (.t1 2) (Ab (AD (AT (AD (AD ?_)))))))
    refine AT (AD ?_)
    refine AZ rfl (.tmp rfl .n) ?_
    intro w1 hS;refine⟨congrArg Value.bool ?_,hS.Am⟩;rw [hI13,Bg.E5 (d:= []) hI11 hk,Bg.F5,c7];rfl
   have c7p:=kz c7
   refine Aa ?_
   refine AB (.t4 4 45 46 47) ?_
   refine AA (Gs (Gm rfl (Gt (BH rfl Tryz.underlying9 rfl) (Gm rfl (Gn (.t6 4 45 46 47 55 56) (Ae ?_))))))
   refine Bo (.t6 56 4 45 46 47 55) ?_
   refine CQ (fun(i:Int)=>0≤i∧i≤(((qs ++ [l.now]).getD k.toNat []).length:Int)∧Bg.F5 ((qs ++ [l.now]).getD k.toNat [])=(((qs ++ [l.now]).getD k.toNat []).drop i.toNat).all Bg.Fg) (fun(i:Int)=>((((qs ++ [l.now]).getD k.toNat []).length:Int) - i).toNat) (fun(i:Int)=> [(56, .int .i64 i)]) (fun(i:Int)=> []) (0) ?_ rfl rfl (fun i hI2=>?_)
   · exact⟨by omega,by omega,by rw [Bg.F5,c7];rfl⟩
   obtain⟨hI21,hI22,hI23⟩:=hI2
   refine Gs (Gt (A8 rfl rfl) (AR (AA (Ap ?_))))
   refine Gc (fun c8=>?_) (fun c8=>?_)
   ·
    have c8p:=kz c8
    refine Aa ?_
    refine AB (.t6 4 45 46 47 55 56) ?_
    refine AA (Ap (Ae (Gs (Gm rfl (Ga rfl (Gn (.t7 4 5 45 46 47 55 56) (Gs ?_)))))))
    refine Gm rfl (Gm rfl ?_)
    refine Gt (Bm Tryz.underlying9 rfl rfl (by omega) (by omega)) ?_
    refine BA rfl Zs (.c rfl .n) (fun w hS=>Gv _ w) ?_
    refine Gt (BQ rfl) (Gn (.t7 4 45 46 47 55 56 63) ?_)
    refine Gc (fun c9=>?_) (fun c9=>?_)
    ·
     have c9p:=kz c9
     refine Gs (Ga rfl (Gn (.t1 2) (Ab (AT (AD (AD (AT ?_)))))))
     refine AT (AD (AD (AT (AD ?_))))
     refine AZ rfl (.tmp rfl .n) ?_
     intro w1 hS;refine⟨congrArg Value.bool ?_,hS.Am⟩;rw [hI13,Bg.E5 (d:= []) hI11 hk,hI23,Bg.E5 (d:=0) hI21 (by omega),show Bg.Fg _=false from by simpa using c9];rfl
    have c9p:=kz c9
    refine Aa ?_
    refine AB (.t6 4 45 46 47 55 56) ?_
    refine AV (AA (AJ ?_))
    refine Gt (Aw rfl rfl (IntWalk.i64_in _ (by omega))) ?_
    refine Gm rfl ?_
    refine AR (AB (.t6 4 45 46 47 55 56) ?_)
    refine Bx (i+1) ?_ ?_ (.t6 56 4 45 46 47 55) (.refl _)
    · exact⟨by omega,by omega,by rw [hI23,Bg.E5 (d:=0) hI21 (by omega),show Bg.Fg _=true from by simpa using c9];rfl⟩
    · omega
   have c8p:=kz c8
   refine Ba (AW (AW (Af ?_)))
   refine AB (.t3 45 46 47) ?_
   refine AV (AA (AJ ?_))
   refine Gt (Aw rfl rfl (IntWalk.i64_in _ (by omega))) ?_
   refine Gm rfl ?_
   refine AR (AB (.t3 45 46 47) ?_)
   refine Bx (k+1) ?_ ?_ (.t3 47 45 46) (.refl _)
   · exact⟨by omega,by omega,by rw [hI13,Bg.E5 (d:= []) hI11 hk,hI23,show i.toNat=((qs ++ [l.now]).getD k.toNat []).length from by omega,List.drop_length];rfl⟩
   · omega
  have c6p:=kz c6
  have hk:¬ k < ((qs ++ [l.now]).length:Int):=by simp only [List.length_append,List.length_cons,List.length_nil] at *;omega
  refine Ba (AW (AW (Af ?_)))
  refine AB (.nil _) ?_
  refine AA (Gs (Ga rfl (AR (AA (Ab ?_)))))
  refine AZ rfl (.tmp rfl .n) ?_
  intro w1 hS;refine⟨congrArg Value.bool ?_,hS.Am⟩;rw [hI13,show k.toNat=(qs ++ [l.now]).length from by omega,List.drop_length];rfl
theorem Ke (b:Nat)(V:AL)(i:Int)(hi:0≤i∧i < 4):JO Tryz.prog 21 #[.pointer (some ⟨b,0,none⟩), .int .i64 i] [Ac.box b 101 (AL.enc V)] (fun v B=>v = .tuple #[.int .i64 (B9 (V.Ao.at i)).1, .int .i64 (B9 (V.Ao.at i)).2]∧B = [Ac.box b 101 (AL.enc V)]):=by
 intro w hS0
 refine Ak _ _ Tryz.func21 rfl rfl rfl (hS0) ?_
 refine Gs (Ga rfl (Ga rfl (Gn (.t2 0 1) (CB (Gm rfl (Gt (EM Tryz.underlying37 rfl) (Gm rfl ?_)))))))
 refine C7 (t:=8) rfl rfl rfl (AE rfl) ?_
 refine C7 (t:=8) rfl rfl rfl (A8 rfl rfl) ?_
 refine Gt (Cm rfl rfl) (Gm rfl (BZ 12 rfl rfl (fun q=>AE rfl) (BZ 12 rfl rfl (fun q=>CI (cF rfl q) rfl) ?_)))
 refine Gt (BS rfl rfl (fun h=>by rw [h];rfl)) ?_
 refine Gm rfl (BZ 16 rfl rfl (fun q=>AE rfl) (BZ 16 rfl rfl (fun q=>AE rfl) (BZ 16 rfl rfl (fun q=>BV (cF rfl q)) (BZ 16 rfl rfl (fun q=>Ah Ft (cF rfl q)) ?_))))
 refine BZ 16 rfl rfl (fun q=>by have q1:=q;(try simp at q1);exact AQ NX (cF rfl q) (cF rfl q) (by first | omega | exact hi.1 | exact hi.2) (by first | omega | exact hi.1 | exact hi.2)) ?_
 refine BZ 16 rfl rfl (fun q=>Ah JK (cF rfl q)) ?_
 refine BZ 16 rfl rfl (fun q=>by have q1:=q;(try simp at q1);exact AG (cF rfl q) A5 .m0 ((AL.l1.comp (AU.ar (n:=4) A2.fl (by first | omega | exact hi))).comp A2.l0) rfl rfl) ?_
 refine BZ 16 rfl rfl (fun q=>Ce (cF rfl q) rfl) ?_
 refine Gt (BS rfl rfl (fun h=>by rw [h];rfl)) ?_
 refine Gn (.t3 0 1 25) ?_
 refine Gc (fun c1=>?_) (fun c1=>?_)
 ·
  have c1p:=kz c1
  refine CB (Gm rfl (Gt (EM Tryz.underlying37 rfl) (Gm rfl ?_)))
  refine C7 (t:=28) rfl rfl rfl (AE rfl) ?_
  refine C7 (t:=28) rfl rfl rfl (A8 rfl rfl) ?_
  refine Gt (Cm rfl rfl) (Gm rfl (BZ 32 rfl rfl (fun q=>AE rfl) (BZ 32 rfl rfl (fun q=>CI (cF rfl q) rfl) ?_)))
  refine Gt (BS rfl rfl (fun h=>by rw [h];rfl)) ?_
  refine Gn (.t3 0 1 35) ?_
  refine DD rfl (by rw [Bool.or_eq_false_iff,decide_eq_false_iff_not,decide_eq_false_iff_not];omega) ?_
  refine Aa ?_
  refine AB (.t2 0 1) ?_
  refine AA (Gs (Gm rfl (Gm rfl (Gt (BV rfl) (Gt (Ah Ft rfl) ?_)))))
  refine Gt (AQ NX rfl rfl (by first | omega | exact hi.1 | exact hi.2) (by first | omega | exact hi.1 | exact hi.2)) ?_
  refine Gt (Ah JK rfl) ?_
  refine Gt (AG rfl A5 .m0 ((AL.l1.comp (AU.ar (n:=4) A2.fl (by first | omega | exact hi))).comp A2.l0) rfl rfl) ?_
  refine Ga rfl (Ga rfl (Gn (.t2 4 5) (Ab (AD ?_))))
  refine AZ rfl (.tmp rfl (.tmp rfl .n)) ?_
  intro w1 hS
  have hS:=(hS.perm (Ax.perm (.c .h .n))).A1
  have hq:B9 (V.Ao.at i)=_:=if_neg (by rw [decide_eq_true_eq];rcases c1p with (h | h) | h<;>first | omega | exact h)
  refine⟨_,⟨?gv1,rfl⟩,hS⟩
  case gv1=>rw [hq];rfl
 have c1p:=kz c1
 refine Aa ?_
 refine AB (.t2 0 1) ?_
 refine AA (Ap ?_)
 refine BE (N:=9) [0,0,1,5,15,31,63,0,255] mix (by kernel_rfl) rfl ?_
 refine Pf 0 rfl (AE rfl) (Pf 1 rfl (AE rfl) (Pf 2 rfl (BV rfl) (Pf 3 rfl (Ah Ft rfl) ?_)))
 refine Pf 4 rfl (AQ NX rfl rfl (by first | omega | exact hi.1 | exact hi.2) (by first | omega | exact hi.1 | exact hi.2)) ?_
 refine Pf 5 rfl (Ah IC rfl) ?_
 refine Pf 6 rfl (AG rfl A5 .m0 ((AL.l1.comp (AU.ar (n:=4) A2.fl (by first | omega | exact hi))).comp A2.l1) rfl rfl) ?_
 refine Pf 7 rfl (A0 rfl) (Pf 8 rfl (A0 rfl) ?_)
 refine A4 (by kernel_rfl) ?_
 refine AB (.t2 4 5) ?_
 refine AA (Ab ?_)
 refine AZ rfl (.tmp rfl (.tmp rfl .n)) ?_
 intro w1 hS
 have hS:=(hS.perm (Ax.perm (.c .h .n))).A1
 have hq:B9 (V.Ao.at i)=_:=if_pos (decide_eq_true c1p.2)
 refine⟨_,⟨?gv2,rfl⟩,hS⟩
 case gv2=>rw [hq];rfl
theorem Ic (s:Aq)(hs:s.length≤100000000)(w:World):Eh Tryz.prog 46 #[BU s] w fun v w'=>v = .bool (AF.Ea s)∧CA w w':=by
 refine Ak [] [] Tryz.func46 rfl rfl rfl (St.start w []) ?_
 refine Gs (Ga rfl (Gn (.t1 0) (CB (Gm rfl (Gt (BH rfl Tryz.underlying9 rfl) (Gm rfl (Gn (.t3 0 5 6) ?_)))))))
 refine Ae ?_
 refine Bo (.t3 6 0 5) ?_
 refine CQ (fun(k:Int)=>0≤k∧k≤(s.length:Int)∧AF.Hg s 0=AF.Hg s k.toNat) (fun(k:Int)=>((s.length:Int) - k).toNat) (fun(k:Int)=> [(6, .int .i64 k)]) (fun(k:Int)=> []) (0) ?_ rfl rfl (fun k hI1=>?_)
 · exact⟨by omega,by omega,rfl⟩
 obtain⟨hI11,hI12,hI13⟩:=hI1
 refine Gs (Gt (A8 rfl rfl) (AR (AA (Ap ?_))))
 refine Gc (fun c1=>?_) (fun c1=>?_)
 ·
  have c1p:=kz c1
  have hst:=AF.VF (s:=s) hI11 (by omega)
  refine Aa ?_
  refine AB (.t3 0 5 6) ?_
  refine AA (Ap (Ae (Gs (Gm rfl (Ga rfl (Gn (.t4 0 3 5 6) (Gs ?_)))))))
  refine Gm rfl (Gm rfl ?_)
  refine Gt (Bm Tryz.underlying9 rfl rfl (by omega) (by omega)) ?_
  refine Gt (A8 rfl rfl) (Gm rfl (BZ 13 rfl rfl (fun q=>AE rfl) (BZ 13 rfl rfl (fun q=>AE rfl) ?_)))
  refine BZ 13 rfl rfl (fun q=>by have q1:=q;(try simp at q1);exact Bm Tryz.underlying9 (cF rfl q) (cF rfl q) (by omega) (by omega)) ?_
  refine BZ 13 rfl rfl (fun q=>Ck (cF rfl q) rfl) ?_
  refine Gt (BS rfl rfl (fun h=>by rw [h];rfl)) ?_
  refine Gn (.t4 0 5 6 18) ?_
  refine Gc (fun c2=>?_) (fun c2=>?_)
  ·
   rw [show AF.low (s.getD k.toNat 0)=true from c2] at hst
   refine Gs (Ga rfl (Gn (.t1 2) (Ab (AT (AD (AD (AT ?_)))))))
   refine AD ?_
   refine AZ rfl (.tmp rfl .n) ?_
   intro w1 hS;refine⟨?_,hS.Am⟩;exact congrArg Value.bool (by rw [AF.Ea,hI13,hst];rfl)
  have c2p:=kz c2
  rw [show AF.low (s.getD k.toNat 0)=false from c2] at hst
  refine Aa ?_
  refine AB (.t3 0 5 6) ?_
  refine AV (AA (AJ ?_))
  refine Gt (Aw rfl rfl (IntWalk.i64_in _ (by omega))) ?_
  refine Gm rfl ?_
  refine AR (AB (.t3 0 5 6) ?_)
  refine Bx (k+1) ?_ ?_ (.t3 6 0 5) (.refl _)
  · exact⟨by omega,by omega,by rw [hI13,hst];rfl⟩
  · omega
 have c1p:=kz c1
 obtain rfl:k=(s.length:Int):=by omega
 rw [AF.XH] at hI13
 refine Ba (AW (AW (Af ?_)))
 refine AB (.t1 0) ?_
 refine AA (Gs (Gm rfl (Gt (BH rfl Tryz.underlying9 rfl) (Gt (CI rfl rfl) (Gm rfl (Bl 23 rfl rfl (fun q=>AE rfl) (Bl 23 rfl rfl (fun q=>BH rfl Tryz.underlying9 (Bf rfl q)) ?_)))))))
 refine Bl 23 rfl rfl (fun q=>IK (Bf rfl q) rfl) (Gt (BJ rfl rfl (fun h=>h)) (Gm rfl (Bl 28 rfl rfl (fun q=>AE rfl) (Bl 28 rfl rfl (fun q=>D1 (Bf rfl q) rfl) (Gt (BJ rfl rfl (fun h=>h)) (Gm rfl (Bl 32 rfl rfl (fun q=>AE rfl) ?_)))))))
 refine Bl 32 rfl rfl (fun q=>D1 (Bf rfl q) rfl) (Gt (BJ rfl rfl (fun h=>h)) (Ga rfl (Gn (.t1 2) (Ab ?_))))
 refine AZ rfl (.tmp rfl .n) ?_
 intro w1 hS;refine⟨?_,hS.Am⟩;exact congrArg Value.bool (by rw [AF.Ea,hI13];simp only [Bool.true_and];rfl)
theorem Ki (b:Nat)(V:AL)(ls:Vector BI 4)(ev:List Ing.Event)(a:B0)(r:Bn)(hF:(A3 V ls ev).IH):JO Tryz.prog 42 #[.pointer (some ⟨b,0,none⟩), .agg a.enc.toArray, .agg r.enc.toArray] [Ac.box b 101 (AL.enc V),Ac.Dv (CG 9 (AL.Ao V) ls)] (fun v B=>v = .bool true∧B = [Ac.box b 101 (AL.enc V),Ac.Dv (CG 9 (AL.Ao V) ls)]):=by
 intro w hS0
 refine Ak _ _ Tryz.func42 rfl rfl rfl (hS0) ?_
 refine Gs ?_
 refine B5 rfl rfl rfl (fun b1=>?_)
 refine B5 rfl rfl rfl (fun b2=>?_)
 refine Ga rfl (Gn (.t1 0) (Gs (Gm rfl ?_)))
 refine Ai rfl ca (.c rfl .n) (.c (.t (.t .h)) .n) (Qa _ _) (fun v1 B hv=>?_)
 obtain⟨rfl,rfl⟩:=hv
 refine BD rfl L6 rfl (fun b3=>?_)
 refine AS (AK (AU.id AH.fl.len AH.fl.one) rfl rfl rfl D3 rfl .h) ?_
 refine Gn (.t2 0 7) (CB (Gt (AY rfl BW .m0 (AU.id AH.fl.len AH.fl.one) rfl) ?_))
 refine BA rfl Yc (.c rfl .n) (fun w hS=>Fk _ w) ?_
 refine Gt (BQ rfl) (Gn (.t3 0 7 18) ?_)
 refine DD rfl (by rw [show V.w.Bb=true from hF.home.gd];rfl) ?_
 refine Aa ?_
 refine AB (.t2 0 7) ?_
 refine AA (Gs (Gt (EU Tryz.underlying24 J8 YN rfl .nil) ?_))
 refine BD rfl YN rfl (fun b4=>?_)
 refine AS (AK (AU.id (IG Fx).len (IG Fx).one) rfl rfl rfl aA rfl .h) ?_
 refine Gn (.t3 0 7 8) (CB (Gm rfl (AR (AA (Ae ?_)))))
 refine Bo (.t4 20 0 7 8) ?_
 refine CQ (fun(k:Int)=>0≤k∧k≤4) (fun(k:Int)=>(4 - k).toNat) (fun(k:Int)=> [(20, .int .i64 k)]) (fun(k:Int)=> [Ac.box b4 24 (CH (n:=6) CX (AI.GZ (A3 V ls ev) k.toNat))]) (0) ?_ rfl rfl (fun k hI1=>?_)
 · exact⟨by omega,by omega⟩
 obtain⟨hI11,hI12⟩:=hI1
 refine Gs (Gt (A8 rfl rfl) (AR (AA (Ap ?_))))
 refine Gc (fun c1=>?_) (fun c1=>?_)
 ·
  have c1p:=kz c1
  have hk:0≤k∧k < 4:=⟨by omega,by omega⟩
  refine Aa ?_
  refine AB (.t4 0 7 8 20) ?_
  refine AA (Ap (Ae (Gs (Gm rfl (Ga rfl (Gn (.t5 0 7 8 9 20) (CB ?_)))))))
  refine Gm rfl (Gm rfl ?_)
  refine Ai rfl ay (.c rfl (.c rfl .n)) (.c (.t (.t .h)) (.c (.t (.t (.t (.t .h)))) .n)) (LU b V ls k hk (hF.live.wait hk.1 hk.2)) (fun v2 B hv=>?_)
  obtain⟨y3,rfl,y4,rfl⟩:=hv
  refine BA rfl Yw (.c rfl .n) (fun w hS=>FF _ w) ?_
  refine Gt (BQ rfl) (Gm rfl (BZ 28 rfl rfl (fun q=>AE rfl) (BZ 28 rfl rfl (fun q=>AE rfl) ?_)))
  refine Q8 28 rfl (fun c2=>?_) (fun c2=>?_)
  · exact absurd c2 (by rw [U6 hF hk.1 hk.2 y4];decide)
  have c2p:=kz c2
  refine Kt (t:=28) rfl (by first | rfl | exact cY rfl c2) rfl ay (.c (Bf rfl (by rw [c2];rfl)) (.c (Bf rfl (by rw [c2];rfl)) .n)) (.c .h (.c .h .n)) (LU b V ls k hk (hF.live.wait hk.1 hk.2)) (fun v6 B hv=>?_)
  obtain⟨y7,rfl,y8,rfl⟩:=hv
  refine C7 (t:=28) rfl rfl rfl (XK As.l4 Tryz.underlying65 rfl DN rfl rfl) ?_
  refine Gt (Cm rfl rfl) (Gm rfl (BZ 34 rfl rfl (fun q=>AE rfl) (BZ 34 rfl rfl (fun q=>AE rfl) ?_)))
  refine Q8 34 rfl (fun c3=>?_) (fun c3=>?_)
  · exact absurd c3 (by rw [Xi hF hk.1 hk.2];decide)
  have c3p:=kz c3
  refine Kt (t:=34) rfl (by first | rfl | exact cY rfl c3) rfl dN (.c (Bf rfl (by rw [c3];rfl)) (.c (Bf rfl (by rw [c3];rfl)) .n)) (.c .h (.c .h .n)) (RO b V ls k hk (hF.live.queue hk.1 hk.2)) (fun v10 B hv=>?_)
  obtain⟨y11,rfl,y12,rfl⟩:=hv
  refine VQ (t:=34) rfl rfl rfl ah (.c rfl .n) (fun w hS=>Ja _ _ w ((Kn.own .m2) w hS)) ?_
  refine C7 (t:=34) rfl rfl rfl (BQ rfl) ?_
  refine Gt (Cm rfl rfl) (Gn (.t6 0 7 8 9 20 40) ?_)
  refine DD rfl (by rw [V0 hF hk.1 hk.2 y12];rfl) ?_
  refine Aa ?_
  refine AB (.t5 0 7 8 9 20) ?_
  refine AA (Gs (Gm rfl (Gm rfl ?_)))
  refine Ai rfl bc (.c rfl (.c rfl .n)) (.c .h .n) (Ke b V k hk) (fun v14 B hv=>?_)
  obtain⟨rfl,rfl⟩:=hv
  refine Gm rfl (Gt (AN rfl rfl) (Gt (AN rfl rfl) (Ga rfl (Ga rfl (Gn (.t6 0 7 8 10 11 20) (CB (Gm rfl ?_)))))))
  refine Gt (Ce rfl rfl) (Gn (.t6 0 7 8 11 20 48) ?_)
  refine Gc (fun c4=>?_) (fun c4=>?_)
  ·
   have c4p:=kz c4
   have hp:=c4p
   refine Ba (AW (Af ?_))
   refine AB (.t4 0 7 8 20) ?_
   refine AA (AJ ?_)
   refine Gt (Aw rfl rfl (IntWalk.i64_in _ (by first | omega | exact hk.1 | exact hk.2))) ?_
   refine Gm rfl ?_
   refine AR (AB (.t4 0 7 8 20) ?_)
   refine CJ (.c (.t (.t (.t (.t (.t .h))))) (.c (.t (.t (.t (.t (.t .h))))) (.c .h (.c (.t (.t (.t (.t .h)))) (.c (.t (.t (.t (.t .h)))) (.c .h .n)))))) ?_
   refine Cc ?_
   refine Bx (k+1) ?_ ?_ (.t4 20 0 7 8) (by rw [Zv hk.1 hk.2 hp];exact(.refl _))
   · exact⟨by omega,by omega⟩
   · omega
  have c4p:=kz c4
  have hp:=c4p
  have hr:=VO hF hk.1 hk.2 hp
  refine Aa ?_
  refine AB (.t5 0 7 8 11 20) ?_
  refine AA (CB (Gm rfl (Gt (A8 rfl rfl) (Gm rfl (BZ 51 rfl rfl (fun q=>AE rfl) (BZ 51 rfl rfl (fun q=>CI (cF rfl q) rfl) ?_))))))
  refine Gt (BS rfl rfl (fun h=>by rw [h];rfl)) ?_
  refine Gm rfl (BZ 55 rfl rfl (fun q=>AE rfl) ?_)
  refine BZ 55 rfl rfl (fun q=>by have q1:=q;(try simp at q1);exact AQ QT rfl (cF rfl q) (by first | omega | exact hk.1 | exact hk.2) (by first | omega | exact hk.1 | exact hk.2)) ?_
  refine BZ 55 rfl rfl (fun q=>by have q1:=q;(try simp at q1);exact AG (cF rfl q) DN .m5 ((AU.id (IG Fx).len (IG Fx).one).comp (AU.ar (n:=6) Fx (by first | omega | exact hk))) rfl rfl) ?_
  refine Gt (BS rfl rfl (fun h=>by rw [h];rfl)) ?_
  refine Gm rfl (BZ 60 rfl rfl (fun q=>AE rfl) (BZ 60 rfl rfl (fun q=>Ah Bi rfl) ?_))
  refine BZ 60 rfl rfl (fun q=>by have q1:=q;(try simp at q1);exact AQ Cs (cF rfl q) (cF rfl q) (by first | omega | exact hk.1 | exact hk.2) (by first | omega | exact hk.1 | exact hk.2)) ?_
  refine BZ 60 rfl rfl (fun q=>Ah F8 (cF rfl q)) ?_
  refine BZ 60 rfl rfl (fun q=>by have q1:=q;(try simp at q1);exact AG (cF rfl q) DN .m6 ((AH.l2.comp (AU.ar (n:=6) Ag.fl (by first | omega | exact hk))).comp Ag.l1) rfl rfl) ?_
  refine BZ 60 rfl rfl (fun q=>BQ (cF rfl q)) ?_
  refine Gt (BS rfl rfl (fun h=>by rw [h];rfl)) ?_
  refine Gm rfl (BZ 68 rfl rfl (fun q=>AE rfl) (BZ 68 rfl rfl (fun q=>Ah Bi rfl) ?_))
  refine BZ 68 rfl rfl (fun q=>by have q1:=q;(try simp at q1);exact AQ Cs (cF rfl q) (cF rfl q) (by first | omega | exact hk.1 | exact hk.2) (by first | omega | exact hk.1 | exact hk.2)) ?_
  refine BZ 68 rfl rfl (fun q=>Ah IB (cF rfl q)) ?_
  refine BZ 68 rfl rfl (fun q=>by have q1:=q;(try simp at q1);exact AG (cF rfl q) CP .m6 ((AH.l2.comp (AU.ar (n:=6) Ag.fl (by first | omega | exact hk))).comp Ag.l0) rfl rfl) ?_
  refine N2 (t:=68) rfl rfl rfl (fun q=>by have q1:=q;(try simp at q1);exact D7 bU (.c (cF rfl q) .n) (fun w hS=>Ic _ (by have h:=hF.live.fit.Fe.be;exact Nat.le_trans (h _) (by decide)) w)) ?_
  refine BZ 68 rfl rfl (fun q=>BQ (cF rfl q)) ?_
  refine Gt (BS rfl rfl (fun h=>by rw [h];rfl)) ?_
  refine Gn (.t6 0 7 8 11 20 76) ?_
  refine DD rfl (Sx hF hk.1 hk.2 hp) ?_
  refine Aa ?_
  refine AB (.t5 0 7 8 11 20) ?_
  refine AA (Gs (Gm rfl ?_))
  refine Gt (AQ QT rfl rfl (by first | omega | exact hk.1 | exact hk.2) (by first | omega | exact hk.1 | exact hk.2)) ?_
  refine AS (AK ((AU.id (IG Fx).len (IG Fx).one).comp (AU.ar (n:=6) Fx (by first | omega | exact hk))) rfl rfl rfl J8 rfl (.t (.t (.t (.t (.t .h)))))) ?_
  refine Gn (.t5 0 7 8 11 20) (Gs (Gm rfl (AR (AA (Ae ?_)))))
  refine Bo (.t6 79 0 7 8 11 20) ?_
  refine CQ (fun(c:Int)=>0≤c∧c≤6) (fun(c:Int)=>(6 - c).toNat) (fun(c:Int)=> [(79, .int .i64 c)]) (fun(c:Int)=> []) (0) ?_ rfl rfl (fun c hI2=>?_)
  · exact⟨by omega,by omega⟩
  obtain⟨hI21,hI22⟩:=hI2
  refine Gs (Gt (A8 rfl rfl) (AR (AA (Ap ?_))))
  refine Gc (fun c5=>?_) (fun c5=>?_)
  ·
   have c5p:=kz c5
   refine Aa ?_
   refine AB (.t6 0 7 8 11 20 79) ?_
   refine AA (Ap (Ae (Gs (Gm rfl (Ga rfl (Gn (.t7 0 7 8 11 12 20 79) (Ap ?_)))))))
   refine BE (N:=23) [0,0,3,7,15,15,63,127,255,511,1023,2047,2047,8191,16383,32767,2047,2047,198655,460799,985087,2097151,4194303] mix (by kernel_rfl) rfl ?_
   refine Pf 0 rfl (AE rfl) (Pf 1 rfl (AE rfl) (Pf 2 rfl (Ce rfl rfl) (Pf 3 rfl (AE rfl) (JT 4 85 rfl rfl rfl (fun q=>AE rfl) (JT 5 85 rfl rfl rfl (fun q=>Ah Bi rfl) ?_)))))
   refine BN 6 rfl rfl (by kernel_rfl) (Jo (t:=85) rfl rfl (fun q=>by have q1:=q;(try simp at q1);exact Ge (AQ Cs (Bf rfl q) (Bf rfl q) (by first | omega | exact hk.1 | exact hk.2) (by first | omega | exact hk.1 | exact hk.2)))) ?_
   refine JT 7 85 rfl rfl rfl (fun q=>Ah F8 (Bf rfl q)) ?_
   refine BN 8 rfl rfl (by kernel_rfl) (Jo (t:=85) rfl rfl (fun q=>by have q1:=q;(try simp at q1);exact Ge (AG (Bf rfl q) DN .m6 ((AH.l2.comp (AU.ar (n:=6) Ag.fl (by first | omega | exact hk))).comp Ag.l1) rfl rfl))) ?_
   refine Pf 9 rfl (BJ rfl rfl (fun h=>h)) (Pf 10 rfl (AE rfl) (JT 11 92 rfl rfl rfl (fun q=>AE rfl) (JT 12 92 rfl rfl rfl (fun q=>Ah Bi rfl) ?_)))
   refine BN 13 rfl rfl (by kernel_rfl) (Jo (t:=92) rfl rfl (fun q=>by have q1:=q;(try simp at q1);exact Ge (AQ Cs (Bf rfl q) (Bf rfl q) (by first | omega | exact hk.1 | exact hk.2) (by first | omega | exact hk.1 | exact hk.2)))) ?_
   refine JT 14 92 rfl rfl rfl (fun q=>Ah IB (Bf rfl q)) ?_
   refine BN 15 rfl rfl (by kernel_rfl) (Jo (t:=92) rfl rfl (fun q=>by have q1:=q;(try simp at q1);exact Ge (AG (Bf rfl q) CP .m6 ((AH.l2.comp (AU.ar (n:=6) Ag.fl (by first | omega | exact hk))).comp Ag.l0) rfl rfl))) ?_
   refine JT 16 92 rfl rfl rfl (fun q=>AE rfl) (JT 17 92 rfl rfl rfl (fun q=>Ah Bi rfl) ?_)
   refine BN 18 rfl rfl (by kernel_rfl) (Jo (t:=92) rfl rfl (fun q=>by have q1:=q;(try simp at q1);exact Ge (AQ Cs (Bf rfl q) (Bf rfl q) (by first | omega | exact hk.1 | exact hk.2) (by first | omega | exact hk.1 | exact hk.2)))) ?_
   refine JT 19 92 rfl rfl rfl (fun q=>Ah IB (Bf rfl q)) ?_
   refine BN 20 rfl rfl (by kernel_rfl) (Jo (t:=92) rfl rfl (fun q=>by have q1:=q;(try simp at q1);exact Ge (AG (Bf rfl q) CP .m6 ((AH.l2.comp (AU.ar (n:=6) Ag.fl (by first | omega | exact hk))).comp Ag.l0) rfl rfl))) ?_
   refine JT 21 92 rfl rfl rfl (fun q=>Bt (Bf rfl q) (Bf rfl q)) (Pf 22 rfl (BJ rfl rfl (fun h=>h)) ?_)
   refine A4 (by kernel_rfl) ?_
   refine AB (.t7 0 7 8 11 20 79 104) ?_
   refine AA ?_
   refine DD rfl (Vw hF hk.1 hk.2 hp hI21 (by omega)) ?_
   refine Aa ?_
   refine AB (.t6 0 7 8 11 20 79) ?_
   refine AV (AA (AJ ?_))
   refine Gt (Aw rfl rfl (IntWalk.i64_in _ (by first | omega | exact hk.1 | exact hk.2))) ?_
   refine Gm rfl ?_
   refine AR (AB (.t6 0 7 8 11 20 79) ?_)
   refine Bx (c+1) ?_ ?_ (.t6 79 0 7 8 11 20) (.refl _)
   · exact⟨by omega,by omega⟩
   · omega
  have c5p:=kz c5
  refine Ba (AW (AW (Af ?_)))
  refine AB (.t4 0 7 8 20) ?_
  refine AV (AA (AJ ?_))
  refine Gt (Aw rfl rfl (IntWalk.i64_in _ (by first | omega | exact hk.1 | exact hk.2))) ?_
  refine Gm rfl ?_
  refine AR (AB (.t4 0 7 8 20) ?_)
  refine CJ (.c (.t (.t (.t (.t (.t .h))))) (.c (.t (.t (.t (.t (.t .h))))) (.c .h (.c (.t (.t (.t (.t .h)))) (.c (.t (.t (.t (.t .h)))) (.c .h .n)))))) ?_
  refine Cc ?_
  refine Bx (k+1) ?_ ?_ (.t4 20 0 7 8) (by rw [Zz hk.1 hk.2 hp];exact(.refl _))
  · exact⟨by omega,by omega⟩
  · omega
 have c1p:=kz c1
 obtain rfl:k=4:=by omega
 refine Ba (AW (AW (Af ?_)))
 refine AB (.t2 7 8) ?_
 refine AA (CB (Ga rfl (AR (AA (Ae ?_)))))
 refine Bo (.t3 13 7 8) ?_
 refine CQ (fun(c:Int)=>2≤c∧c≤6) (fun(c:Int)=>(6 - c).toNat) (fun(c:Int)=> [(13, .int .i64 c)]) (fun(c:Int)=> []) (2) ?_ rfl rfl (fun c hI3=>?_)
 · exact⟨by omega,by omega⟩
 obtain⟨hI31,hI32⟩:=hI3
 refine CB (Gm rfl (Gt (A8 rfl rfl) (Gn (.t4 7 8 13 108) ?_)))
 refine Gc (fun c6=>?_) (fun c6=>?_)
 ·
  have c6p:=kz c6
  refine Aa ?_
  refine AB (.t3 7 8 13) ?_
  refine AA (Ap (Ae (Gs (Gm rfl (Gt (Ah Bi rfl) ?_)))))
  refine Gt (AQ Cs rfl rfl (by first | omega | exact hk.1 | exact hk.2) (by first | omega | exact hk.1 | exact hk.2)) ?_
  refine Gt (Ah F8 rfl) ?_
  refine Gt (AG rfl DN .m1 ((AH.l2.comp (AU.ar (n:=6) Ag.fl (by first | omega | exact hk))).comp Ag.l1) rfl rfl) ?_
  refine Gm rfl (Bl 116 rfl rfl (fun q=>AE rfl) ?_)
  refine Bl 116 rfl rfl (fun q=>by have q1:=q;(try simp at q1);exact AQ QT rfl (Bf rfl q) (by first | omega | exact hk.1 | exact hk.2) (by first | omega | exact hk.1 | exact hk.2)) ?_
  refine Bl 116 rfl rfl (fun q=>by have q1:=q;(try simp at q1);exact AG (Bf rfl q) DN .m0 ((AU.id (IG Fx).len (IG Fx).one).comp (AU.ar (n:=6) Fx (by first | omega | exact hk))) rfl rfl) ?_
  refine Bl 116 rfl rfl (fun q=>BQ (Bf rfl q)) (Gt (BJ rfl rfl (fun h=>h)) (Gn (.t4 7 8 13 121) ?_))
  refine DD rfl (Wj hF hI31 (by omega)) ?_
  refine Aa ?_
  refine AB (.t3 7 8 13) ?_
  refine AV (AA (AJ (Gm rfl ?_)))
  refine Gt (Aw rfl rfl (IntWalk.i64_in _ (by first | omega | exact hk.1 | exact hk.2))) ?_
  refine Ga rfl ?_
  refine AR (AB (.t3 7 8 13) ?_)
  refine Bx (c+1) ?_ ?_ (.t3 13 7 8) (.refl _)
  · exact⟨by omega,by omega⟩
  · omega
 refine Ba (AW (AW (Af ?_)))
 refine AB (.nil _) ?_
 refine AA (Gs (Ga rfl (AR (AA (Ab ?_)))))
 refine AZ rfl (.tmp rfl .n) ?_
 intro w1 hS
 have hS:=(hS.perm (Ax.perm (.c (.t (.t .h)) (.c (.t (.t (.t (.t .h)))) .n)))).A1
 exact⟨_,⟨rfl,rfl⟩,hS⟩
theorem PR  (w:World):Eh Tryz.prog 15 #[] w fun v w'=>v = .agg AH.new.enc.toArray∧CA w w':=by
 refine Ak [] [] Tryz.func15 rfl rfl rfl (St.start w []) ?_
 refine Gs ?_
 refine BD rfl L6 rfl (fun b1=>?_)
 refine AR (AA (Gs ?_))
 refine BD rfl L6 rfl (fun b2=>?_)
 refine AR (AA (CB ?_))
 refine Gt (EU Tryz.underlying23 DB Vz rfl (.cons (AU.arr (n:=6) (i:=0) B2 (by decide) (by decide)) rfl rfl rfl (.cons (AU.arr (n:=6) (i:=1) B2 (by decide) (by decide)) rfl rfl rfl (.cons (AU.arr (n:=6) (i:=2) B2 (by decide) (by decide)) rfl rfl rfl (.cons (AU.arr (n:=6) (i:=3) B2 (by decide) (by decide)) rfl rfl rfl (.cons (AU.arr (n:=6) (i:=4) B2 (by decide) (by decide)) rfl rfl rfl (.cons (AU.arr (n:=6) (i:=5) B2 (by decide) (by decide)) rfl rfl rfl .nil))))))) ?_
 refine Gt (EU Tryz.underlying24 J8 YN rfl (.cons (AU.arr (n:=6) (i:=5) Fx (by decide) (by decide)) rfl rfl rfl .nil)) ?_
 refine Gt (BC Vl Ns rfl (.cons Room.l0 rfl rfl rfl (.cons Room.l2 rfl rfl rfl (.cons Room.l3 rfl rfl rfl .nil)))) ?_
 refine Gt (EU Tryz.underlying23 DB Vz rfl (.cons (AU.arr (n:=6) (i:=0) B2 (by decide) (by decide)) rfl rfl rfl (.cons (AU.arr (n:=6) (i:=1) B2 (by decide) (by decide)) rfl rfl rfl (.cons (AU.arr (n:=6) (i:=2) B2 (by decide) (by decide)) rfl rfl rfl (.cons (AU.arr (n:=6) (i:=3) B2 (by decide) (by decide)) rfl rfl rfl (.cons (AU.arr (n:=6) (i:=4) B2 (by decide) (by decide)) rfl rfl rfl (.cons (AU.arr (n:=6) (i:=5) B2 (by decide) (by decide)) rfl rfl rfl .nil))))))) ?_
 refine Gt (BC Vl Ns rfl (.cons Room.l0 rfl rfl rfl (.cons Room.l2 rfl rfl rfl .nil))) ?_
 refine Gt (EU Tryz.underlying23 DB Vz rfl (.cons (AU.arr (n:=6) (i:=0) B2 (by decide) (by decide)) rfl rfl rfl (.cons (AU.arr (n:=6) (i:=1) B2 (by decide) (by decide)) rfl rfl rfl (.cons (AU.arr (n:=6) (i:=2) B2 (by decide) (by decide)) rfl rfl rfl (.cons (AU.arr (n:=6) (i:=3) B2 (by decide) (by decide)) rfl rfl rfl (.cons (AU.arr (n:=6) (i:=4) B2 (by decide) (by decide)) rfl rfl rfl (.cons (AU.arr (n:=6) (i:=5) B2 (by decide) (by decide)) rfl rfl rfl .nil))))))) ?_
 refine Gt (BC Vl Ns rfl (.cons Room.l0 rfl rfl rfl (.cons Room.l2 rfl rfl rfl (.cons Room.l1 rfl rfl rfl .nil)))) ?_
 refine Gt (EU Tryz.underlying23 DB Vz rfl (.cons (AU.arr (n:=6) (i:=0) B2 (by decide) (by decide)) rfl rfl rfl (.cons (AU.arr (n:=6) (i:=1) B2 (by decide) (by decide)) rfl rfl rfl (.cons (AU.arr (n:=6) (i:=2) B2 (by decide) (by decide)) rfl rfl rfl (.cons (AU.arr (n:=6) (i:=3) B2 (by decide) (by decide)) rfl rfl rfl (.cons (AU.arr (n:=6) (i:=4) B2 (by decide) (by decide)) rfl rfl rfl (.cons (AU.arr (n:=6) (i:=5) B2 (by decide) (by decide)) rfl rfl rfl .nil))))))) ?_
 refine Gt (BC Vl Ns rfl (.cons Room.l0 rfl rfl rfl (.cons Room.l2 rfl rfl rfl (.cons Room.l1 rfl rfl rfl .nil)))) ?_
 refine Gt (EU Tryz.underlying23 DB Vz rfl (.cons (AU.arr (n:=6) (i:=0) B2 (by decide) (by decide)) rfl rfl rfl (.cons (AU.arr (n:=6) (i:=1) B2 (by decide) (by decide)) rfl rfl rfl (.cons (AU.arr (n:=6) (i:=2) B2 (by decide) (by decide)) rfl rfl rfl (.cons (AU.arr (n:=6) (i:=3) B2 (by decide) (by decide)) rfl rfl rfl (.cons (AU.arr (n:=6) (i:=4) B2 (by decide) (by decide)) rfl rfl rfl (.cons (AU.arr (n:=6) (i:=5) B2 (by decide) (by decide)) rfl rfl rfl .nil))))))) ?_
 refine Gt (EU Tryz.underlying24 J8 YN rfl (.cons (AU.arr (n:=6) (i:=2) Fx (by decide) (by decide)) rfl rfl rfl .nil)) ?_
 refine Gt (BC Vl Ns rfl (.cons Room.l0 rfl rfl rfl (.cons Room.l2 rfl rfl rfl (.cons Room.l3 rfl rfl rfl (.cons Room.l1 rfl rfl rfl .nil))))) ?_
 refine Gt (EU Tryz.underlying23 DB Vz rfl (.cons (AU.arr (n:=6) (i:=0) B2 (by decide) (by decide)) rfl rfl rfl (.cons (AU.arr (n:=6) (i:=1) B2 (by decide) (by decide)) rfl rfl rfl (.cons (AU.arr (n:=6) (i:=2) B2 (by decide) (by decide)) rfl rfl rfl (.cons (AU.arr (n:=6) (i:=3) B2 (by decide) (by decide)) rfl rfl rfl (.cons (AU.arr (n:=6) (i:=4) B2 (by decide) (by decide)) rfl rfl rfl (.cons (AU.arr (n:=6) (i:=5) B2 (by decide) (by decide)) rfl rfl rfl .nil))))))) ?_
 refine Gt (BC Vl Ns rfl (.cons Room.l0 rfl rfl rfl (.cons Room.l2 rfl rfl rfl .nil))) ?_
 refine Xm (cs:=CH (n:=6) Room.enc (Vector.replicate 6 default)) (cs':=CH (n:=6) Room.enc AH.Ti) rfl Tryz.underlying95 Q1 Ns (by decide) (by decide) (by kernel_rfl) (.cons (AU.arr (n:=6) (i:=0) Room.fl (by decide) (by decide)) rfl rfl rfl (.cons (AU.arr (n:=6) (i:=1) Room.fl (by decide) (by decide)) rfl rfl rfl (.cons (AU.arr (n:=6) (i:=2) Room.fl (by decide) (by decide)) rfl rfl rfl (.cons (AU.arr (n:=6) (i:=3) Room.fl (by decide) (by decide)) rfl rfl rfl (.cons (AU.arr (n:=6) (i:=4) Room.fl (by decide) (by decide)) rfl rfl rfl (.cons (AU.arr (n:=6) (i:=5) Room.fl (by decide) (by decide)) rfl rfl rfl .nil)))))) rfl (fun b3=>?_)
 refine Gt (Av rfl Tryz.underlying95 rfl) (Gm rfl (Gn (.t5 0 1 20 21 22) (Ae ?_)))
 refine Bo (.t5 22 0 1 20 21) ?_
 refine Bh (.t .h) ?_
 refine CQ (fun(k:Int)=>0≤k∧k≤6) (fun(k:Int)=>(6 - k).toNat) (fun(k:Int)=> [(22, .int .i64 k)]) (fun(k:Int)=> [Ac.box b2 35 (AH.enc (AH.TJ k.toNat))]) (0) ?_ rfl rfl (fun k hI1=>?_)
 · exact⟨Int.le_refl _,by omega⟩
 obtain⟨hI11,hI12⟩:=hI1
 refine Gs (Gt (A8 rfl rfl) (AR (AA (Ap ?_))))
 refine Gc (fun c1=>?_) (fun c1=>?_)
 ·
  have c1p:=kz c1
  dsimp only at c1p
  refine Aa ?_
  refine AB (.t5 0 1 20 21 22) ?_
  refine AA (Ap (Ae (Gs (Gm rfl ?_))))
  refine Gt (Br dU (by decide) (Kn.own .m1) rfl rfl (by omega) (by dsimp only;omega)) ?_
  refine Gt (OG rfl Nu (by decide) Room.fl (Kn.own .m1) (by simp;omega)) ?_
  refine BD rfl Ns rfl (fun b4=>?_)
  refine Ga rfl ?_
  refine AS (AK (AU.id Room.fl.len Room.fl.one) rfl rfl rfl Q1 rfl .h) ?_
  refine Gn (.t7 0 1 2 3 20 21 22) (AJ (Gm rfl (Gt (AY rfl Nu .m0 (AU.id Room.fl.len Room.fl.one) rfl) (Gt (Ah G2 rfl) ?_))))
  refine Gt (AQ OO rfl rfl (by omega) (by omega)) ?_
  refine AS (AK (AH.l0.comp (AU.ar (n:=6) Room.fl (by omega))) rfl rfl rfl Q1 rfl (.t .h)) ?_
  refine AR (AB (.t5 0 1 20 21 22) ?_)
  refine AV (AA (AJ ?_))
  refine Gt (Aw rfl rfl (IntWalk.i64_in _ (by omega))) ?_
  refine Gm rfl ?_
  refine AR (AB (.t5 0 1 20 21 22) ?_)
  refine Bx (k+1) ?_ ?_ (.t5 22 0 1 20 21) (by rw [AH.VU (by omega)];exact(.cons _ (.refl _)))
  · exact⟨by omega,by omega⟩
  · omega
 have c1p:=kz c1
 dsimp only at c1p
 obtain rfl:k=6:=by omega
 refine Ba (AW (AW (Af ?_)))
 refine AB (.t2 0 1) ?_
 refine AA (CB (Gt (BC Qn KW rfl (.cons Al.l0 rfl rfl rfl (.cons Al.l1 rfl rfl rfl .nil))) (Gt (BC Qn KW rfl (.cons Al.l0 rfl rfl rfl (.cons Al.l1 rfl rfl rfl (.cons Al.l3 rfl rfl rfl .nil)))) (Gt (BC Qn KW rfl (.cons Al.l0 rfl rfl rfl (.cons Al.l1 rfl rfl rfl .nil))) (Gt (BC Qn KW rfl (.cons Al.l0 rfl rfl rfl (.cons Al.l1 rfl rfl rfl (.cons Al.l3 rfl rfl rfl .nil)))) (Gt (BC Qn KW rfl (.cons Al.l0 rfl rfl rfl (.cons Al.l2 rfl rfl rfl (.cons Al.l3 rfl rfl rfl .nil)))) (Gt (BC Qn KW rfl (.cons Al.l0 rfl rfl rfl (.cons Al.l3 rfl rfl rfl .nil))) ?_)))))))
 refine Gt (BC Qn KW rfl (.cons Al.l0 rfl rfl rfl .nil)) (Gt (BC Qn KW rfl (.cons Al.l0 rfl rfl rfl (.cons Al.l1 rfl rfl rfl (.cons Al.l4 rfl rfl rfl .nil)))) (Gt (BC Qn KW rfl (.cons Al.l0 rfl rfl rfl (.cons Al.l2 rfl rfl rfl (.cons Al.l3 rfl rfl rfl .nil)))) ?_))
 refine Xm (cs:=CH (n:=9) Al.enc (Vector.replicate 9 default)) (cs':=CH (n:=9) Al.enc AH.RG) rfl Tryz.underlying96 My KW (by decide) (by decide) (by kernel_rfl) (.cons (AU.arr (n:=9) (i:=0) Al.fl (by decide) (by decide)) rfl rfl rfl (.cons (AU.arr (n:=9) (i:=1) Al.fl (by decide) (by decide)) rfl rfl rfl (.cons (AU.arr (n:=9) (i:=2) Al.fl (by decide) (by decide)) rfl rfl rfl (.cons (AU.arr (n:=9) (i:=3) Al.fl (by decide) (by decide)) rfl rfl rfl (.cons (AU.arr (n:=9) (i:=4) Al.fl (by decide) (by decide)) rfl rfl rfl (.cons (AU.arr (n:=9) (i:=5) Al.fl (by decide) (by decide)) rfl rfl rfl (.cons (AU.arr (n:=9) (i:=6) Al.fl (by decide) (by decide)) rfl rfl rfl (.cons (AU.arr (n:=9) (i:=7) Al.fl (by decide) (by decide)) rfl rfl rfl (.cons (AU.arr (n:=9) (i:=8) Al.fl (by decide) (by decide)) rfl rfl rfl .nil))))))))) rfl (fun b5=>?_)
 refine Gt (Av rfl Tryz.underlying96 rfl) (Gm rfl (Gn (.t5 0 1 41 42 43) (Ae ?_)))
 refine Bo (.t5 43 0 1 41 42) ?_
 refine Bh (.t .h) ?_
 refine CQ (fun(k:Int)=>0≤k∧k≤9) (fun(k:Int)=>(9 - k).toNat) (fun(k:Int)=> [(43, .int .i64 k)]) (fun(k:Int)=> [Ac.box b2 35 (AH.enc (AH.JW k.toNat))]) (0) ?_ rfl rfl (fun k hI2=>?_)
 · exact⟨Int.le_refl _,by omega⟩
 obtain⟨hI21,hI22⟩:=hI2
 refine Gs (Gt (A8 rfl rfl) (AR (AA (Ap ?_))))
 refine Gc (fun c2=>?_) (fun c2=>?_)
 ·
  have c2p:=kz c2
  dsimp only at c2p
  refine Aa ?_
  refine AB (.t5 0 1 41 42 43) ?_
  refine AA (Ap (Ae (Gs (Gm rfl ?_))))
  refine Gt (Br dM (by decide) (Kn.own .m1) rfl rfl (by omega) (by dsimp only;omega)) ?_
  refine Gt (OG rfl Mp (by decide) Al.fl (Kn.own .m1) (by simp;omega)) ?_
  refine BD rfl KW rfl (fun b6=>?_)
  refine Ga rfl ?_
  refine AS (AK (AU.id Al.fl.len Al.fl.one) rfl rfl rfl My rfl .h) ?_
  refine Gn (.t7 0 1 4 5 41 42 43) (AJ (Gm rfl (Gt (AY rfl Mp .m0 (AU.id Al.fl.len Al.fl.one) rfl) (Gt (Ah Cw rfl) ?_))))
  refine Gt (AQ F9 rfl rfl (by omega) (by omega)) ?_
  refine AS (AK (AH.l1.comp (AU.ar (n:=9) Al.fl (by omega))) rfl rfl rfl My rfl (.t .h)) ?_
  refine AR (AB (.t5 0 1 41 42 43) ?_)
  refine AV (AA (AJ ?_))
  refine Gt (Aw rfl rfl (IntWalk.i64_in _ (by omega))) ?_
  refine Gm rfl ?_
  refine AR (AB (.t5 0 1 41 42 43) ?_)
  refine Bx (k+1) ?_ ?_ (.t5 43 0 1 41 42) (by rw [AH.Uu (by omega)];exact(.cons _ (.refl _)))
  · exact⟨by omega,by omega⟩
  · omega
 have c2p:=kz c2
 dsimp only at c2p
 obtain rfl:k=9:=by omega
 refine Ba (AW (AW (Af ?_)))
 refine AB (.t2 0 1) ?_
 refine AA (Gs (Gt (BC Wc Lx rfl (.cons Ag.l0 rfl rfl rfl (.cons Ag.l1 rfl rfl rfl (.cons Ag.l2 rfl rfl rfl (.cons Ag.l4 rfl rfl rfl .nil))))) (Gt (Ah Bi rfl) ?_)))
 refine Gt (AQ Cs rfl rfl (by decide) (by decide)) ?_
 refine AS (AK (AH.l2.comp (AU.arr (n:=6) Ag.fl (by decide) (by decide))) rfl rfl rfl KX rfl .h) ?_
 refine Gn (.t2 0 1) (Gs (Gt (BC Wc Lx rfl (.cons Ag.l0 rfl rfl rfl (.cons Ag.l1 rfl rfl rfl (.cons Ag.l3 rfl rfl rfl (.cons Ag.l4 rfl rfl rfl .nil))))) (Gt (Ah Bi rfl) ?_)))
 refine Gt (AQ Cs rfl rfl (by decide) (by decide)) ?_
 refine AS (AK (AH.l2.comp (AU.arr (n:=6) Ag.fl (by decide) (by decide))) rfl rfl rfl KX rfl .h) ?_
 refine Gn (.t2 0 1) (Gs (Gt (AY rfl BW .m0 (AU.id AH.fl.len AH.fl.one) rfl) ?_))
 refine AS (AK (AU.id AH.fl.len AH.fl.one) rfl rfl rfl D3 rfl (.t (.t (.t .h)))) ?_
 refine Gn (.t1 0) (Ab ?_)
 refine AZ rfl (.cell rfl .m3 (.inl ⟨(by rw [AH.fl.len];exact BW),rfl⟩) .n) ?_
 intro w1 hS;refine⟨?_,hS.Am⟩;rfl
theorem Jj  : JO Tryz.prog 37 #[] [] (fun v B=>∃(b:Nat) (V:AL) (ls:Vector BI 4) (ev:List Ing.Event),v = .pointer (some ⟨b,0,none⟩)∧A3 V ls ev=AI.new∧B = [Ac.box b 101 (AL.enc V),Ac.Dv (CG 9 (AL.Ao V) ls),Ac.own (AL.last V) 56 16 ((ev).flatMap Ing.Event.enc)]):=by
 intro w hS0
 refine Ak _ _ Tryz.func37 rfl rfl rfl (hS0) ?_
 refine Gs (Ga rfl (Gn (.nil _) (Gs ?_)))
 refine BA rfl dP .n (fun w hS=>PR w) ?_
 refine Gt (BC an bV rfl (.cons AL.l0 rfl rfl rfl .nil)) ?_
 refine B5 rfl rfl rfl (fun b1=>?_)
 refine Ga rfl (Gn (.t1 0) (Ab ?_))
 refine AZ rfl (.tmp rfl .n) ?_
 intro w1 hS
 have hS:=(hS.perm (Ax.perm (.c .h .n))).A1
 have h2:=(St.Yr hS (l:=CG 9 NG NH) (fun r hr=>XV 9 w1 r hr)).Co 56 16
 refine⟨_,⟨b1,⟨AH.new,NG,0,⟨none,0,0⟩⟩,NH,[],rfl,rfl,rfl⟩,h2.perm (X7 _ _ _)⟩
theorem N3 {t0:Nat}(l:BG)(qs:List Aq)(hb:qs.length≤17592186044416):FK Tryz.prog 91 #[.agg l.enc.toArray] [] (fun w=>Rd w l.queue t0 1 (qs.flatMap A7)∧l.queue.len≤l.queue.cap) (fun v B=>(qs = []∧v = .tuple #[.agg l.enc.toArray,BU [], .bool false]∧B = [])∨(∃ q r,qs=q :: r∧∃ h':Hd,v = .tuple #[.agg (BG.enc ⟨l.now,l.Cq,l.ret,h'⟩).toArray,BU q, .bool true]∧h'.len=r.length∧B = [Ac.own h' 9 1 (r.flatMap A7)])):=by
 intro w hS0 hH
 obtain⟨r0,k0⟩:=hH
 have hl0:=r0.Mw DZ (by decide)
 refine Ak _ _ Tryz.func91 rfl rfl rfl (hS0) ?_
 refine Gs ?_
 refine B5 rfl rfl rfl (fun b1=>?_)
 refine BD rfl YY rfl (fun b2=>?_)
 refine Ga rfl (Ga rfl (Gn (.t2 1 2) (CB (Gt (Ah FN rfl) (Gt (AG rfl FW .m1 BG.l3 rfl rfl) (Gt (Av rfl Tryz.underlying52 rfl) (Gt (Aj rfl rfl) ?_)))))))
 refine Gn (.t3 1 2 9) ?_
 refine Gc (fun c1=>?_) (fun c1=>?_)
 ·
  have c1p:=kz c1
  have hq:qs = []:=List.length_eq_zero_iff.1 (by omega)
  refine Gs (Gt (AY rfl Hu .m1 (AU.id BG.fl.len BG.fl.one) rfl) ?_)
  refine AS (AK (AU.id BG.fl.len BG.fl.one) rfl rfl rfl MS rfl .h) ?_
  refine Ga rfl (Ga rfl (Gn (.t3 2 3 4) (Ab (AD ?_))))
  refine AZ rfl (.cell rfl .m0 (.inl ⟨(by rw [BG.fl.len];exact Hu),rfl⟩) (.tmp rfl (.tmp rfl .n))) ?_
  intro w1 hS
  have hS:=(hS.perm (Ax.perm .n)).A1
  exact⟨_, .inl ⟨hq,rfl,rfl⟩,hS⟩
 have c1p:=kz c1
 obtain⟨q,r,rfl⟩:=Bg.UL (qs:=qs) (by omega)
 rw [List.length_cons] at hl0 hb
 refine Aa ?_
 refine AB (.t2 1 2) ?_
 refine AA (Gs (Gt (Ah FN rfl) (Gt (AG rfl FW .m1 BG.l3 rfl rfl) ?_)))
 refine Gt (Br JU (by decide) (Kn.I0 r0) rfl rfl (by omega) (by omega)) ?_
 refine Gt (Dj rfl CP (Kn.I0 r0) (by simp)) ?_
 refine Ga rfl (Gn (.t3 1 2 5) (Gs (Gt (Ah FN rfl) (Gt (AG rfl FW .m1 BG.l3 rfl rfl) ?_))))
 refine Gt (SQ Tryz.underlying52 Em rfl rfl (by decide) (by omega)) ?_
 refine BF rfl Ut (.c rfl .n) .n (Bv _ r (by omega)) (fun w hS=>by have h:=(Kn.cut (l:=1) (r:=l.queue.len) DZ (Kn.I0 r0) (by omega) (Nat.le_refl _) (VG.of k0)) w hS;rw [show(((q :: r).take l.queue.len).drop 1)=r from by rw [List.take_of_length_le (by simp;omega)];rfl] at h;exact h) (fun v2 B hv=>?_)
 obtain⟨y3,rfl,y4,rfl⟩:=hv
 refine Gt (Ah FN rfl) ?_
 refine AS (AK BG.l3 rfl rfl rfl MO rfl (.t (.t .h))) ?_
 refine Gn (.t3 1 2 5) (Gs (Gt (AY rfl Hu .m2 (AU.id BG.fl.len BG.fl.one) rfl) (Gm rfl ?_)))
 refine AS (AK (AU.id BG.fl.len BG.fl.one) rfl rfl rfl MS rfl (.t .h)) ?_
 refine Ga rfl (Ga rfl (Gn (.t3 2 3 4) (Ab ?_)))
 refine AZ rfl (.cell rfl .m1 (.inl ⟨(by rw [BG.fl.len];exact Hu),rfl⟩) (.tmp rfl (.tmp rfl .n))) ?_
 intro w1 hS
 have hS:=(hS.perm (Ax.perm (.c .h .n))).A1
 exact⟨_, .inr ⟨q,r,rfl,_,rfl,by assumption,rfl⟩,hS⟩
theorem Mz (p:As)(w:World):Eh Tryz.prog 92 #[.agg p.enc.toArray] w fun v w'=>v = .agg (As.enc ⟨p.wait,0,false,p.ring,p.cut⟩).toArray∧CA w w':=by
 refine Ak [] [] Tryz.func92 rfl rfl rfl (St.start w []) ?_
 refine Gs ?_
 refine B5 rfl rfl rfl (fun b1=>?_)
 refine BD rfl Tl rfl (fun b2=>?_)
 refine Gn (.t2 1 2) (Gs (Gt (Ah Q0 rfl) ?_))
 refine AS (AK As.l2 rfl rfl rfl J8 rfl (.t .h)) ?_
 refine Gt (Ah ML rfl) ?_
 refine AS (AK As.l1 rfl rfl rfl DB rfl (.t .h)) ?_
 refine Gn (.t2 1 2) (Gs (Gt (AY rfl Cr .m1 (AU.id As.fl.len As.fl.one) rfl) ?_))
 refine AS (AK (AU.id As.fl.len As.fl.one) rfl rfl rfl FO rfl .h) ?_
 refine Gn (.t1 2) (Ab ?_)
 refine AZ rfl (.cell rfl .m0 (.inl ⟨(by rw [As.fl.len];exact Cr),rfl⟩) .n) ?_
 intro w1 hS;refine⟨?_,hS.Am⟩;rfl
theorem Hb (s:Aq)(c:UInt8)(hs:s.length≤10000000)(w:World):Eh Tryz.prog 116 #[BU s, .int .u8 (c.toNat:Int)] w fun v w'=>v=BU (Words.Rq c s)∧CA w w':=by
 refine Ak [] [] Tryz.func116 rfl rfl rfl (St.start w []) ?_
 refine Gs (Ga rfl (Gn (.t2 0 1) (Ap (Ae ?_))))
 refine Bo (.t2 0 1) ?_
 refine CQ (fun(r:Aq)=>Words.Rq c s=Words.Rq c r∧r.length≤s.length) (fun(r:Aq)=>r.length) (fun(r:Aq)=> [(0,BU r)]) (fun(r:Aq)=> []) (s) ?_ rfl rfl (fun r hI1=>?_)
 · exact⟨rfl,Nat.le_refl _⟩
 obtain⟨hI11,hI12⟩:=hI1
 refine CB (Gm rfl (Gt (BH rfl Tryz.underlying9 rfl) (Gt (Ck rfl rfl) (Gm rfl (Bl 8 rfl rfl (fun q=>AE rfl) (Bl 8 rfl rfl (fun q=>AE rfl) (Bl 8 rfl rfl (fun q=>BH rfl Tryz.underlying9 (Bf rfl q)) ?_)))))))
 refine Bl 8 rfl rfl (fun q=>by have q1:=q;(try simp at q1);exact FR (Bf rfl q) rfl (IntWalk.i64_in _ (by omega))) ?_
 refine Bl 8 rfl rfl (fun q=>by have q1:=q;(try simp at q1);exact Bm Tryz.underlying9 (Bf rfl q) (Bf rfl q) (by omega) (by omega)) ?_
 refine Bl 8 rfl rfl (fun q=>AE rfl) (Bl 8 rfl rfl (fun q=>Aj (Bf rfl q) (Bf rfl q)) (Gt (BJ rfl rfl (fun h=>h)) (Gn (.t3 0 1 16) ?_)))
 refine Gc (fun c1=>?_) (fun c1=>?_)
 ·
  have c1p:=kz c1
  have hlt:0 < r.length:=by simp at c1;omega
  refine Aa ?_
  refine AB (.t2 0 1) ?_
  refine AA (Ae (AJ (Gm rfl (Gm rfl (Gt (BH rfl Tryz.underlying9 rfl) ?_)))))
  refine Gt (FR rfl rfl (IntWalk.i64_in _ (by omega))) ?_
  refine Gt (IW Tryz.underlying9 rfl rfl (by omega) (by omega)) ?_
  refine Ga rfl ?_
  refine AR (AB (.t2 0 1) ?_)
  refine AV ?_
  refine Bx _ ?_ ?_ (.t2 0 1) (.refl _)
  · exact⟨by rw [hI11,Words.bP c1]<;>rfl,by first | (simp;done) | (simp;omega)⟩
  · first | (simp;done) | (simp;omega)
 refine Ba (AW (AW (Af ?_)))
 refine AB (.t1 0) ?_
 refine AA (Gs (Gm rfl (Ga rfl (Gn (.t1 4) (Ab ?_)))))
 refine AZ rfl (.tmp rfl .n) ?_
 intro w1 hS;refine⟨?_,hS.Am⟩;rw [hI11,Words.aQ c1];rfl
theorem Ey (s:Aq)(c:UInt8)(hs:s.length≤10000000)(w:World):Eh Tryz.prog 115 #[BU s, .int .u8 (c.toNat:Int)] w fun v w'=>v=BU (Words.QA c s)∧CA w w':=by
 refine Ak [] [] Tryz.func115 rfl rfl rfl (St.start w []) ?_
 refine Gs (Ga rfl (Gn (.t2 0 1) (Ap (Ae ?_))))
 refine Bo (.t2 0 1) ?_
 refine CQ (fun(r:Aq)=>Words.QA c s=Words.QA c r∧r.length≤s.length) (fun(r:Aq)=>r.length) (fun(r:Aq)=> [(0,BU r)]) (fun(r:Aq)=> []) (s) ?_ rfl rfl (fun r hI1=>?_)
 · exact⟨rfl,Nat.le_refl _⟩
 obtain⟨hI11,hI12⟩:=hI1
 refine CB (Gm rfl (Gt (BH rfl Tryz.underlying9 rfl) (Gt (Ck rfl rfl) (Gm rfl (Bl 8 rfl rfl (fun q=>AE rfl) ?_)))))
 refine Bl 8 rfl rfl (fun q=>by have q1:=q;(try simp at q1);exact Bm Tryz.underlying9 (Bf rfl q) rfl (by decide) (by omega)) ?_
 refine Bl 8 rfl rfl (fun q=>AE rfl) (Bl 8 rfl rfl (fun q=>Aj (Bf rfl q) (Bf rfl q)) (Gt (BJ rfl rfl (fun h=>h)) (Gn (.t3 0 1 13) ?_)))
 refine Gc (fun c1=>?_) (fun c1=>?_)
 ·
  have c1p:=kz c1
  have hlt:0 < r.length:=by simp at c1;omega
  refine Aa ?_
  refine AB (.t2 0 1) ?_
  refine AA (Ae (AJ (Gm rfl ?_)))
  refine Gt (Gg Tryz.underlying9 rfl rfl (by decide) (by omega)) ?_
  refine Ga rfl ?_
  refine AR (AB (.t2 0 1) ?_)
  refine AV ?_
  refine Bx _ ?_ ?_ (.t2 0 1) (.refl _)
  · exact⟨by rw [hI11,Words.bJ c1]<;>rfl,by first | (simp;done) | (simp;omega)⟩
  · first | (simp;done) | (simp;omega)
 refine Ba (AW (AW (Af ?_)))
 refine AB (.t1 0) ?_
 refine AA (Gs (Gm rfl (Ga rfl (Gn (.t1 4) (Ab ?_)))))
 refine AZ rfl (.tmp rfl .n) ?_
 intro w1 hS;refine⟨?_,hS.Am⟩;rw [hI11,Words.cA c1];rfl
theorem H2 (s:Aq)(hs:s.length≤10000000)(w:World):Eh Tryz.prog 94 #[BU s,BU [32]] w fun v w'=>v=BU (Words.QA 32 (Words.Rq 32 s))∧CA w w':=by
 refine Ak [] [] Tryz.func94 rfl rfl rfl (St.start w []) ?_
 refine Gs (Ga rfl (Gn (.t2 0 1) (CB (Gm rfl (Gt (Bt rfl rfl) (Gm rfl (BZ 9 rfl rfl (fun q=>AE rfl) ?_)))))))
 refine BZ 9 rfl rfl (fun q=>Bt (cF rfl q) rfl) ?_
 refine Gt (BS rfl rfl (fun h=>by rw [h];rfl)) ?_
 refine Gn (.t3 0 1 12) ?_
 refine Gc (fun c1=>?_) (fun c1=>?_)
 ·
  refine Gs (Gm rfl (Ga rfl (Gn (.t1 4) (Ab (AD ?_)))))
  refine AZ rfl (.tmp rfl .n) ?_
  intro w1 hS;refine⟨?_,hS.Am⟩;have e:s = []:=by simpa using c1
  subst e;rfl
 have c1p:=kz c1
 refine Aa ?_
 refine AB (.t2 0 1) ?_
 refine AA (CB (Gm rfl (Gt (BH rfl Tryz.underlying9 rfl) (Gt (Aj rfl rfl) (Gm rfl (Bl 17 rfl rfl (fun q=>AE rfl) ?_))))))
 refine Bl 17 rfl rfl (fun q=>by have q1:=q;(try simp at q1);exact Bm Tryz.underlying9 (Bf rfl q) rfl (by decide) (by(try simp only [List.length_cons,List.length_nil]);omega)) ?_
 refine Bl 17 rfl rfl (fun q=>A8 (Bf rfl q) rfl) (Gt (BJ rfl rfl (fun h=>h)) (Gn (.t3 0 1 21) ?_))
 refine G4 rfl rfl ?_
 refine Ap ?_
 refine BE (N:=8) [0,0,2,7,0,16,63,127] mix (by kernel_rfl) rfl ?_
 refine Pf 0 rfl (AE rfl) (Pf 1 rfl (AE rfl) ?_)
 refine Pf 2 rfl (Bm Tryz.underlying9 rfl rfl (by decide) (by(try simp only [List.length_cons,List.length_nil]);omega)) ?_
 refine BN 3 rfl rfl (by kernel_rfl) (Lj (K4 (D7 ae (.c rfl (.c rfl .n)) (fun w hS=>Hb _ 32 hs w)))) ?_
 refine Pf 4 rfl (AE rfl) ?_
 refine Pf 5 rfl (Bm Tryz.underlying9 rfl rfl (by decide) (by(try simp only [List.length_cons,List.length_nil]);omega)) ?_
 refine BN 6 rfl rfl (by kernel_rfl) (Lj (K4 (D7 ZP (.c rfl (.c rfl .n)) (fun w hS=>Ey _ 32 (by have:=Words.QR 32 s;omega) w)))) ?_
 refine Pf 7 rfl (A0 rfl) ?_
 refine A4 (by kernel_rfl) ?_
 refine AB (.t1 4) ?_
 refine AA (Ab (AD ?_))
 refine AZ rfl (.tmp rfl .n) ?_
 intro w1 hS;refine⟨?_,hS.Am⟩;rfl
theorem GG (X:AH)(b:Int)(w:World):Eh Tryz.prog 159 #[.agg X.enc.toArray, .int .i64 b] w fun v w'=>v = .bool (X.Au b)∧CA w w':=by
 refine Ak [] [] Tryz.func159 rfl rfl rfl (St.start w []) ?_
 refine Gs ?_
 refine B5 rfl rfl rfl (fun b1=>?_)
 refine Ga rfl (Gn (.t2 1 2) (Gs (Gm rfl (Gt (CI rfl rfl) (Gm rfl (Bl 7 rfl rfl (fun q=>AE rfl) (Bl 7 rfl rfl (fun q=>A8 (Bf rfl q) rfl) ?_)))))))
 refine Gt (BJ rfl rfl (fun h=>h)) (Gm rfl (Bl 11 rfl rfl (fun q=>AE rfl) (Bl 11 rfl rfl (fun q=>Ah Bi rfl) ?_)))
 refine Bl 11 rfl rfl (fun q=>by have q1:=q;(try simp at q1);exact AQ Cs (Bf rfl q) (Bf rfl q) (by omega) (by omega)) ?_
 refine Bl 11 rfl rfl (fun q=>Ah F8 (Bf rfl q)) ?_
 refine Bl 11 rfl rfl (fun q=>by have q1:=q;(try simp at q1);exact AG (Bf rfl q) DN .m0 ((AH.l2.comp (AU.ar (n:=6) Ag.fl (by omega))).comp Ag.l1) rfl rfl) ?_
 refine Gt (BJ rfl rfl (fun h=>h)) (Ga rfl (Gn (.t1 4) (Ab ?_)))
 refine AZ rfl (.tmp rfl .n) ?_
 intro w1 hS;refine⟨?_,hS.Am⟩;rfl
theorem OS (X:AH)(i:Int)(w:World):Eh Tryz.prog 19 #[.agg X.enc.toArray, .int .i64 i] w fun v w'=>v = .tuple #[.int .i64 (X.room i).1, .bool (X.room i).2]∧CA w w':=by
 refine Ak [] [] Tryz.func19 rfl rfl rfl (St.start w []) ?_
 refine Gs ?_
 refine B5 rfl rfl rfl (fun b1=>?_)
 refine Ga rfl (Ga rfl (Gn (.t2 1 2) (Gs (Ga rfl (AR (AA (CB ?_)))))))
 refine Gm rfl (AR (AA (Ae ?_)))
 refine Bo (.t4 1 6 8 2) ?_
 refine Dt (fun(k:Int) (j:Int) (o:Bool)=>0≤k∧k≤10∧X.room i=X.J6 (10 - k).toNat j o) (fun(k:Int) (j:Int) (o:Bool)=>(10 - k).toNat) (fun(k:Int) (j:Int) (o:Bool)=> [(1, .int .i64 j),(6, .bool o),(8, .int .i64 k)]) (fun(k:Int) (j:Int) (o:Bool)=> []) (0) (i) (true) ?_ rfl rfl (fun k j o hI1=>?_)
 · exact⟨Int.le_refl _,by omega,rfl⟩
 obtain⟨hI11,hI12,hI13⟩:=hI1
 refine Gs (Gt (A8 rfl rfl) (AR (AA (Ap ?_))))
 refine Gc (fun c1=>?_) (fun c1=>?_)
 ·
  have c1p:=kz c1
  rw [show(10 - k).toNat=(10 - (k+1)).toNat+1 from by omega,AH.J6] at hI13
  refine Aa ?_
  refine AB (.t4 1 2 6 8) ?_
  refine AA (Ap (Ae (CB (Gm rfl (Gt (A8 rfl rfl) (Gm rfl (BZ 12 rfl rfl (fun q=>AE rfl) ?_)))))))
  refine BZ 12 rfl rfl (fun q=>CI (cF rfl q) rfl) ?_
  refine Gt (BS rfl rfl (fun h=>by rw [h];rfl)) ?_
  refine Gn (.t5 1 2 6 8 15) ?_
  refine Gc (fun c2=>?_) (fun c2=>?_)
  ·
   refine Gs (Ga rfl (Ga rfl (Gn (.t2 4 5) (Ab (AD (AT (AD ?_)))))))
   refine AD (AT (AD ?_))
   refine AZ rfl (.tmp rfl (.tmp rfl .n)) ?_
   intro w1 hS;refine⟨?_,hS.Am⟩;rw [hI13];simp only [c1,c2,↓reduceIte,Bool.false_eq_true];rfl
  have c2p:=kz c2
  refine Aa ?_
  refine AB (.t4 1 2 6 8) ?_
  refine AA (Gs (Gm rfl (Gt (Ah Cw rfl) ?_)))
  refine Gt (AQ F9 rfl rfl (by omega) (by omega)) ?_
  refine Gt (AY rfl Mp .m0 (AH.l1.comp (AU.ar (n:=9) Al.fl (by omega))) rfl) ?_
  refine BD rfl KW rfl (fun b2=>?_)
  refine AS (AK (AU.id Al.fl.len Al.fl.one) rfl rfl rfl My rfl .h) ?_
  refine Gn (.t4 2 6 7 8) (CB (Gt (Ah FP rfl) (Gt (AG rfl A5 .m0 Al.l2 rfl rfl) (Gn (.t5 2 6 7 8 21) (Ae (Gs (Gt (Aj rfl rfl) ?_)))))))
  refine Ga rfl (Gn (.t6 2 6 7 8 21 22) ?_)
  refine Gc (fun c3=>?_) (fun c3=>?_)
  ·
   refine Gs (Gt (Ah DF rfl) (Gt (AG rfl A5 .m0 Al.l3 rfl rfl) (Gm rfl (Ga rfl (Ga rfl (Gn (.t2 4 5) (Ab ?_)))))))
   refine AT (AD (AT (AD (AD (AT (AD ?_))))))
   refine AZ rfl (.tmp rfl (.tmp rfl .n)) ?_
   intro w1 hS;refine⟨?_,hS.Am⟩;rw [hI13];simp only [c1,c2,c3,↓reduceIte,Bool.false_eq_true];rfl
  have c3p:=kz c3
  refine Gs (Gt (Aj rfl rfl) (Ga rfl (Gn (.t6 2 6 7 8 21 27) ?_)))
  refine Gc (fun c4=>?_) (fun c4=>?_)
  ·
   have c4p:=kz c4
   refine CB (Gt (Ah DF rfl) (Gt (AG rfl A5 .m0 Al.l3 rfl rfl) (Gt (A8 rfl rfl) (Gm rfl (BZ 32 rfl rfl (fun q=>Ah DF rfl) (BZ 32 rfl rfl (fun q=>AG (cF rfl q) A5 .m0 Al.l3 rfl rfl) (BZ 32 rfl rfl (fun q=>CI (cF rfl q) rfl) ?_)))))))
   refine Gt (BS rfl rfl (fun h=>by rw [h];rfl)) ?_
   refine Gn (.t4 2 6 7 36) ?_
   refine Gc (fun c5=>?_) (fun c5=>?_)
   ·
    refine Gs (Ga rfl (Ga rfl (Gn (.t2 4 5) (Ab (AD (AT (AD ?_)))))))
    refine AT (AD (AD (AT (AD ?_))))
    refine AZ rfl (.tmp rfl (.tmp rfl .n)) ?_
    intro w1 hS;refine⟨?_,hS.Am⟩;rw [hI13];simp only [c1,c2,c3,c4,c5,↓reduceIte,Bool.false_eq_true];rfl
   have c5p:=kz c5
   refine Aa ?_
   refine AB (.t3 2 6 7) ?_
   refine AA (Gs (Gt (Ah DF rfl) (Gt (AG rfl A5 .m0 Al.l3 rfl rfl) (Gt (Ah Bi rfl) ?_))))
   refine Gt (AQ Cs rfl rfl (by omega) (by omega)) ?_
   refine Gt (Ah C2 rfl) ?_
   refine Gt (AG rfl A5 .m1 ((AH.l2.comp (AU.ar (n:=6) Ag.fl (by omega))).comp Ag.l3) rfl rfl) ?_
   refine Gm rfl (Ga rfl (Ga rfl (Gn (.t2 4 5) (Ab (AT (AD (AT ?_)))))))
   refine AD (AD (AT (AD ?_)))
   refine AZ rfl (.tmp rfl (.tmp rfl .n)) ?_
   intro w1 hS;refine⟨?_,hS.Am⟩;rw [hI13];simp only [c1,c2,c3,c4,c5,↓reduceIte,Bool.false_eq_true];rfl
  have c4p:=kz c4
  refine Gs (Gt (Aj rfl rfl) (Ga rfl (Gn (.t5 2 6 7 8 44) ?_)))
  refine Gc (fun c6=>?_) (fun c6=>?_)
  ·
   have c6p:=kz c6
   refine Aa ?_
   refine AB (.t4 2 6 7 8) ?_
   refine AV (AA (Gs (Gt (Ah DF rfl) (Gt (AG rfl A5 .m0 Al.l3 rfl rfl) (Ga rfl (Gn (.t4 1 2 6 8) (Gs ?_)))))))
   refine Gm rfl (Gt (CI rfl rfl) (Gm rfl (Bl 50 rfl rfl (fun q=>AE rfl) (Bl 50 rfl rfl (fun q=>A8 (Bf rfl q) rfl) (Gt (BJ rfl rfl (fun h=>h)) (Gm rfl (Bl 54 rfl rfl (fun q=>AE rfl) ?_)))))))
   refine Bl 54 rfl rfl (fun q=>Ah Cw rfl) ?_
   refine Bl 54 rfl rfl (fun q=>by have q1:=q;(try simp at q1);exact AQ F9 (Bf rfl q) (Bf rfl q) (by omega) (by omega)) ?_
   refine Bl 54 rfl rfl (fun q=>Ah GI (Bf rfl q)) ?_
   refine Bl 54 rfl rfl (fun q=>by have q1:=q;(try simp at q1);exact AG (Bf rfl q) DN .m1 ((AH.l1.comp (AU.ar (n:=9) Al.fl (by omega))).comp Al.l4) rfl rfl) ?_
   refine Bl 54 rfl rfl (fun q=>BQ (Bf rfl q)) (Gt (BJ rfl rfl (fun h=>h)) (Gn (.t5 1 2 6 8 61) ?_))
   refine Gc (fun c7=>?_) (fun c7=>?_)
   ·
    have c7p:=kz c7
    refine AJ (Ga rfl ?_)
    refine AR (AB (.t4 1 2 6 8) ?_)
    refine AV (AA (AJ ?_))
    refine Gt (Aw rfl rfl (IntWalk.i64_in _ (by omega))) ?_
    refine Gm rfl ?_
    refine AR (AB (.t4 1 2 6 8) ?_)
    refine Bw (k+1) ((X.AO.at j).at_) (false) ?_ ?_ (.t4 1 6 8 2) (.cons _ (.refl _))
    · exact⟨by omega,by omega,by rw [hI13];simp only [c1,c2,c3,c4,c6,c7,↓reduceIte,Bool.false_eq_true]⟩
    · omega
   have c7p:=kz c7
   refine Aa ?_
   refine AB (.t4 1 2 6 8) ?_
   refine AV (AA (AJ ?_))
   refine Gt (Aw rfl rfl (IntWalk.i64_in _ (by omega))) ?_
   refine Gm rfl ?_
   refine AR (AB (.t4 1 2 6 8) ?_)
   refine Bw (k+1) ((X.AO.at j).at_) (o) ?_ ?_ (.t4 1 6 8 2) (.cons _ (.refl _))
   · exact⟨by omega,by omega,by rw [hI13];simp only [c1,c2,c3,c4,c6,c7,↓reduceIte,Bool.false_eq_true]⟩
   · omega
  refine Gs (Ga rfl (Ga rfl (Gn (.t2 4 5) (Ab (AT (AD (AT ?_)))))))
  refine AD (AD (AT (AD ?_)))
  refine AZ rfl (.tmp rfl (.tmp rfl .n)) ?_
  intro w1 hS;refine⟨?_,hS.Am⟩;rw [hI13];simp only [c1,c2,c3,c4,c6,↓reduceIte,Bool.false_eq_true];rfl
 have c1p:=kz c1
 obtain rfl:k=10:=by omega
 refine Ba (AW (AW (Af ?_)))
 refine AB (.nil _) ?_
 refine AA (Gs (Ga rfl (Ga rfl (AR (AA (Ab ?_))))))
 refine AZ rfl (.tmp rfl (.tmp rfl .n)) ?_
 intro w1 hS;refine⟨?_,hS.Am⟩;rw [hI13];rfl
theorem EZ (X:AH)(r:Int)(w:World):Eh Tryz.prog 129 #[.agg X.enc.toArray, .int .i64 r] w fun v w'=>v = .bool (X.HY r)∧CA w w':=by
 refine Ak [] [] Tryz.func129 rfl rfl rfl (St.start w []) ?_
 refine Gs ?_
 refine B5 rfl rfl rfl (fun b1=>?_)
 refine Ga rfl (Gn (.t2 1 2) (CB (Gm rfl (Gt (A8 rfl rfl) (Gm rfl (BZ 11 rfl rfl (fun q=>AE rfl) (BZ 11 rfl rfl (fun q=>CI (cF rfl q) rfl) ?_)))))))
 refine Gt (BS rfl rfl (fun h=>by rw [h];rfl)) ?_
 refine Gn (.t3 1 2 14) ?_
 refine Gc (fun c1=>?_) (fun c1=>?_)
 ·
  refine Gs (Ga rfl (Gn (.t1 4) (Ab (AD ?_))))
  refine AZ rfl (.tmp rfl .n) ?_
  intro w1 hS;refine⟨congrArg Value.bool ?_,hS.Am⟩;rw [show X.HY r=_ from BB c1]
 have c1p:=kz c1
 have hr:0≤r∧r < 6:=by simp at c1;omega
 refine Aa ?_
 refine AB (.t2 1 2) ?_
 refine AA (CB (Gm rfl (Gt (Ah G2 rfl) ?_)))
 refine Gt (AQ OO rfl rfl (by omega) (by omega)) ?_
 refine Gt (Ah Zp rfl) ?_
 refine Gt (AG rfl DN .m0 ((AH.l0.comp (AU.ar (n:=6) Room.fl (by omega))).comp Room.l1) rfl rfl) ?_
 refine Gt (BQ rfl) (Gn (.t3 1 2 20) ?_)
 refine Gc (fun c2=>?_) (fun c2=>?_)
 ·
  refine Gs (Ga rfl (Gn (.t1 4) (Ab (AD ?_))))
  refine AZ rfl (.tmp rfl .n) ?_
  intro w1 hS;refine⟨congrArg Value.bool ?_,hS.Am⟩;rw [show X.HY r=_ from(AX c1).trans (BB c2)]
 have c2p:=kz c2
 refine Aa ?_
 refine AB (.t2 1 2) ?_
 refine AA (CB (Gt (Ah Cw rfl) (Gt (AY rfl Wr .m0 AH.l1 rfl) (Gm rfl (Gn (.t4 1 2 22 23) (Ae ?_))))))
 refine Bo (.t4 23 1 2 22) ?_
 refine CQ (fun(k:Int)=>0≤k∧k≤9∧B7 9 (fun i=>!X.lit r i) 9=B7 9 (fun i=>!X.lit r i) (9 - k).toNat) (fun(k:Int)=>(9 - k).toNat) (fun(k:Int)=> [(23, .int .i64 k)]) (fun(k:Int)=> []) (0) ?_ rfl rfl (fun k hI1=>?_)
 · exact⟨by omega,by omega,rfl⟩
 obtain⟨hI11,hI12,hI13⟩:=hI1
 refine Gs (Gt (A8 rfl rfl) (AR (AA (Ap ?_))))
 refine Gc (fun c3=>?_) (fun c3=>?_)
 ·
  have c3p:=kz c3
  rw [DY _ (by omega)] at hI13
  refine Aa ?_
  refine AB (.t4 1 2 22 23) ?_
  refine AA (Ap (Ae (Gs (Gm rfl ?_))))
  refine Gt (GB Al.fl Tryz.underlying30 Mp rfl rfl (by omega) (by omega)) ?_
  refine BD rfl KW rfl (fun b2=>?_)
  refine Ga rfl ?_
  refine AS (AK (AU.id Al.fl.len Al.fl.one) rfl rfl rfl My rfl .h) ?_
  refine Gn (.t6 1 2 5 6 22 23) (CB (Gt (Ah Gz rfl) (Gt (AG rfl A5 .m0 Al.l1 rfl rfl) (Gt (Ce rfl rfl) (Gm rfl (BZ 30 rfl rfl (fun q=>Ah GI rfl) (BZ 30 rfl rfl (fun q=>AG (cF rfl q) DN .m0 Al.l4 rfl rfl) ?_)))))))
  refine BZ 30 rfl rfl (fun q=>BQ (cF rfl q)) ?_
  refine Gt (BS rfl rfl (fun h=>by rw [h];rfl)) ?_
  refine Gn (.t6 1 2 5 22 23 34) ?_
  refine Gc (fun c4=>?_) (fun c4=>?_)
  ·
   have c4p:=kz c4
   refine Ba (AW (Af ?_))
   refine AB (.t4 1 2 22 23) ?_
   refine AA (AJ ?_)
   refine Gt (Aw rfl rfl (IntWalk.i64_in _ (by omega))) ?_
   refine Gm rfl ?_
   refine AR (AB (.t4 1 2 22 23) ?_)
   refine Bx (k+1) ?_ ?_ (.t4 23 1 2 22) (.cons _ (.refl _))
   · exact⟨by omega,by omega,by rw [hI13,show X.lit r k=false from by rw [AH.lit,c4];first | rfl | exact Bool.and_false _];rfl⟩
   · omega
  have c4p:=kz c4
  refine Aa ?_
  refine AB (.t5 1 2 5 22 23) ?_
  refine AA (Gs (Gt (AY rfl BW .m1 (AU.id AH.fl.len AH.fl.one) rfl) (Gm rfl ?_)))
  refine BA rfl dB (.c rfl (.c rfl .n)) (fun w hS=>OS _ _ w) ?_
  refine Gm rfl (Gt (AN rfl rfl) (Gt (AN rfl rfl) (Ga rfl (Ga rfl (Gn (.t6 1 2 7 8 22 23) (Gs (Gm rfl ?_)))))))
  refine Gm rfl (Gt (Aj rfl rfl) (Gm rfl (Bl 44 rfl rfl (fun q=>AE rfl) (Gt (BJ rfl rfl (fun h=>h)) (Gn (.t5 1 2 22 23 46) ?_)))))
  refine Gc (fun c5=>?_) (fun c5=>?_)
  ·
   refine Gs (Ga rfl (Gn (.t1 4) (Ab (AT (AD (AD (AT ?_)))))))
   refine AD ?_
   refine AZ rfl (.tmp rfl .n) ?_
   intro w1 hS;refine⟨congrArg Value.bool ?_,hS.Am⟩;rw [show X.HY r=_ from(AX c1).trans (AX c2),hI13,show X.lit r k=true from by rw [AH.lit,c4,c5];rfl];rfl
  have c5p:=kz c5
  refine Aa ?_
  refine AB (.t4 1 2 22 23) ?_
  refine AV (AA (AJ ?_))
  refine Gt (Aw rfl rfl (IntWalk.i64_in _ (by omega))) ?_
  refine Gm rfl ?_
  refine AR (AB (.t4 1 2 22 23) ?_)
  refine Bx (k+1) ?_ ?_ (.t4 23 1 2 22) (.cons _ (.refl _))
  · exact⟨by omega,by omega,by rw [hI13,show X.lit r k=false from by rw [AH.lit,c5];first | rfl | exact Bool.and_false _];rfl⟩
  · omega
 have c3p:=kz c3
 obtain rfl:k=9:=by omega
 refine Ba (AW (AW (Af ?_)))
 refine AB (.nil _) ?_
 refine AA (Gs (Ga rfl (AR (AA (Ab ?_)))))
 refine AZ rfl (.tmp rfl .n) ?_
 intro w1 hS;refine⟨congrArg Value.bool ?_,hS.Am⟩;rw [show X.HY r=_ from(AX c1).trans (AX c2),hI13];rfl
theorem Hz (X:AH)(b:Int)(w:World):Eh Tryz.prog 160 #[.agg X.enc.toArray, .int .i64 b] w fun v w'=>v = .bool (X.hidden b)∧CA w w':=by
 refine Ak [] [] Tryz.func160 rfl rfl rfl (St.start w []) ?_
 refine Gs ?_
 refine B5 rfl rfl rfl (fun b1=>?_)
 refine Ga rfl (Gn (.t2 1 2) (CB (Gt (Ah Cw rfl) (Gt (AY rfl Wr .m0 AH.l1 rfl) (Gm rfl (Gn (.t3 1 8 9) (Ae ?_)))))))
 refine Bo (.t3 9 1 8) ?_
 refine CQ (fun(k:Int)=>0≤k∧k≤9∧B7 9 (fun i=>!X.L0 b i) 9=B7 9 (fun i=>!X.L0 b i) (9 - k).toNat) (fun(k:Int)=>(9 - k).toNat) (fun(k:Int)=> [(9, .int .i64 k)]) (fun(k:Int)=> []) (0) ?_ rfl rfl (fun k hI1=>?_)
 · exact⟨by omega,by omega,rfl⟩
 obtain⟨hI11,hI12,hI13⟩:=hI1
 refine Gs (Gt (A8 rfl rfl) (AR (AA (Ap ?_))))
 refine Gc (fun c1=>?_) (fun c1=>?_)
 ·
  have c1p:=kz c1
  rw [DY _ (by omega)] at hI13
  refine Aa ?_
  refine AB (.t3 1 8 9) ?_
  refine AA (Ap (Ae (Gs ?_)))
  refine Gt (GB Al.fl Tryz.underlying30 Mp rfl rfl (by omega) (by omega)) ?_
  refine BD rfl KW rfl (fun b2=>?_)
  refine AS (AK (AU.id Al.fl.len Al.fl.one) rfl rfl rfl My rfl .h) ?_
  refine Gn (.t4 1 6 8 9) (Gs (Gt (Ah Gz rfl) (Gt (AG rfl A5 .m0 Al.l1 rfl rfl) (Gt (Aj rfl rfl) (Gm rfl (Bl 15 rfl rfl (fun q=>Ah GI rfl) (Bl 15 rfl rfl (fun q=>AG (Bf rfl q) DN .m0 Al.l4 rfl rfl) ?_)))))))
  refine Gt (BJ rfl rfl (fun h=>h)) (Gm rfl (Bl 19 rfl rfl (fun q=>Ah FP rfl) (Bl 19 rfl rfl (fun q=>AG (Bf rfl q) A5 .m0 Al.l2 rfl rfl) (Bl 19 rfl rfl (fun q=>Aj (Bf rfl q) rfl) (Gt (BJ rfl rfl (fun h=>h)) (Gm rfl (Bl 24 rfl rfl (fun q=>Ah DF rfl) ?_)))))))
  refine Bl 24 rfl rfl (fun q=>AG (Bf rfl q) A5 .m0 Al.l3 rfl rfl) (Bl 24 rfl rfl (fun q=>AE rfl) (Bl 24 rfl rfl (fun q=>Aj (Bf rfl q) (Bf rfl q)) (Gt (BJ rfl rfl (fun h=>h)) (Gn (.t4 1 8 9 29) ?_))))
  refine Gc (fun c2=>?_) (fun c2=>?_)
  ·
   refine Gs (Ga rfl (Gn (.t1 4) (Ab (AT (AD (AD (AT ?_)))))))
   refine AD ?_
   refine AZ rfl (.tmp rfl .n) ?_
   intro w1 hS;refine⟨congrArg Value.bool ?_,hS.Am⟩;rw [AH.hidden,hI13,show X.L0 b k=true from c2];rfl
  have c2p:=kz c2
  refine Aa ?_
  refine AB (.t3 1 8 9) ?_
  refine AV (AA (AJ ?_))
  refine Gt (Aw rfl rfl (IntWalk.i64_in _ (by omega))) ?_
  refine Gm rfl ?_
  refine AR (AB (.t3 1 8 9) ?_)
  refine Bx (k+1) ?_ ?_ (.t3 9 1 8) (.cons _ (.refl _))
  · exact⟨by omega,by omega,by rw [hI13,show X.L0 b k=false from c2];rfl⟩
  · omega
 have c1p:=kz c1
 obtain rfl:k=9:=by omega
 refine Ba (AW (AW (Af ?_)))
 refine AB (.nil _) ?_
 refine AA (Gs (Ga rfl (AR (AA (Ab ?_)))))
 refine AZ rfl (.tmp rfl .n) ?_
 intro w1 hS;refine⟨congrArg Value.bool ?_,hS.Am⟩;rw [AH.hidden,hI13];rfl
theorem DO (X:AH)(a b:Int)(w:World):Eh Tryz.prog 130 #[.agg X.enc.toArray, .int .i64 a, .int .i64 b] w fun v w'=>v = .bool (X.Ij a b)∧CA w w':=by
 refine Ak [] [] Tryz.func130 rfl rfl rfl (St.start w []) ?_
 refine Gs ?_
 refine B5 rfl rfl rfl (fun b1=>?_)
 refine Ga rfl (Gn (.t3 1 2 3) (CB (Gt (AY rfl BW .m0 (AU.id AH.fl.len AH.fl.one) rfl) (Gm rfl ?_))))
 refine BA rfl W0 (.c rfl (.c rfl .n)) (fun w hS=>GG _ _ w) ?_
 refine Gt (BQ rfl) (Gm rfl (BZ 13 rfl rfl (fun q=>AY rfl BW .m0 (AU.id AH.fl.len AH.fl.one) rfl) (BZ 13 rfl rfl (fun q=>AE rfl) ?_)))
 refine N2 (t:=13) rfl rfl rfl (fun q=>by have q1:=q;(try simp at q1);exact D7 W0 (.c (cF rfl q) (.c (cF rfl q) .n)) (fun w hS=>GG _ _ w)) ?_
 refine BZ 13 rfl rfl (fun q=>BQ (cF rfl q)) ?_
 refine Gt (BS rfl rfl (fun h=>by rw [h];rfl)) ?_
 refine Gn (.t4 1 2 3 18) ?_
 refine Gc (fun c1=>?_) (fun c1=>?_)
 ·
  refine Gs (Ga rfl (Gn (.t1 6) (Ab (AD ?_))))
  refine AZ rfl (.tmp rfl .n) ?_
  intro w1 hS;refine⟨congrArg Value.bool ?_,hS.Am⟩;rw [show X.Ij a b=_ from(BB c1)]
 have c1p:=kz c1
 have hr:(0≤a∧a < 6)∧0≤b∧b < 6:=by simp at c1;have h1:=AH.HI c1.1;have h2:=AH.HI c1.2;omega
 refine Aa ?_
 refine AB (.t3 1 2 3) ?_
 refine AA (CB (Gm rfl (Gm rfl (Gt (Aj rfl rfl) (Gn (.t4 1 2 3 21) ?_)))))
 refine Gc (fun c2=>?_) (fun c2=>?_)
 ·
  refine Gs (Ga rfl (Gn (.t1 6) (Ab (AD ?_))))
  refine AZ rfl (.tmp rfl .n) ?_
  intro w1 hS;refine⟨congrArg Value.bool ?_,hS.Am⟩;rw [show X.Ij a b=_ from((AX c1).trans (BB c2))]
 have c2p:=kz c2
 refine Aa ?_
 refine AB (.t3 1 2 3) ?_
 refine AA (Ap ?_)
 refine BE (N:=12) [0,0,3,7,0,0,48,112,0,0,783,2047] mix (by kernel_rfl) rfl ?_
 refine Pf 0 rfl (AE rfl) (Pf 1 rfl (Ah Bi rfl) ?_)
 refine Pf 2 rfl (AQ Cs rfl rfl (by omega) (by omega)) ?_
 refine Pf 3 rfl (AY rfl Fl .m0 (AH.l2.comp (AU.ar (n:=6) Ag.fl (by omega))) rfl) ?_
 refine Pf 4 rfl (AE rfl) (Pf 5 rfl (Ah Bi rfl) ?_)
 refine Pf 6 rfl (AQ Cs rfl rfl (by omega) (by omega)) ?_
 refine Pf 7 rfl (AY rfl Fl .m0 (AH.l2.comp (AU.ar (n:=6) Ag.fl (by omega))) rfl) ?_
 refine J4 8 9 rfl rfl (by kernel_rfl) ?_ ?_
 ·
  refine BD rfl Lx rfl (fun b2=>?_)
  refine Bp rfl ⟨?_,?_⟩
  · exact(Po rfl (AY rfl Fl .m1 (AH.l2.comp (AU.ar (n:=6) Ag.fl (by omega))) rfl) rfl rfl (Po rfl (AQ Cs rfl rfl (by omega) (by omega)) rfl rfl (Po rfl (Ah Bi rfl) rfl rfl (Po rfl (AE rfl) rfl rfl (Po rfl (AY rfl Fl .m1 (AH.l2.comp (AU.ar (n:=6) Ag.fl (by omega))) rfl) rfl rfl (Po rfl (AQ Cs rfl rfl (by omega) (by omega)) rfl rfl (Po rfl (Ah Bi rfl) rfl rfl (Po rfl (AE rfl) rfl rfl Ar))))))))
  refine An 9 rfl (by kernel_rfl) ?_
  refine BD rfl Lx rfl (fun b3=>?_)
  refine Bp rfl ⟨?_,?_⟩
  · exact(Po rfl (AY rfl Fl .m2 (AH.l2.comp (AU.ar (n:=6) Ag.fl (by omega))) rfl) rfl rfl (Po rfl (AQ Cs rfl rfl (by omega) (by omega)) rfl rfl (Po rfl (Ah Bi rfl) rfl rfl (Po rfl (AE rfl) rfl rfl (Po rfl (AY rfl Fl .m2 (AH.l2.comp (AU.ar (n:=6) Ag.fl (by omega))) rfl) rfl rfl (Po rfl (AQ Cs rfl rfl (by omega) (by omega)) rfl rfl (Po rfl (Ah Bi rfl) rfl rfl (Po rfl (AE rfl) rfl rfl Ar))))))))
  refine An 10 rfl (by kernel_rfl) ?_
  refine AS (AK (AU.id Ag.fl.len Ag.fl.one) rfl rfl rfl KX rfl (.t .h)) ?_
  refine BO rfl ⟨?_,?_⟩
  · exact(Po rfl (AY rfl Fl .m2 (AH.l2.comp (AU.ar (n:=6) Ag.fl (by omega))) rfl) rfl rfl (Po rfl (AQ Cs rfl rfl (by omega) (by omega)) rfl rfl (Po rfl (Ah Bi rfl) rfl rfl (Po rfl (AE rfl) rfl rfl (Pk (Pk (Pk (Pk Ar))))))))
  refine An 11 rfl (by kernel_rfl) ?_
  refine AS (AK (AU.id Ag.fl.len Ag.fl.one) rfl rfl rfl KX rfl .h) ?_
  refine BO rfl ⟨?_,?_⟩
  · exact(Pk (Pk (Pk (Pk (Pk (Pk (Pk (Pk Ar))))))))
  refine A4 (by kernel_rfl) ?_
  refine AB (.t4 2 3 7 8) ?_
  refine AA (Gs (Gt (Ah C2 rfl) (Gt (AG rfl A5 .m1 Ag.l3 rfl rfl) (Gt (Ah C2 rfl) (Gt (AG rfl A5 .m0 Ag.l3 rfl rfl) (Gt (Aj rfl rfl) (Gm rfl ?_)))))))
  refine Bl 35 rfl rfl (fun q=>AY rfl BW .m2 (AU.id AH.fl.len AH.fl.one) rfl) (Bl 35 rfl rfl (fun q=>Ah C2 rfl) (Bl 35 rfl rfl (fun q=>AG (Bf rfl q) A5 .m1 Ag.l3 rfl rfl) ?_))
  refine MP (t:=35) rfl rfl rfl (fun q=>D7 Uf (.c (Bf rfl q) (.c (Bf rfl q) .n)) (fun w hS=>EZ _ _ w)) ?_
  refine Gt (BJ rfl rfl (fun h=>h)) (Gm rfl (Bl 41 rfl rfl (fun q=>Ah Wa rfl) (Bl 41 rfl rfl (fun q=>AG (Bf rfl q) DN .m1 Ag.l2 rfl rfl) (Bl 41 rfl rfl (fun q=>AE (Bf rfl q)) ?_))))
  refine C3 (t:=44) rfl rfl rfl (fun qc q=>AY rfl BW .m2 (AU.id AH.fl.len AH.fl.one) rfl) ?_
  refine C3 (t:=44) rfl rfl rfl (fun qc q=>AE rfl) ?_
  refine Uc (t:=44) rfl rfl rfl (fun qc q=>by have q1:=q;have qc1:=qc;(try simp at q1 qc1);exact D7 Y9 (.c (Bf rfl (by rw [qc,q];rfl)) (.c (Bf rfl (by rw [qc,q];rfl)) .n)) (fun w hS=>Hz _ _ w)) ?_
  refine C3 (t:=44) rfl rfl rfl (fun qc q=>BQ (Bf rfl (by rw [qc,q];rfl))) ?_
  refine Bl 41 rfl rfl (fun q=>BS (Bf rfl q) rfl (fun h=>by rw [q,h];rfl)) ?_
  refine Gt (BJ rfl rfl (fun h=>h)) (Ga rfl (Gn (.t1 6) (Ab ?_)))
  refine AZ rfl (.tmp rfl .n) ?_
  intro w1 hS;refine⟨congrArg Value.bool ?_,hS.Am⟩;rw [show X.Ij a b=_ from((AX c1).trans (AX c2))]
 ·
  refine BD rfl Lx rfl (fun b4=>?_)
  refine Bp rfl ⟨?_,?_⟩
  · exact(Po rfl (AY rfl Fl .m1 (AH.l2.comp (AU.ar (n:=6) Ag.fl (by omega))) rfl) rfl rfl (Po rfl (AQ Cs rfl rfl (by omega) (by omega)) rfl rfl (Po rfl (Ah Bi rfl) rfl rfl (Po rfl (AE rfl) rfl rfl (Po rfl (AY rfl Fl .m1 (AH.l2.comp (AU.ar (n:=6) Ag.fl (by omega))) rfl) rfl rfl (Po rfl (AQ Cs rfl rfl (by omega) (by omega)) rfl rfl (Po rfl (Ah Bi rfl) rfl rfl (Po rfl (AE rfl) rfl rfl Ar))))))))
  refine An 8 rfl (by kernel_rfl) ?_
  refine BD rfl Lx rfl (fun b5=>?_)
  refine Bp rfl ⟨?_,?_⟩
  · exact(Po rfl (AY rfl Fl .m2 (AH.l2.comp (AU.ar (n:=6) Ag.fl (by omega))) rfl) rfl rfl (Po rfl (AQ Cs rfl rfl (by omega) (by omega)) rfl rfl (Po rfl (Ah Bi rfl) rfl rfl (Po rfl (AE rfl) rfl rfl (Po rfl (AY rfl Fl .m2 (AH.l2.comp (AU.ar (n:=6) Ag.fl (by omega))) rfl) rfl rfl (Po rfl (AQ Cs rfl rfl (by omega) (by omega)) rfl rfl (Po rfl (Ah Bi rfl) rfl rfl (Po rfl (AE rfl) rfl rfl Ar))))))))
  refine An 10 rfl (by kernel_rfl) ?_
  refine AS (AK (AU.id Ag.fl.len Ag.fl.one) rfl rfl rfl KX rfl .h) ?_
  refine BO rfl ⟨?_,?_⟩
  · exact(Po rfl (AY rfl Fl .m2 (AH.l2.comp (AU.ar (n:=6) Ag.fl (by omega))) rfl) rfl rfl (Po rfl (AQ Cs rfl rfl (by omega) (by omega)) rfl rfl (Po rfl (Ah Bi rfl) rfl rfl (Po rfl (AE rfl) rfl rfl (Pk (Pk (Pk (Pk Ar))))))))
  refine An 11 rfl (by kernel_rfl) ?_
  refine AS (AK (AU.id Ag.fl.len Ag.fl.one) rfl rfl rfl KX rfl (.t .h)) ?_
  refine BO rfl ⟨?_,?_⟩
  · exact(Pk (Pk (Pk (Pk (Pk (Pk (Pk (Pk Ar))))))))
  refine A4 (by kernel_rfl) ?_
  refine AB (.t4 2 3 7 8) ?_
  refine AA (Gs (Gt (Ah C2 rfl) (Gt (AG rfl A5 .m0 Ag.l3 rfl rfl) (Gt (Ah C2 rfl) (Gt (AG rfl A5 .m1 Ag.l3 rfl rfl) (Gt (Aj rfl rfl) (Gm rfl ?_)))))))
  refine Bl 35 rfl rfl (fun q=>AY rfl BW .m2 (AU.id AH.fl.len AH.fl.one) rfl) (Bl 35 rfl rfl (fun q=>Ah C2 rfl) (Bl 35 rfl rfl (fun q=>AG (Bf rfl q) A5 .m0 Ag.l3 rfl rfl) ?_))
  refine MP (t:=35) rfl rfl rfl (fun q=>D7 Uf (.c (Bf rfl q) (.c (Bf rfl q) .n)) (fun w hS=>EZ _ _ w)) ?_
  refine Gt (BJ rfl rfl (fun h=>h)) (Gm rfl (Bl 41 rfl rfl (fun q=>Ah Wa rfl) (Bl 41 rfl rfl (fun q=>AG (Bf rfl q) DN .m0 Ag.l2 rfl rfl) (Bl 41 rfl rfl (fun q=>AE (Bf rfl q)) ?_))))
  refine C3 (t:=44) rfl rfl rfl (fun qc q=>AY rfl BW .m2 (AU.id AH.fl.len AH.fl.one) rfl) ?_
  refine C3 (t:=44) rfl rfl rfl (fun qc q=>AE rfl) ?_
  refine Uc (t:=44) rfl rfl rfl (fun qc q=>by have q1:=q;have qc1:=qc;(try simp at q1 qc1);exact D7 Y9 (.c (Bf rfl (by rw [qc,q];rfl)) (.c (Bf rfl (by rw [qc,q];rfl)) .n)) (fun w hS=>Hz _ _ w)) ?_
  refine C3 (t:=44) rfl rfl rfl (fun qc q=>BQ (Bf rfl (by rw [qc,q];rfl))) ?_
  refine Bl 41 rfl rfl (fun q=>BS (Bf rfl q) rfl (fun h=>by rw [q,h];rfl)) ?_
  refine Gt (BJ rfl rfl (fun h=>h)) (Ga rfl (Gn (.t1 6) (Ab ?_)))
  refine AZ rfl (.tmp rfl .n) ?_
  intro w1 hS;refine⟨congrArg Value.bool ?_,hS.Am⟩;rw [show X.Ij a b=_ from((AX c1).trans (AX c2))]
theorem NA (k:Int)(w:World):Eh Tryz.prog 173 #[.int .i64 k] w fun v w'=>v = .bool (AH.aU k)∧CA w w':=by
 refine Ak [] [] Tryz.func173 rfl rfl rfl (St.start w []) ?_
 refine Gs (Ga rfl (Gn (.t1 0) (Gs (Gm rfl (Gt (Aj rfl rfl) (Gm rfl (BZ 5 rfl rfl (fun q=>AE rfl) ?_)))))))
 refine BZ 5 rfl rfl (fun q=>Aj (cF rfl q) rfl) ?_
 refine Gt (BS rfl rfl (fun h=>by rw [h];rfl)) ?_
 refine Gm rfl (BZ 9 rfl rfl (fun q=>AE rfl) (BZ 9 rfl rfl (fun q=>Aj (cF rfl q) rfl) ?_))
 refine Gt (BS rfl rfl (fun h=>by rw [h];rfl)) ?_
 refine Ga rfl (Gn (.t1 2) (Ab ?_))
 refine AZ rfl (.tmp rfl .n) ?_
 intro w1 hS;refine⟨?_,hS.Am⟩;rfl
theorem Jm (X:AH)(b:Int)(e:Ing.Event)(w:World):Eh Tryz.prog 157 #[.agg X.enc.toArray, .int .i64 b, .agg e.enc.toArray] w fun v w'=>v = .int .i64 (X.Dq b e)∧CA w w':=by
 refine Ak [] [] Tryz.func157 rfl rfl rfl (St.start w []) ?_
 refine Gs ?_
 refine B5 rfl rfl rfl (fun b1=>?_)
 refine B5 rfl rfl rfl (fun b2=>?_)
 refine Ga rfl (Gn (.t3 1 3 5) (Ap (Ae (Gs (Gt (AY rfl BW .m1 (AU.id AH.fl.len AH.fl.one) rfl) (Gm rfl ?_))))))
 refine BA rfl W0 (.c rfl (.c rfl .n)) (fun w hS=>GG _ _ w) ?_
 refine Gt (BQ rfl) (Ga rfl (Gn (.t4 1 3 5 8) ?_))
 refine Gc (fun c1=>?_) (fun c1=>?_)
 ·
  refine Gs (Ga rfl (Gn (.t1 6) (Ab (AT (AD ?_)))))
  refine AZ rfl (.tmp rfl .n) ?_
  intro w1 hS;refine⟨?_,hS.Am⟩;rw [show X.Dq b e=_ from(BB c1)];rfl
 have c1p:=kz c1
 have hr:0≤b∧b < 6:=by simp at c1;have h1:=AH.HI c1;omega
 refine Gs (Gm rfl (Gt (Ah Qg rfl) (Gt (AG rfl A5 .m0 Ing.Event.l2 rfl rfl) (Gt (Aj rfl rfl) (Ga rfl (Gn (.t4 1 3 5 13) ?_))))))
 refine Gc (fun c2=>?_) (fun c2=>?_)
 ·
  refine CB (Gt (Ah Gx rfl) (Gt (AG rfl A5 .m0 Ing.Event.l3 rfl rfl) (Gt (A8 rfl rfl) (Gm rfl (BZ 21 rfl rfl (fun q=>Ah Gx rfl) (BZ 21 rfl rfl (fun q=>AG (cF rfl q) A5 .m0 Ing.Event.l3 rfl rfl) (BZ 21 rfl rfl (fun q=>CI (cF rfl q) rfl) ?_)))))))
  refine Gt (BS rfl rfl (fun h=>by rw [h];rfl)) ?_
  refine Gm rfl (BZ 26 rfl rfl (fun q=>AY rfl BW .m1 (AU.id AH.fl.len AH.fl.one) rfl) (BZ 26 rfl rfl (fun q=>AE rfl) (BZ 26 rfl rfl (fun q=>Ah Gx rfl) (BZ 26 rfl rfl (fun q=>AG (cF rfl q) A5 .m0 Ing.Event.l3 rfl rfl) ?_))))
  refine N2 (t:=26) rfl rfl rfl (fun q=>by have q1:=q;(try simp at q1);exact D7 OD (.c (cF rfl q) (.c (cF rfl q) (.c (cF rfl q) .n))) (fun w hS=>DO _ _ _ w)) ?_
  refine Gt (BS rfl rfl (fun h=>by rw [h];rfl)) ?_
  refine Gn (.t1 32) ?_
  refine Gc (fun c3=>?_) (fun c3=>?_)
  ·
   refine Gs (Ga rfl (Gn (.t1 6) (Ab (AD (AT (AD ?_))))))
   refine AZ rfl (.tmp rfl .n) ?_
   intro w1 hS;refine⟨?_,hS.Am⟩;rw [show X.Dq b e=_ from((AX c1).trans ((BB c2).trans (BB c3)))];rfl
  refine Aa ?_
  refine AB (.nil _) ?_
  refine AA (Gs (Ga rfl (AR (AA (Ab (AT (AD ?_)))))))
  refine AZ rfl (.tmp rfl .n) ?_
  intro w1 hS;refine⟨?_,hS.Am⟩;rw [show X.Dq b e=_ from((AX c1).trans ((BB c2).trans (AX c3)))];rfl
 have c2p:=kz c2
 refine Ap ?_
 refine BE (N:=14) [0,1,3,7,15,15,63,127,255,15,527,2047,4095,8191] mix (by kernel_rfl) rfl ?_
 refine Pf 0 rfl (Ah Si rfl) (Pf 1 rfl (AG rfl A5 .m0 Ing.Event.l0 rfl rfl) (Pf 2 rfl (Aj rfl rfl) (Pf 3 rfl (AE rfl) (Hf 4 37 rfl rfl rfl (fun q=>AE rfl) (Hf 5 37 rfl rfl rfl (fun q=>Ah Bi rfl) ?_)))))
 refine BN 6 rfl rfl (by kernel_rfl) (G6 (t:=37) rfl rfl (fun q=>by have q1:=q;(try simp at q1);exact Ge (AQ Cs (cF rfl q) (cF rfl q) (by omega) (by omega)))) ?_
 refine Hf 7 37 rfl rfl rfl (fun q=>Ah C2 (cF rfl q)) ?_
 refine BN 8 rfl rfl (by kernel_rfl) (G6 (t:=37) rfl rfl (fun q=>by have q1:=q;(try simp at q1);exact Ge (AG (cF rfl q) A5 .m1 ((AH.l2.comp (AU.ar (n:=6) Ag.fl (by omega))).comp Ag.l3) rfl rfl))) ?_
 refine Hf 9 37 rfl rfl rfl (fun q=>Ah WL rfl) (Hf 10 37 rfl rfl rfl (fun q=>AG (cF rfl q) A5 .m0 Ing.Event.l1 rfl rfl) (Hf 11 37 rfl rfl rfl (fun q=>Ce (cF rfl q) (cF rfl q)) ?_))
 refine Pf 12 rfl (BS rfl rfl (fun h=>by rw [h];rfl)) ?_
 refine Pf 13 rfl (A0 rfl) ?_
 refine A4 (by kernel_rfl) ?_
 refine AB (.t4 1 3 5 33) ?_
 refine AA ?_
 refine Gc (fun c4=>?_) (fun c4=>?_)
 ·
  refine Gs (Ga rfl (Gn (.t1 6) (Ab (AT (AD ?_)))))
  refine AZ rfl (.tmp rfl .n) ?_
  intro w1 hS;refine⟨?_,hS.Am⟩;rw [show X.Dq b e=_ from((AX c1).trans ((AX c2).trans (BB c4)))];rfl
 have c4p:=kz c4
 refine Aa ?_
 refine AB (.t3 1 3 5) ?_
 refine AV (AA (Gs (Ga rfl (AR (AA (CB (Gt (AY rfl BW .m1 (AU.id AH.fl.len AH.fl.one) rfl) ?_)))))))
 refine Gm rfl (Gt (Ah Qg rfl) (Gt (AG rfl A5 .m0 Ing.Event.l2 rfl rfl) ?_))
 refine BA rfl OD (.c rfl (.c rfl (.c rfl .n))) (fun w hS=>DO _ _ _ w) ?_
 refine Gt (BQ rfl) (Gn (.t5 1 3 5 7 52) ?_)
 refine Gc (fun c5=>?_) (fun c5=>?_)
 ·
  have c5p:=kz c5
  refine CB (Gt (Ah Si rfl) (Gt (AG rfl A5 .m0 Ing.Event.l0 rfl rfl) ?_))
  refine BA rfl av (.c rfl .n) (fun w hS=>NA _ w) ?_
  refine Gt (BQ rfl) (Gn (.t5 1 3 5 7 56) ?_)
  refine Gc (fun c6=>?_) (fun c6=>?_)
  ·
   refine Gs (Ga rfl (Gn (.t1 6) (Ab (AD (AD ?_)))))
   refine AZ rfl (.tmp rfl .n) ?_
   intro w1 hS;refine⟨?_,hS.Am⟩;rw [show X.Dq b e=_ from((AX c1).trans ((AX c2).trans ((AX c4).trans ((BB c5).trans (BB c6)))))];rfl
  have c6p:=kz c6
  refine Aa ?_
  refine AB (.t4 1 3 5 7) ?_
  refine AA (AJ (Gm rfl ?_))
  refine Gt (Aw rfl rfl (IntWalk.i64_in _ (by omega))) ?_
  refine Ga rfl (Gn (.t4 1 3 5 7) (CB (Gt (Ah Gx rfl) (Gt (AG rfl A5 .m0 Ing.Event.l3 rfl rfl) (Gt (CI rfl rfl) (Gm rfl (Bl 62 rfl rfl (fun q=>Ah Gx rfl) ?_)))))))
  refine Bl 62 rfl rfl (fun q=>AG (Bf rfl q) A5 .m0 Ing.Event.l3 rfl rfl) (Bl 62 rfl rfl (fun q=>A8 (Bf rfl q) rfl) (Gt (BJ rfl rfl (fun h=>h)) (Gm rfl (Bl 67 rfl rfl (fun q=>AY rfl BW .m1 (AU.id AH.fl.len AH.fl.one) rfl) (Bl 67 rfl rfl (fun q=>AE rfl) (Bl 67 rfl rfl (fun q=>Ah Gx rfl) (Bl 67 rfl rfl (fun q=>AG (Bf rfl q) A5 .m0 Ing.Event.l3 rfl rfl) ?_)))))))
  refine MP (t:=67) rfl rfl rfl (fun q=>D7 OD (.c (Bf rfl q) (.c (Bf rfl q) (.c (Bf rfl q) .n))) (fun w hS=>DO _ _ _ w)) ?_
  refine Bl 67 rfl rfl (fun q=>BQ (Bf rfl q)) (Gt (BJ rfl rfl (fun h=>h)) (Gn (.t2 7 74) ?_))
  refine Gc (fun c7=>?_) (fun c7=>?_)
  ·
   have c7p:=kz c7
   refine AJ (Gm rfl ?_)
   refine Gt (Aw rfl rfl (IntWalk.i64_in _ (by omega))) ?_
   refine Ga rfl (Gn (.t1 7) (Gs (Gm rfl (Ga rfl (Gn (.t1 6) (Ab ?_))))))
   refine AZ rfl (.tmp rfl .n) ?_
   intro w1 hS;refine⟨?_,hS.Am⟩;rw [show X.Dq b e=_ from((AX c1).trans ((AX c2).trans ((AX c4).trans ((BB c5).trans ((AX c6).trans (BB c7))))))];rfl
  refine Aa ?_
  refine AB (.t1 7) ?_
  refine AA (Gs (Gm rfl (Ga rfl (Gn (.t1 6) (Ab ?_)))))
  refine AZ rfl (.tmp rfl .n) ?_
  intro w1 hS;refine⟨?_,hS.Am⟩;rw [show X.Dq b e=_ from((AX c1).trans ((AX c2).trans ((AX c4).trans ((BB c5).trans ((AX c6).trans (AX c7))))))];rfl
 have c5p:=kz c5
 refine Aa ?_
 refine AB (.t4 1 3 5 7) ?_
 refine AA (CB (Gt (Ah Gx rfl) (Gt (AG rfl A5 .m0 Ing.Event.l3 rfl rfl) (Gt (CI rfl rfl) (Gm rfl (Bl 62 rfl rfl (fun q=>Ah Gx rfl) (Bl 62 rfl rfl (fun q=>AG (Bf rfl q) A5 .m0 Ing.Event.l3 rfl rfl) ?_)))))))
 refine Bl 62 rfl rfl (fun q=>A8 (Bf rfl q) rfl) (Gt (BJ rfl rfl (fun h=>h)) (Gm rfl (Bl 67 rfl rfl (fun q=>AY rfl BW .m1 (AU.id AH.fl.len AH.fl.one) rfl) (Bl 67 rfl rfl (fun q=>AE rfl) (Bl 67 rfl rfl (fun q=>Ah Gx rfl) (Bl 67 rfl rfl (fun q=>AG (Bf rfl q) A5 .m0 Ing.Event.l3 rfl rfl) ?_))))))
 refine MP (t:=67) rfl rfl rfl (fun q=>D7 OD (.c (Bf rfl q) (.c (Bf rfl q) (.c (Bf rfl q) .n))) (fun w hS=>DO _ _ _ w)) ?_
 refine Bl 67 rfl rfl (fun q=>BQ (Bf rfl q)) (Gt (BJ rfl rfl (fun h=>h)) (Gn (.t2 7 74) ?_))
 refine Gc (fun c8=>?_) (fun c8=>?_)
 ·
  have c8p:=kz c8
  refine AJ (Gm rfl ?_)
  refine Gt (Aw rfl rfl (IntWalk.i64_in _ (by omega))) ?_
  refine Ga rfl (Gn (.t1 7) (Gs (Gm rfl (Ga rfl (Gn (.t1 6) (Ab ?_))))))
  refine AZ rfl (.tmp rfl .n) ?_
  intro w1 hS;refine⟨?_,hS.Am⟩;rw [show X.Dq b e=_ from((AX c1).trans ((AX c2).trans ((AX c4).trans ((AX c5).trans (BB c8)))))];rfl
 refine Aa ?_
 refine AB (.t1 7) ?_
 refine AA (Gs (Gm rfl (Ga rfl (Gn (.t1 6) (Ab ?_)))))
 refine AZ rfl (.tmp rfl .n) ?_
 intro w1 hS;refine⟨?_,hS.Am⟩;rw [show X.Dq b e=_ from((AX c1).trans ((AX c2).trans ((AX c4).trans ((AX c5).trans (AX c8)))))];rfl
theorem Jt (X:AH)(e:Ing.Event)(w:World):Eh Tryz.prog 123 #[.agg X.enc.toArray, .agg e.enc.toArray] w fun v w'=>v = .agg (X.Hj e 6).enc.toArray∧CA w w':=by
 refine Ak [] [] Tryz.func123 rfl rfl rfl (St.start w []) ?_
 refine Gs ?_
 refine B5 rfl rfl rfl (fun b1=>?_)
 refine B5 rfl rfl rfl (fun b2=>?_)
 refine BD rfl IU rfl (fun b3=>?_)
 refine Gn (.t3 2 3 4) (CB (Gm rfl (AR (AA (Ae ?_)))))
 refine Bo (.t4 6 2 3 4) ?_
 refine Bh (.t .h) ?_
 refine CQ (fun(k:Int)=>0≤k∧k≤6) (fun(k:Int)=>(6 - k).toNat) (fun(k:Int)=> [(6, .int .i64 k)]) (fun(k:Int)=> [Ac.box b2 56 (Ing.Event.enc (X.Hj e k.toNat))]) (0) ?_ rfl rfl (fun k hI1=>?_)
 · exact⟨Int.le_refl _,by omega⟩
 obtain⟨hI11,hI12⟩:=hI1
 refine Gs (Gt (A8 rfl rfl) (AR (AA (Ap ?_))))
 refine Gc (fun c1=>?_) (fun c1=>?_)
 ·
  have c1p:=kz c1
  refine Aa ?_
  refine AB (.t4 2 3 4 6) ?_
  refine AA (Ap (Ae (Gs (Gm rfl (Ga rfl (Gn (.t5 2 3 4 5 6) (AJ ?_)))))))
  refine Gm rfl (Gt (AY rfl BW .m2 (AU.id AH.fl.len AH.fl.one) rfl) (Gm rfl (Gt (AY rfl PA .m0 (AU.id Ing.Event.fl.len Ing.Event.fl.one) rfl) ?_)))
  refine BA rfl bK (.c rfl (.c rfl (.c rfl .n))) (fun w hS=>Jm _ _ _ w) ?_
  refine Gt (Ah NK rfl) ?_
  refine Gt (AQ R4 rfl rfl (by omega) (by omega)) ?_
  refine AS (AK (Ing.Event.l10.comp (AU.ar (n:=6) B2 (by omega))) rfl rfl rfl DB rfl .h) ?_
  refine AR (AB (.t4 2 3 4 6) ?_)
  refine AV (AA (AJ ?_))
  refine Gt (Aw rfl rfl (IntWalk.i64_in _ (by omega))) ?_
  refine Gm rfl ?_
  refine AR (AB (.t4 2 3 4 6) ?_)
  refine Bx (k+1) ?_ ?_ (.t4 6 2 3 4) (by rw [AH.VW (by omega)];exact(.refl _))
  · exact⟨by omega,by omega⟩
  · omega
 have c1p:=kz c1
 obtain rfl:k=6:=by omega
 refine Ba (AW (AW (Af ?_)))
 refine AB (.t2 3 4) ?_
 refine AA (Gs (Gt (AY rfl PA .m0 (AU.id Ing.Event.fl.len Ing.Event.fl.one) rfl) ?_))
 refine AS (AK (AU.id Ing.Event.fl.len Ing.Event.fl.one) rfl rfl rfl Nl rfl (.t .h)) ?_
 refine Gn (.t1 4) (Ab ?_)
 refine AZ rfl (.cell rfl .m1 (.inl ⟨(by rw [Ing.Event.fl.len];exact PA),rfl⟩) .n) ?_
 intro w1 hS;refine⟨?_,hS.Am⟩;rfl
end Go.Proofs.YtoidpggbbfncpaaGreatDoor
