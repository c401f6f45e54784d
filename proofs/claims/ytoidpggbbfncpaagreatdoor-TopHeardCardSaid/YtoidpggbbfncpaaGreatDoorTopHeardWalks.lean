/- What the functions that the law TopHeard reaches compute: walks, part 1. No condition. -/
import Derived.Test.YtoidpggbbfncpaaGreatDoorCards
import Derived.Test.YtoidpggbbfncpaaGreatDoorTie
import Derived.Deep.DeepHandedRow
import Derived.Test.YtoidpggbbfncpaaGreatDoorRows
import Derived.Test.YtoidpggbbfncpaaGreatDoorTopHeardEc3
import Derived.Test.YtoidpggbbfncpaaGreatDoorTopHeardRa1
import Derived.Test.YtoidpggbbfncpaaGreatDoorTopHeardRb1
import Derived.Test.YtoidpggbbfncpaaGreatDoorTopHeardRc1
set_option linter.unusedSimpArgs false
set_option linter.unusedVariables false
set_option maxRecDepth 100000
set_option maxHeartbeats 1000000
namespace Go.Proofs.YtoidpggbbfncpaaGreatDoor
open Go Go.Ing Go.RowKit Go.ChangeShapes Go.WideShapes Go.ChangeAt
theorem dw:Sz Tryz.prog 99 88:=Dv (by kernel_rfl)
theorem HI:FA Tryz.prog 101 1 165:=Bw Tryz.underlying101 rfl dw
theorem Tw:Sz Tryz.prog 98 22:=Dv (by kernel_rfl)
theorem RV:IA Tryz.prog 99 4 22:=Lx Tryz.underlying99 Tw
theorem DB:Sz Tryz.prog 3 1:=Dv (by kernel_rfl)
theorem JF:FA Tryz.prog 98 0 0:=Bw Tryz.underlying98 rfl DB
theorem A4:Ro Tryz.prog 3:=JC Tryz.underlying3 rfl
theorem mix:Tryz.prog.follows .mixedOrders=true:=by kernel_rfl
theorem IV:FA Tryz.prog 98 1 1:=Bw Tryz.underlying98 rfl DB
theorem S9:Sz Tryz.prog 53 1:=Dv (by kernel_rfl)
theorem Na:FA Tryz.prog 101 3 254:=Bw Tryz.underlying101 rfl S9
theorem Dn:Ro Tryz.prog 53:=JC Tryz.underlying53 rfl
theorem MJ:Sz Tryz.prog 56 16:=Dv (by kernel_rfl)
theorem Hx:ZV Tryz.prog 56 (.agg (Ing.Event.enc (default:Ing.Event)).toArray):=E9 (by kernel_rfl)
theorem Vf:BY Tryz.prog 56 160:=VF (by kernel_rfl)
theorem ab:Sz Tryz.prog 104 1:=Dv (by kernel_rfl)
theorem RB:FA Tryz.prog 107 0 0:=Bw Tryz.underlying107 rfl ab
theorem Y1:Ro Tryz.prog 104:=JC Tryz.underlying104 rfl
theorem Tr:∃ i,Tryz.prog.info? 107=some i∧i.size≠0:=by
  have h:(Tryz.prog.info? 107).map (·.size)=some 2:=by kernel_rfl
  obtain⟨i,h1,h2⟩:=Option.map_eq_some_iff.1 h
  exact⟨i,h1,by omega⟩
theorem bz:CF Tryz.prog 71:=Tryz.call71
theorem VM:Sz Tryz.prog 105 1:=Dv (by kernel_rfl)
theorem E6:FA Tryz.prog 107 1 1:=Bw Tryz.underlying107 rfl VM
theorem IT:Ro Tryz.prog 105:=JC Tryz.underlying105 rfl
theorem VO:Sz Tryz.prog 5 1:=Dv (by kernel_rfl)
theorem bL:ZV Tryz.prog 5 (.int .u8 0):=E9 (by kernel_rfl)
theorem ew:BY Tryz.prog 5 1:=VF (by kernel_rfl)
theorem Em:Sz Tryz.prog 9 1:=Dv (by kernel_rfl)
theorem Y7:IA Tryz.prog 133 21 1:=Lx Tryz.underlying133 Em
theorem CO:Ro Tryz.prog 9:=JC Tryz.underlying9 rfl
theorem gO:Tryz.prog.cellsOf 5=1:=by kernel_rfl
theorem Ye:Sz Tryz.prog 23 6:=Dv (by kernel_rfl)
theorem Nb:FA Tryz.prog 56 10 10:=Bw Tryz.underlying56 rfl Ye
theorem SP:IA Tryz.prog 23 6 1:=Lx Tryz.underlying23 DB
theorem TZ:FA Tryz.prog 56 0 0:=Bw Tryz.underlying56 rfl DB
theorem fv:CF Tryz.prog 49:=Tryz.call49
theorem Qn:FA Tryz.prog 56 2 2:=Bw Tryz.underlying56 rfl DB
theorem Xg:FA Tryz.prog 56 6 6:=Bw Tryz.underlying56 rfl Em
theorem Xs:FA Tryz.prog 56 7 7:=Bw Tryz.underlying56 rfl Em
theorem G8:FA Tryz.prog 56 3 3:=Bw Tryz.underlying56 rfl DB
theorem Ug:ZV Tryz.prog 107 (.agg (Db.enc ⟨none,⟨none,0,0⟩⟩).toArray):=E9 (by kernel_rfl)
theorem ZO:CF Tryz.prog 50:=Tryz.call50
theorem Pq:CF Tryz.prog 51:=Tryz.call51
theorem bF:FA Tryz.prog 56 8 8:=Bw Tryz.underlying56 rfl Em
theorem bh:FA Tryz.prog 56 4 4:=Bw Tryz.underlying56 rfl DB
theorem dT:CF Tryz.prog 52:=Tryz.call52
theorem bH:FA Tryz.prog 56 9 9:=Bw Tryz.underlying56 rfl Em
theorem cB:FA Tryz.prog 56 5 5:=Bw Tryz.underlying56 rfl DB
theorem fj:CF Tryz.prog 53:=Tryz.call53
theorem Z4:CF Tryz.prog 54:=Tryz.call54
theorem N1:Sz Tryz.prog 52 1:=Dv (by kernel_rfl)
theorem Rf:FA Tryz.prog 98 5 21:=Bw Tryz.underlying98 rfl N1
theorem F9:Ro Tryz.prog 52:=JC Tryz.underlying52 rfl
theorem Qw:ZV Tryz.prog 9 (BU []):=E9 (by kernel_rfl)
theorem XE:BY Tryz.prog 9 16:=VF (by kernel_rfl)
theorem IM:IS Tryz.prog 52 1:=Oc Tryz.underlying52 Em
theorem cr:CF Tryz.prog 21:=Tryz.call21
theorem bR:IA Tryz.prog 49 4 1:=Lx Tryz.underlying49 DB
theorem ep:CF Tryz.prog 22:=Tryz.call22
theorem cl:IS Tryz.prog 53 16:=Oc Tryz.underlying53 MJ
theorem Ln:OV Tryz.prog 56 16:=FB Tryz.underlying56 rfl MJ
theorem dk:CF Tryz.prog 23:=Tryz.call23
theorem eK:CF Tryz.prog 24:=Tryz.call24
theorem en:CF Tryz.prog 25:=Tryz.call25
theorem fY:CF Tryz.prog 26:=Tryz.call26
theorem NS:ZV Tryz.prog 35 (.agg (AG.enc (default:AG)).toArray):=E9 (by kernel_rfl)
theorem Wv:ZV Tryz.prog 23 (.agg (B3 (n:=6) Aw (Vector.replicate 6 default)).toArray):=E9 (by kernel_rfl)
theorem Kd:Sz Tryz.prog 4 1:=Dv (by kernel_rfl)
theorem eB:ZV Tryz.prog 24 (.agg (B3 (n:=6) Cb (Vector.replicate 6 default)).toArray):=E9 (by kernel_rfl)
theorem eJ:Sz Tryz.prog 24 6:=Dv (by kernel_rfl)
theorem VT:Hs Tryz.prog 26 [(0,1),(1,1),(2,6),(8,6)]:=⟨_,Tryz.underlying26,fun w=>by simp [Em w,Kd w,Ye w,eJ w]⟩
theorem N6:ZV Tryz.prog 26 (.agg (Room.enc (default:Room)).toArray):=E9 (by kernel_rfl)
theorem RW:Sz Tryz.prog 26 14:=Dv (by kernel_rfl)
theorem fK:IS Tryz.prog 95 14:=Oc Tryz.underlying95 RW
theorem N7:OV Tryz.prog 26 14:=FB Tryz.underlying26 rfl RW
theorem dp:Sz Tryz.prog 27 84:=Dv (by kernel_rfl)
theorem G4:FA Tryz.prog 35 0 0:=Bw Tryz.underlying35 rfl dp
theorem O6:IA Tryz.prog 27 6 14:=Lx Tryz.underlying27 RW
theorem Re:Hs Tryz.prog 29 [(0,1),(1,1),(2,1),(3,1),(4,1)]:=⟨_,Tryz.underlying29,fun w=>by simp [Em w,DB w,Kd w]⟩
theorem Kf:ZV Tryz.prog 29 (.agg (Am.enc (default:Am)).toArray):=E9 (by kernel_rfl)
theorem NT:Sz Tryz.prog 29 5:=Dv (by kernel_rfl)
theorem fS:IS Tryz.prog 96 5:=Oc Tryz.underlying96 NT
theorem M5:OV Tryz.prog 29 5:=FB Tryz.underlying29 rfl NT
theorem ch:Sz Tryz.prog 30 45:=Dv (by kernel_rfl)
theorem Cx:FA Tryz.prog 35 1 84:=Bw Tryz.underlying35 rfl ch
theorem GO:IA Tryz.prog 30 9 5:=Lx Tryz.underlying30 NT
theorem Xu:Hs Tryz.prog 32 [(0,1),(1,1),(2,1),(3,1),(4,1),(5,1)]:=⟨_,Tryz.underlying32,fun w=>by simp [Em w,Kd w,DB w]⟩
theorem ME:ZV Tryz.prog 32 (.agg (Aj.enc (default:Aj)).toArray):=E9 (by kernel_rfl)
theorem cz:Sz Tryz.prog 33 36:=Dv (by kernel_rfl)
theorem Bs:FA Tryz.prog 35 2 129:=Bw Tryz.underlying35 rfl cz
theorem KZ:Sz Tryz.prog 32 6:=Dv (by kernel_rfl)
theorem C8:IA Tryz.prog 33 6 6:=Lx Tryz.underlying33 KZ
theorem EC:Sz Tryz.prog 35 165:=Dv (by kernel_rfl)
theorem BZ:OV Tryz.prog 35 165:=FB Tryz.underlying35 rfl EC
theorem ei:CF Tryz.prog 15:=Tryz.call15
theorem ck:Hs Tryz.prog 101 [(0,165),(165,88),(253,1),(254,1)]:=⟨_,Tryz.underlying101,fun w=>by simp [EC w,dw w,DB w,S9 w]⟩
theorem dm:ZV Tryz.prog 101 (.agg (AL.enc (default:AL)).toArray):=E9 (by kernel_rfl)
theorem ca:ZV Tryz.prog 75 (.agg (BN.enc ⟨[],false,false,⟨none,0,0⟩⟩).toArray):=E9 (by kernel_rfl)
theorem GP:FA Tryz.prog 75 3 3:=Bw Tryz.underlying75 rfl N1
theorem Nx:Sz Tryz.prog 75 4:=Dv (by kernel_rfl)
theorem J8:OV Tryz.prog 75 4:=FB Tryz.underlying75 rfl Nx
theorem VN:CF Tryz.prog 69:=Tryz.call69
theorem Y2:ZV Tryz.prog 65 (.agg (Az.enc ⟨⟨none,0,0⟩,0,false,[],false⟩).toArray):=E9 (by kernel_rfl)
theorem Q1:FA Tryz.prog 65 2 2:=Bw Tryz.underlying65 rfl Kd
theorem MW:FA Tryz.prog 65 1 1:=Bw Tryz.underlying65 rfl DB
theorem Fw:Sz Tryz.prog 65 5:=Dv (by kernel_rfl)
theorem C3:OV Tryz.prog 65 5:=FB Tryz.underlying65 rfl Fw
theorem dB:CF Tryz.prog 116:=Tryz.call116
theorem aP:CF Tryz.prog 115:=Tryz.call115
theorem G1:FA Tryz.prog 29 1 1:=Bw Tryz.underlying29 rfl DB
theorem GN:FA Tryz.prog 29 4 4:=Bw Tryz.underlying29 rfl Kd
theorem Dr:Ro Tryz.prog 4:=JC Tryz.underlying4 rfl
theorem DM:FA Tryz.prog 29 3 3:=Bw Tryz.underlying29 rfl DB
theorem FY:FA Tryz.prog 29 2 2:=Bw Tryz.underlying29 rfl DB
theorem IW:FA Tryz.prog 32 1 1:=Bw Tryz.underlying32 rfl Kd
theorem dY:OV Tryz.prog 27 84:=FB Tryz.underlying27 rfl dp
theorem Mq:FA Tryz.prog 26 2 2:=Bw Tryz.underlying26 rfl Ye
theorem aY:OV Tryz.prog 23 6:=FB Tryz.underlying23 rfl Ye
theorem Ma:FA Tryz.prog 26 3 8:=Bw Tryz.underlying26 rfl eJ
theorem V9:IA Tryz.prog 24 6 1:=Lx Tryz.underlying24 Kd
theorem aR:OV Tryz.prog 33 36:=FB Tryz.underlying33 rfl cz
theorem F6:OV Tryz.prog 32 6:=FB Tryz.underlying32 rfl KZ
theorem C4:FA Tryz.prog 32 3 3:=Bw Tryz.underlying32 rfl DB
theorem J2:FA Tryz.prog 32 4 4:=Bw Tryz.underlying32 rfl DB
theorem GC:FA Tryz.prog 32 5 5:=Bw Tryz.underlying32 rfl DB
theorem fp:CF Tryz.prog 68:=Tryz.call68
theorem cQ:FA Tryz.prog 26 1 1:=Bw Tryz.underlying26 rfl Kd
theorem Xl:OV Tryz.prog 30 45:=FB Tryz.underlying30 rfl ch
theorem fw:CF Tryz.prog 19:=Tryz.call19
theorem ZD:CF Tryz.prog 159:=Tryz.call159
theorem VK:CF Tryz.prog 129:=Tryz.call129
theorem Ya:FA Tryz.prog 32 2 2:=Bw Tryz.underlying32 rfl Kd
theorem ao:CF Tryz.prog 160:=Tryz.call160
theorem OK:CF Tryz.prog 130:=Tryz.call130
theorem X0:FA Tryz.prog 56 1 1:=Bw Tryz.underlying56 rfl DB
theorem dn:CF Tryz.prog 173:=Tryz.call173
theorem eW:CF Tryz.prog 157:=Tryz.call157
theorem CR:FA Tryz.prog 163 1 165:=Bw Tryz.underlying163 rfl DB
theorem A9:FA Tryz.prog 163 0 0:=Bw Tryz.underlying163 rfl EC
theorem K3:FA Tryz.prog 32 0 0:=Bw Tryz.underlying32 rfl Em
theorem CL:FA Tryz.prog 163 2 166:=Bw Tryz.underlying163 rfl S9
theorem av:CF Tryz.prog 123:=Tryz.call123
theorem OY:Hs Tryz.prog 56 [(0,1),(1,1),(2,1),(3,1),(4,1),(5,1),(6,1),(7,1),(8,1),(9,1),(10,6)]:=⟨_,Tryz.underlying56,fun w=>by simp [DB w,Em w,Ye w]⟩
theorem ON:CF Tryz.prog 96:=Tryz.call96
theorem cT:ZV Tryz.prog 3 (.int .i64 0):=E9 (by kernel_rfl)
theorem eh:BY Tryz.prog 3 8:=VF (by kernel_rfl)
theorem Gg:IS Tryz.prog 169 1:=Oc Tryz.underlying169 DB
theorem Mv:FA Tryz.prog 29 0 0:=Bw Tryz.underlying29 rfl Em
theorem EI:CF Tryz.prog 127:=Tryz.call127
theorem bt:FA Tryz.prog 26 0 0:=Bw Tryz.underlying26 rfl Em
theorem SA:CF Tryz.prog 102:=Tryz.call102
theorem aV:CF Tryz.prog 101:=Tryz.call101
theorem bx:CF Tryz.prog 43:=Tryz.call43
theorem fk:CF Tryz.prog 46:=Tryz.call46
theorem Um:Hs Tryz.prog 163 [(0,165),(165,1),(166,1)]:=⟨_,Tryz.underlying163,fun w=>by simp [EC w,DB w,S9 w]⟩
theorem VD:ZV Tryz.prog 163 (.agg (Ad.enc (default:Ad)).toArray):=E9 (by kernel_rfl)
theorem Uv:CF Tryz.prog 124:=Tryz.call124
theorem VC:CF Tryz.prog 100:=Tryz.call100
theorem Jm:FA Tryz.prog 65 0 0:=Bw Tryz.underlying65 rfl N1
theorem Ji:FA Tryz.prog 65 3 3:=Bw Tryz.underlying65 rfl Em
theorem cN:CF Tryz.prog 44:=Tryz.call44
theorem Kx:FA Tryz.prog 65 4 4:=Bw Tryz.underlying65 rfl Kd
theorem D2:FA Tryz.prog 98 4 16:=Bw Tryz.underlying98 rfl Fw
theorem fF:CF Tryz.prog 82:=Tryz.call82
theorem UR:CF Tryz.prog 64:=Tryz.call64
theorem EL:FA Tryz.prog 101 0 0:=Bw Tryz.underlying101 rfl EC
theorem dM:CF Tryz.prog 114:=Tryz.call114
theorem VZ:CF Tryz.prog 79:=Tryz.call79
theorem L3:ZV Tryz.prog 151 (.agg (Order.enc (default:Order)).toArray):=E9 (by kernel_rfl)
theorem Sf:Hs Tryz.prog 151 [(0,1),(1,1),(2,1),(3,1),(4,1),(5,1)]:=⟨_,Tryz.underlying151,fun w=>by simp [DB w,Kd w,Em w]⟩
theorem D9:Sz Tryz.prog 151 6:=Dv (by kernel_rfl)
theorem CA:OV Tryz.prog 151 6:=FB Tryz.underlying151 rfl D9
theorem fL:CF Tryz.prog 87:=Tryz.call87
theorem cy:CF Tryz.prog 76:=Tryz.call76
theorem aw:CF Tryz.prog 174:=Tryz.call174
theorem XD:CF Tryz.prog 176:=Tryz.call176
theorem eD:CF Tryz.prog 179:=Tryz.call179
theorem XQ:IS Tryz.prog 105 1:=Oc Tryz.underlying105 VO
theorem cm:Ro Tryz.prog 5:=JC Tryz.underlying5 rfl
theorem eP:CF Tryz.prog 167:=Tryz.call167
theorem cn:CF Tryz.prog 168:=Tryz.call168
theorem aU:CF Tryz.prog 180:=Tryz.call180
theorem eH:Sz Tryz.prog 133 21:=Dv (by kernel_rfl)
theorem bT:OV Tryz.prog 133 21:=FB Tryz.underlying133 rfl eH
theorem dK:CF Tryz.prog 169:=Tryz.call169
theorem fV:CF Tryz.prog 59:=Tryz.call59
theorem cc:CF Tryz.prog 181:=Tryz.call181
theorem dP:CF Tryz.prog 170:=Tryz.call170
theorem ai:CF Tryz.prog 171:=Tryz.call171
theorem dx:CF Tryz.prog 30:=Tryz.call30
theorem eL:CF Tryz.prog 172:=Tryz.call172
theorem eR:CF Tryz.prog 151:=Tryz.call151
theorem Ig:CF Tryz.prog 150:=Tryz.call150
theorem aS:CF Tryz.prog 152:=Tryz.call152
theorem cZ:CF Tryz.prog 153:=Tryz.call153
theorem dC:CF Tryz.prog 94:=Tryz.call94
theorem RS:FA Tryz.prog 151 5 5:=Bw Tryz.underlying151 rfl Em
theorem Fy:FA Tryz.prog 151 3 3:=Bw Tryz.underlying151 rfl Em
theorem GU:FA Tryz.prog 151 1 1:=Bw Tryz.underlying151 rfl DB
theorem Uo:CF Tryz.prog 154:=Tryz.call154
theorem HN:FA Tryz.prog 151 2 2:=Bw Tryz.underlying151 rfl Kd
theorem aT:CF Tryz.prog 155:=Tryz.call155
theorem ay:CF Tryz.prog 156:=Tryz.call156
theorem II:FA Tryz.prog 151 4 4:=Bw Tryz.underlying151 rfl Em
theorem ae:CF Tryz.prog 128:=Tryz.call128
theorem Uf:CF Tryz.prog 136:=Tryz.call136
theorem ag:CF Tryz.prog 125:=Tryz.call125
theorem an:CF Tryz.prog 131:=Tryz.call131
theorem Yl:CF Tryz.prog 132:=Tryz.call132
theorem QA:CF Tryz.prog 134:=Tryz.call134
theorem dZ:CF Tryz.prog 161:=Tryz.call161
theorem aj:CF Tryz.prog 133:=Tryz.call133
theorem Ow:CF Tryz.prog 135:=Tryz.call135
theorem DI:FA Tryz.prog 151 0 0:=Bw Tryz.underlying151 rfl DB
theorem dE:CF Tryz.prog 137:=Tryz.call137
theorem eC:CF Tryz.prog 138:=Tryz.call138
theorem cx:CF Tryz.prog 139:=Tryz.call139
theorem Uq:CF Tryz.prog 140:=Tryz.call140
theorem fc:CF Tryz.prog 99:=Tryz.call99
theorem dV:CF Tryz.prog 103:=Tryz.call103
theorem db:CF Tryz.prog 104:=Tryz.call104
theorem dN:CF Tryz.prog 105:=Tryz.call105
theorem dJ:CF Tryz.prog 106:=Tryz.call106
theorem dW:CF Tryz.prog 107:=Tryz.call107
theorem aH:CF Tryz.prog 84:=Tryz.call84
theorem Ki:Sz Tryz.prog 69 10:=Dv (by kernel_rfl)
theorem WZ:Hs Tryz.prog 98 [(0,1),(1,1),(2,10),(12,4),(16,5),(21,1)]:=⟨_,Tryz.underlying98,fun w=>by simp [DB w,Ki w,Nx w,Fw w,N1 w]⟩
theorem V5:ZV Tryz.prog 98 (.agg (A2.enc (default:A2)).toArray):=E9 (by kernel_rfl)
theorem dH:CF Tryz.prog 122:=Tryz.call122
theorem cE:CF Tryz.prog 67:=Tryz.call67
theorem Mx:FA Tryz.prog 98 3 12:=Bw Tryz.underlying98 rfl Nx
theorem fM:CF Tryz.prog 91:=Tryz.call91
theorem fJ:CF Tryz.prog 92:=Tryz.call92
theorem fE:CF Tryz.prog 93:=Tryz.call93
theorem fR:CF Tryz.prog 95:=Tryz.call95
theorem fQ:CF Tryz.prog 97:=Tryz.call97
theorem df:CF Tryz.prog 186:=Tryz.call186
theorem dr:CF Tryz.prog 175:=Tryz.call175
theorem da:CF Tryz.prog 158:=Tryz.call158
theorem cj:CF Tryz.prog 126:=Tryz.call126
theorem XY:CF Tryz.prog 62:=Tryz.call62
theorem ez:CF Tryz.prog 98:=Tryz.call98
theorem Ku:FA Tryz.prog 98 2 2:=Bw Tryz.underlying98 rfl Ki
theorem Qp:FA Tryz.prog 69 5 9:=Bw Tryz.underlying69 rfl DB
theorem fZ:CF Tryz.prog 83:=Tryz.call83
theorem fW:CF Tryz.prog 77:=Tryz.call77
theorem fq:CF Tryz.prog 78:=Tryz.call78
theorem SC:CF Tryz.prog 65:=Tryz.call65
theorem dz:Sz Tryz.prog 67 3:=Dv (by kernel_rfl)
theorem LK:FA Tryz.prog 69 3 3:=Bw Tryz.underlying69 rfl dz
theorem Kz:IA Tryz.prog 67 3 1:=Lx Tryz.underlying67 DB
theorem Jo:FA Tryz.prog 69 4 6:=Bw Tryz.underlying69 rfl dz
theorem F1:FA Tryz.prog 69 0 0:=Bw Tryz.underlying69 rfl DB
theorem LI:FA Tryz.prog 69 1 1:=Bw Tryz.underlying69 rfl DB
theorem G6:FA Tryz.prog 69 2 2:=Bw Tryz.underlying69 rfl Em
theorem cA:ZV Tryz.prog 69 (.agg (AP.enc (default:AP)).toArray):=E9 (by kernel_rfl)
theorem bO:CF Tryz.prog 73:=Tryz.call73
theorem D6:OV Tryz.prog 69 10:=FB Tryz.underlying69 rfl Ki
theorem cL:CF Tryz.prog 55:=Tryz.call55
theorem Sp:CF Tryz.prog 74:=Tryz.call74
theorem dG:ZV Tryz.prog 145 (.agg (B3 (n:=2) Aw (Vector.replicate 2 default)).toArray):=E9 (by kernel_rfl)
theorem fU:CF Tryz.prog 80:=Tryz.call80
theorem fG:CF Tryz.prog 81:=Tryz.call81
theorem ZX:CF Tryz.prog 75:=Tryz.call75
theorem ey:CF Tryz.prog 56:=Tryz.call56
theorem cu:CF Tryz.prog 57:=Tryz.call57
theorem fO:CF Tryz.prog 58:=Tryz.call58
theorem Jt:FA Tryz.prog 75 0 0:=Bw Tryz.underlying75 rfl Em
theorem Pc:FA Tryz.prog 75 1 1:=Bw Tryz.underlying75 rfl Kd
theorem PM:FA Tryz.prog 75 2 2:=Bw Tryz.underlying75 rfl Kd
theorem bC:CF Tryz.prog 70:=Tryz.call70
theorem fa:CF Tryz.prog 45:=Tryz.call45
theorem Kj:ZV Tryz.prog 44 (.agg (Bq.enc (default:Bq)).toArray):=E9 (by kernel_rfl)
theorem Q0:FA Tryz.prog 101 2 253:=Bw Tryz.underlying101 rfl DB
theorem eU:Sz Tryz.prog 42 1:=Dv (by kernel_rfl)
theorem NP:Hs Tryz.prog 44 [(0,1),(1,1)]:=⟨_,Tryz.underlying44,fun w=>by simp [eU w,Em w]⟩
theorem Ka:Sz Tryz.prog 44 2:=Dv (by kernel_rfl)
theorem I2:OV Tryz.prog 44 2:=FB Tryz.underlying44 rfl Ka
theorem Of:FA Tryz.prog 41 0 0:=Bw Tryz.underlying41 rfl DB
theorem Yg:FA Tryz.prog 41 2 2:=Bw Tryz.underlying41 rfl DB
theorem eu:CF Tryz.prog 60:=Tryz.call60
theorem Tn:FA Tryz.prog 41 1 1:=Bw Tryz.underlying41 rfl DB
theorem fB:CF Tryz.prog 61:=Tryz.call61
theorem bd:FA Tryz.prog 41 3 3:=Bw Tryz.underlying41 rfl Em
theorem fi:CF Tryz.prog 29:=Tryz.call29
theorem fA:CF Tryz.prog 63:=Tryz.call63
theorem ek:CF Tryz.prog 66:=Tryz.call66
theorem dF:CF Tryz.prog 37:=Tryz.call37
theorem cC:Hs Tryz.prog 41 [(0,1),(1,1),(2,1),(3,1)]:=⟨_,Tryz.underlying41,fun w=>by simp [DB w,Em w]⟩
theorem bj:ZV Tryz.prog 41 (.agg (Bx.enc (default:Bx)).toArray):=E9 (by kernel_rfl)
theorem Z1:CF Tryz.prog 38:=Tryz.call38
theorem XH:FA Tryz.prog 44 0 0:=Bw Tryz.underlying44 rfl eU
theorem af:Ro Tryz.prog 42:=JC Tryz.underlying42 rfl
theorem fo:CF Tryz.prog 33:=Tryz.call33
theorem cg:Sz Tryz.prog 41 4:=Dv (by kernel_rfl)
theorem eV:IS Tryz.prog 22 4:=Oc Tryz.underlying22 cg
theorem aa:OV Tryz.prog 41 4:=FB Tryz.underlying41 rfl cg
theorem fx:CF Tryz.prog 20:=Tryz.call20
theorem fI:ZV Tryz.prog 49 (.agg (B3 (n:=4) Aw (Vector.replicate 4 default)).toArray):=E9 (by kernel_rfl)
theorem fD:CF Tryz.prog 16:=Tryz.call16
theorem Kp (b:Nat)(V:AL)(i:Int)(hi:0≤i∧i < 4):Jg Tryz.prog 21 #[.pointer (some ⟨b,0,none⟩), .int .i64 i] [Ac.box b 101 (AL.enc V)] (fun v B=>v = .tuple #[.int .i64 (Ci (V.Ax.at i)).1, .int .i64 (Ci (V.Ax.at i)).2]∧B = [Ac.box b 101 (AL.enc V)]):=by
 intro w hS0
 refine Al _ _ Tryz.func21 rfl rfl rfl (hS0) ?_
 refine Gs (Ga rfl (Ga rfl (Gn (.t2 0 1) (CD (Gm rfl (Gt (FZ Tryz.underlying37 rfl) (Gm rfl ?_)))))))
 refine ER (t:=8) rfl rfl rfl (AF rfl) ?_
 refine ER (t:=8) rfl rfl rfl (A8 rfl rfl) ?_
 refine Gt (D3 rfl rfl) (Gm rfl (Bc 12 rfl rfl (fun q=>AF rfl) (Bc 12 rfl rfl (fun q=>CV (cF rfl q) rfl) ?_)))
 refine Gt (BR rfl rfl (fun h=>by rw [h];rfl)) ?_
 refine Gm rfl (Bc 16 rfl rfl (fun q=>AF rfl) (Bc 16 rfl rfl (fun q=>AF rfl) (Bc 16 rfl rfl (fun q=>BV (cF rfl q)) (Bc 16 rfl rfl (fun q=>Ai HI (cF rfl q)) ?_))))
 refine Bc 16 rfl rfl (fun q=>by have q1:=q;(try simp at q1);exact AS RV (cF rfl q) (cF rfl q) (by first | omega | exact hi.1 | exact hi.2) (by first | omega | exact hi.1 | exact hi.2)) ?_
 refine Bc 16 rfl rfl (fun q=>Ai JF (cF rfl q)) ?_
 refine Bc 16 rfl rfl (fun q=>by have q1:=q;(try simp at q1);exact AH (cF rfl q) A4 .m0 ((AL.l1.comp (AU.ar (n:=4) A2.fl (by first | omega | exact hi))).comp A2.l0) rfl rfl) ?_
 refine Bc 16 rfl rfl (fun q=>Ca (cF rfl q) rfl) ?_
 refine Gt (BR rfl rfl (fun h=>by rw [h];rfl)) ?_
 refine Gn (.t3 0 1 25) ?_
 refine Gc (fun c1=>?_) (fun c1=>?_)
 ·
  have c1p:=kz c1
  refine CD (Gm rfl (Gt (FZ Tryz.underlying37 rfl) (Gm rfl ?_)))
  refine ER (t:=28) rfl rfl rfl (AF rfl) ?_
  refine ER (t:=28) rfl rfl rfl (A8 rfl rfl) ?_
  refine Gt (D3 rfl rfl) (Gm rfl (Bc 32 rfl rfl (fun q=>AF rfl) (Bc 32 rfl rfl (fun q=>CV (cF rfl q) rfl) ?_)))
  refine Gt (BR rfl rfl (fun h=>by rw [h];rfl)) ?_
  refine Gn (.t3 0 1 35) ?_
  refine EP rfl (by rw [Bool.or_eq_false_iff,decide_eq_false_iff_not,decide_eq_false_iff_not];omega) ?_
  refine Aa ?_
  refine AB (.t2 0 1) ?_
  refine AA (Gs (Gm rfl (Gm rfl (Gt (BV rfl) (Gt (Ai HI rfl) ?_)))))
  refine Gt (AS RV rfl rfl (by first | omega | exact hi.1 | exact hi.2) (by first | omega | exact hi.1 | exact hi.2)) ?_
  refine Gt (Ai JF rfl) ?_
  refine Gt (AH rfl A4 .m0 ((AL.l1.comp (AU.ar (n:=4) A2.fl (by first | omega | exact hi))).comp A2.l0) rfl rfl) ?_
  refine Ga rfl (Ga rfl (Gn (.t2 4 5) (Ab (AD ?_))))
  refine AY rfl (.tmp rfl (.tmp rfl .n)) ?_
  intro w1 hS
  have hS:=(hS.perm (Ay.perm (.c .h .n))).A1
  have hq:Ci (V.Ax.at i)=_:=if_neg (by rw [decide_eq_true_eq];rcases c1p with (h | h) | h<;>first | omega | exact h)
  refine⟨_,⟨?gv1,rfl⟩,hS⟩
  case gv1=>rw [hq];rfl
 have c1p:=kz c1
 refine Aa ?_
 refine AB (.t2 0 1) ?_
 refine AA (Ap ?_)
 refine BD (N:=9) [0,0,1,5,15,31,63,0,255] mix (by kernel_rfl) rfl ?_
 refine Pf 0 rfl (AF rfl) (Pf 1 rfl (AF rfl) (Pf 2 rfl (BV rfl) (Pf 3 rfl (Ai HI rfl) ?_)))
 refine Pf 4 rfl (AS RV rfl rfl (by first | omega | exact hi.1 | exact hi.2) (by first | omega | exact hi.1 | exact hi.2)) ?_
 refine Pf 5 rfl (Ai IV rfl) ?_
 refine Pf 6 rfl (AH rfl A4 .m0 ((AL.l1.comp (AU.ar (n:=4) A2.fl (by first | omega | exact hi))).comp A2.l1) rfl rfl) ?_
 refine Pf 7 rfl (A0 rfl) (Pf 8 rfl (A0 rfl) ?_)
 refine A3 (by kernel_rfl) ?_
 refine AB (.t2 4 5) ?_
 refine AA (Ab ?_)
 refine AY rfl (.tmp rfl (.tmp rfl .n)) ?_
 intro w1 hS
 have hS:=(hS.perm (Ay.perm (.c .h .n))).A1
 have hq:Ci (V.Ax.at i)=_:=if_pos (decide_eq_true c1p.2)
 refine⟨_,⟨?gv2,rfl⟩,hS⟩
 case gv2=>rw [hq];rfl
theorem Rb (b:Nat)(V:AL)(ev:List Ing.Event)(hl:ev.length≤1000000):Jg Tryz.prog 22 #[.pointer (some ⟨b,0,none⟩)] [Ac.box b 101 (AL.enc V),Ac.own (AL.last V) 56 16 (ev.flatMap Ing.Event.enc)] (fun v B=>∃ h':Hd,v=h'.val∧h'.len=ev.length∧B = [Ac.box b 101 (AL.enc V),Ac.own (AL.last V) 56 16 (ev.flatMap Ing.Event.enc),Ac.own h' 56 16 (ev.flatMap Ing.Event.enc)]):=by
 intro w hS0
 refine Al _ _ Tryz.func22 rfl rfl rfl (hS0) ?_
 refine Gs (Ga rfl (Gn (.t1 0) (Ap (Ap ?_))))
 refine Xa (fun w hS=>(Kn.own .m1 w hS).LO Ing.Event.fl (by decide)) (fun hLl=>?_)
 refine AJ (Gm rfl (Gt (FZ Tryz.underlying37 rfl) (Gn (.t2 0 4) ?_)))
 refine EP rfl rfl ?_
 refine Aa ?_
 refine AB (.t1 0) ?_
 refine AA (Gs (Gm rfl (Gt (BV rfl) (Gt (Ai Na rfl) (Gt (AH rfl Dn .m0 AL.l3 rfl rfl) ?_)))))
 refine Dp Ing.Event.enc 56 16 ?_
 refine K0 (e:=Ing.Event.enc) rfl Tryz.underlying53 MJ Hx rfl Vf (by decide) rfl rfl (fun w hS=>Src.Dq Tryz.underlying53 ((Kn.own .m2) w hS)) rfl rfl (by omega) (fun _=> .h) (fun h1 h1l=>?_)
 refine Ga rfl (Gn (.t1 2) (Ab ?_))
 refine AY rfl (.tmp rfl .n) ?_
 intro w1 hS
 have hS:=(hS.perm (Ay.perm (.c (.t .h) (.c (.t .h) (.c .h .n))))).A1
 exact⟨_,⟨_,rfl,by(try simp only [List.length_append,List.length_nil] at *);omega,rfl⟩,hS⟩
theorem NL (z:Int)(w:World):Ej Tryz.prog 49 #[.int .i64 z] w fun v w'=>v = .tuple #[BU (AG.form z).1,BU (AG.form z).2]∧CB w w':=by
 refine Al [] [] Tryz.func49 rfl rfl rfl (St.start w []) ?_
 refine Gs (Ga rfl (Ga rfl (Gn (.t1 0) (CD (Gm rfl (Gn (.t1 4) (Ae ?_)))))))
 refine Gs (Gt (Ag rfl rfl) (Ga rfl (Gn (.t2 4 5) ?_)))
 refine Gc (fun c1=>?_) (fun c1=>?_)
 ·
  refine Gs (Ga rfl (Ga rfl (Gn (.t2 2 3) (Ab (AR (AD ?_))))))
  refine AY rfl (.tmp rfl (.tmp rfl .n)) ?_
  intro w1 hS;refine⟨?_,hS.Ak⟩;rw [show AG.form z=_ from(BB c1)];rfl
 refine Gs (Gt (Ag rfl rfl) (Ga rfl (Gn (.t2 4 7) ?_)))
 refine Gc (fun c2=>?_) (fun c2=>?_)
 ·
  refine Gs (Ga rfl (Ga rfl (Gn (.t2 2 3) (Ab (AR (AD ?_))))))
  refine AY rfl (.tmp rfl (.tmp rfl .n)) ?_
  intro w1 hS;refine⟨?_,hS.Ak⟩;rw [show AG.form z=_ from((AX c1).trans (BB c2))];rfl
 refine Gs (Gt (Ag rfl rfl) (Ga rfl (Gn (.t2 4 9) ?_)))
 refine Gc (fun c3=>?_) (fun c3=>?_)
 ·
  refine Gs (Ga rfl (Ga rfl (Gn (.t2 2 3) (Ab (AR (AD ?_))))))
  refine AY rfl (.tmp rfl (.tmp rfl .n)) ?_
  intro w1 hS;refine⟨?_,hS.Ak⟩;rw [show AG.form z=_ from((AX c1).trans ((AX c2).trans (BB c3)))];rfl
 refine Gs (Gt (Ag rfl rfl) (Ga rfl (Gn (.t2 4 11) ?_)))
 refine Gc (fun c4=>?_) (fun c4=>?_)
 ·
  refine Gs (Ga rfl (Ga rfl (Gn (.t2 2 3) (Ab (AR (AD ?_))))))
  refine AY rfl (.tmp rfl (.tmp rfl .n)) ?_
  intro w1 hS;refine⟨?_,hS.Ak⟩;rw [show AG.form z=_ from((AX c1).trans ((AX c2).trans ((AX c3).trans (BB c4))))];rfl
 refine Gs (Gt (Ag rfl rfl) (Ga rfl (Gn (.t2 4 13) ?_)))
 refine Gc (fun c5=>?_) (fun c5=>?_)
 ·
  refine Gs (Ga rfl (Ga rfl (Gn (.t2 2 3) (Ab (AR (AD ?_))))))
  refine AY rfl (.tmp rfl (.tmp rfl .n)) ?_
  intro w1 hS;refine⟨?_,hS.Ak⟩;rw [show AG.form z=_ from((AX c1).trans ((AX c2).trans ((AX c3).trans ((AX c4).trans (BB c5)))))];rfl
 refine Gs (Gt (Ag rfl rfl) (Ga rfl (Gn (.t2 4 15) ?_)))
 refine Gc (fun c6=>?_) (fun c6=>?_)
 ·
  refine Gs (Ga rfl (Ga rfl (Gn (.t2 2 3) (Ab (AR (AD ?_))))))
  refine AY rfl (.tmp rfl (.tmp rfl .n)) ?_
  intro w1 hS;refine⟨?_,hS.Ak⟩;rw [show AG.form z=_ from((AX c1).trans ((AX c2).trans ((AX c3).trans ((AX c4).trans ((AX c5).trans (BB c6))))))];rfl
 refine Gs (Gt (Ag rfl rfl) (Ga rfl (Gn (.t2 4 17) ?_)))
 refine Gc (fun c7=>?_) (fun c7=>?_)
 ·
  refine Gs (Ga rfl (Ga rfl (Gn (.t2 2 3) (Ab (AR (AD ?_))))))
  refine AY rfl (.tmp rfl (.tmp rfl .n)) ?_
  intro w1 hS;refine⟨?_,hS.Ak⟩;rw [show AG.form z=_ from((AX c1).trans ((AX c2).trans ((AX c3).trans ((AX c4).trans ((AX c5).trans ((AX c6).trans (BB c7)))))))];rfl
 refine Gs (Gt (Ag rfl rfl) (Ga rfl (Gn (.t2 4 19) ?_)))
 refine Gc (fun c8=>?_) (fun c8=>?_)
 ·
  refine Gs (Ga rfl (Ga rfl (Gn (.t2 2 3) (Ab (AR (AD ?_))))))
  refine AY rfl (.tmp rfl (.tmp rfl .n)) ?_
  intro w1 hS;refine⟨?_,hS.Ak⟩;rw [show AG.form z=_ from((AX c1).trans ((AX c2).trans ((AX c3).trans ((AX c4).trans ((AX c5).trans ((AX c6).trans ((AX c7).trans (BB c8))))))))];rfl
 refine Gs (Gt (Ag rfl rfl) (Ga rfl (Gn (.t2 4 21) ?_)))
 refine Gc (fun c9=>?_) (fun c9=>?_)
 ·
  refine Gs (Ga rfl (Ga rfl (Gn (.t2 2 3) (Ab (AR (AD ?_))))))
  refine AY rfl (.tmp rfl (.tmp rfl .n)) ?_
  intro w1 hS;refine⟨?_,hS.Ak⟩;rw [show AG.form z=_ from((AX c1).trans ((AX c2).trans ((AX c3).trans ((AX c4).trans ((AX c5).trans ((AX c6).trans ((AX c7).trans ((AX c8).trans (BB c9)))))))))];rfl
 refine Gs (Gt (Ag rfl rfl) (Ga rfl (Gn (.t2 4 23) ?_)))
 refine Gc (fun c10=>?_) (fun c10=>?_)
 ·
  refine Gs (Ga rfl (Ga rfl (Gn (.t2 2 3) (Ab (AR (AD ?_))))))
  refine AY rfl (.tmp rfl (.tmp rfl .n)) ?_
  intro w1 hS;refine⟨?_,hS.Ak⟩;rw [show AG.form z=_ from((AX c1).trans ((AX c2).trans ((AX c3).trans ((AX c4).trans ((AX c5).trans ((AX c6).trans ((AX c7).trans ((AX c8).trans ((AX c9).trans (BB c10))))))))))];rfl
 refine Gs (Gt (Ag rfl rfl) (Ga rfl (Gn (.t2 4 25) ?_)))
 refine Gc (fun c11=>?_) (fun c11=>?_)
 ·
  refine Gs (Ga rfl (Ga rfl (Gn (.t2 2 3) (Ab (AR (AD ?_))))))
  refine AY rfl (.tmp rfl (.tmp rfl .n)) ?_
  intro w1 hS;refine⟨?_,hS.Ak⟩;rw [show AG.form z=_ from((AX c1).trans ((AX c2).trans ((AX c3).trans ((AX c4).trans ((AX c5).trans ((AX c6).trans ((AX c7).trans ((AX c8).trans ((AX c9).trans ((AX c10).trans (BB c11)))))))))))];rfl
 refine Gs (Gt (Ag rfl rfl) (Ga rfl (Gn (.t2 4 27) ?_)))
 refine Gc (fun c12=>?_) (fun c12=>?_)
 ·
  refine Gs (Ga rfl (Ga rfl (Gn (.t2 2 3) (Ab (AR (AD ?_))))))
  refine AY rfl (.tmp rfl (.tmp rfl .n)) ?_
  intro w1 hS;refine⟨?_,hS.Ak⟩;rw [show AG.form z=_ from((AX c1).trans ((AX c2).trans ((AX c3).trans ((AX c4).trans ((AX c5).trans ((AX c6).trans ((AX c7).trans ((AX c8).trans ((AX c9).trans ((AX c10).trans ((AX c11).trans (BB c12))))))))))))];rfl
 refine Gs (Gt (Ag rfl rfl) (Ga rfl (Gn (.t2 4 29) ?_)))
 refine Gc (fun c13=>?_) (fun c13=>?_)
 ·
  refine Gs (Ga rfl (Ga rfl (Gn (.t2 2 3) (Ab (AR (AD ?_))))))
  refine AY rfl (.tmp rfl (.tmp rfl .n)) ?_
  intro w1 hS;refine⟨?_,hS.Ak⟩;rw [show AG.form z=_ from((AX c1).trans ((AX c2).trans ((AX c3).trans ((AX c4).trans ((AX c5).trans ((AX c6).trans ((AX c7).trans ((AX c8).trans ((AX c9).trans ((AX c10).trans ((AX c11).trans ((AX c12).trans (BB c13)))))))))))))];rfl
 refine Gs (Gt (Ag rfl rfl) (Ga rfl (Gn (.t2 4 31) ?_)))
 refine Gc (fun c14=>?_) (fun c14=>?_)
 ·
  refine Gs (Ga rfl (Ga rfl (Gn (.t2 2 3) (Ab (AR (AD ?_))))))
  refine AY rfl (.tmp rfl (.tmp rfl .n)) ?_
  intro w1 hS;refine⟨?_,hS.Ak⟩;rw [show AG.form z=_ from((AX c1).trans ((AX c2).trans ((AX c3).trans ((AX c4).trans ((AX c5).trans ((AX c6).trans ((AX c7).trans ((AX c8).trans ((AX c9).trans ((AX c10).trans ((AX c11).trans ((AX c12).trans ((AX c13).trans (BB c14))))))))))))))];rfl
 refine Gs (Gt (Ag rfl rfl) (Ga rfl (Gn (.t2 4 33) ?_)))
 refine Gc (fun c15=>?_) (fun c15=>?_)
 ·
  refine Gs (Ga rfl (Ga rfl (Gn (.t2 2 3) (Ab (AR (AD ?_))))))
  refine AY rfl (.tmp rfl (.tmp rfl .n)) ?_
  intro w1 hS;refine⟨?_,hS.Ak⟩;rw [show AG.form z=_ from((AX c1).trans ((AX c2).trans ((AX c3).trans ((AX c4).trans ((AX c5).trans ((AX c6).trans ((AX c7).trans ((AX c8).trans ((AX c9).trans ((AX c10).trans ((AX c11).trans ((AX c12).trans ((AX c13).trans ((AX c14).trans (BB c15)))))))))))))))];rfl
 refine Gs (Gt (Ag rfl rfl) (Ga rfl (Gn (.t2 4 35) ?_)))
 refine Gc (fun c16=>?_) (fun c16=>?_)
 ·
  refine Gs (Ga rfl (Ga rfl (Gn (.t2 2 3) (Ab (AR (AD ?_))))))
  refine AY rfl (.tmp rfl (.tmp rfl .n)) ?_
  intro w1 hS;refine⟨?_,hS.Ak⟩;rw [show AG.form z=_ from((AX c1).trans ((AX c2).trans ((AX c3).trans ((AX c4).trans ((AX c5).trans ((AX c6).trans ((AX c7).trans ((AX c8).trans ((AX c9).trans ((AX c10).trans ((AX c11).trans ((AX c12).trans ((AX c13).trans ((AX c14).trans ((AX c15).trans (BB c16))))))))))))))))];rfl
 refine Gs (Gt (Ag rfl rfl) (Ga rfl (Gn (.t2 4 37) ?_)))
 refine Gc (fun c17=>?_) (fun c17=>?_)
 ·
  refine Gs (Ga rfl (Ga rfl (Gn (.t2 2 3) (Ab (AR (AD ?_))))))
  refine AY rfl (.tmp rfl (.tmp rfl .n)) ?_
  intro w1 hS;refine⟨?_,hS.Ak⟩;rw [show AG.form z=_ from((AX c1).trans ((AX c2).trans ((AX c3).trans ((AX c4).trans ((AX c5).trans ((AX c6).trans ((AX c7).trans ((AX c8).trans ((AX c9).trans ((AX c10).trans ((AX c11).trans ((AX c12).trans ((AX c13).trans ((AX c14).trans ((AX c15).trans ((AX c16).trans (BB c17)))))))))))))))))];rfl
 refine Gs (Gt (Ag rfl rfl) (Ga rfl (Gn (.t1 39) ?_)))
 refine Gc (fun c18=>?_) (fun c18=>?_)
 ·
  refine Gs (Ga rfl (Ga rfl (Gn (.t2 2 3) (Ab (AR (AD ?_))))))
  refine AY rfl (.tmp rfl (.tmp rfl .n)) ?_
  intro w1 hS;refine⟨?_,hS.Ak⟩;rw [show AG.form z=_ from((AX c1).trans ((AX c2).trans ((AX c3).trans ((AX c4).trans ((AX c5).trans ((AX c6).trans ((AX c7).trans ((AX c8).trans ((AX c9).trans ((AX c10).trans ((AX c11).trans ((AX c12).trans ((AX c13).trans ((AX c14).trans ((AX c15).trans ((AX c16).trans ((AX c17).trans (BB c18))))))))))))))))))];rfl
 refine Aa ?_
 refine AB (.nil _) ?_
 refine AW (AA (Gs (Ga rfl (Ga rfl (AQ (AA (Ab ?_)))))))
 refine AY rfl (.tmp rfl (.tmp rfl .n)) ?_
 intro w1 hS;refine⟨?_,hS.Ak⟩;rw [show AG.form z=_ from((AX c1).trans ((AX c2).trans ((AX c3).trans ((AX c4).trans ((AX c5).trans ((AX c6).trans ((AX c7).trans ((AX c8).trans ((AX c9).trans ((AX c10).trans ((AX c11).trans ((AX c12).trans ((AX c13).trans ((AX c14).trans ((AX c15).trans ((AX c16).trans ((AX c17).trans (AX c18))))))))))))))))))];rfl
theorem DF (b:Nat)(p:Option Addr)(h:Hd)(hp:p=none∨p=some ⟨b,0,none⟩):Jg Tryz.prog 71 #[.pointer (some ⟨b,0,none⟩)] [Ac.box b 107 (Db.enc ⟨p,h⟩)] (fun v B=>v = .tuple #[]∧B = [Ac.box b 107 (Db.enc ⟨some ⟨b,0,none⟩,h⟩)]):=by
 intro w hS0
 refine Al _ _ Tryz.func71 rfl rfl rfl (hS0) ?_
 refine Gs (Gm rfl (Gt (BV rfl) (Gt (Ai RB rfl) (Gt (AH rfl Y1 .m0 Db.l0 rfl rfl) (Gt (FZ Tryz.underlying104 rfl) (Gn (.t2 0 6) ?_))))))
 refine Gc (fun c1=>?_) (fun c1=>?_)
 ·
  obtain rfl:p=none:=by simpa using c1
  refine AJ (Gm rfl (Gm rfl ?_))
  refine Gt ((let ⟨_,h,h2⟩:=Tr;S0 Tryz.underlying104 Tryz.underlying152 h h2 rfl .m0 (by rw [Db.fl.len];decide))) ?_
  refine Gt (So Tryz.func85 (by kernel_rfl) (by kernel_rfl) (by kernel_rfl) (by kernel_rfl) rfl) ?_
  refine Gt ((let ⟨_,h,_⟩:=Tr;Px Tryz.underlying152 Tryz.underlying104 h rfl .m0 (by rw [Db.fl.len];kernel_rfl))) ?_
  refine Gt (BV rfl) (Gt (Ai RB rfl) ?_)
  refine AT (AK Db.l0 rfl rfl rfl ab rfl .h) ?_
  refine AQ ?_
  refine Bk rfl .n ?_
  intro w1 hS
  have hS:=(hS.perm (Ay.perm (.c .h .n))).A1
  exact⟨_,⟨rfl,rfl⟩,hS⟩
 obtain rfl:p=some ⟨b,0,none⟩:=by rcases hp with h | h;(subst h;simp at c1);exact h
 refine Gs (Gm rfl (Gt (BV rfl) (Gt (Ai RB rfl) (Gt (AH rfl Y1 .m0 Db.l0 rfl rfl) (Gm rfl (Gt ((let ⟨_,h,_⟩:=Tr;Rh Tryz.underlying104 h rfl rfl)) (Gn (.t1 19) ?_)))))))
 refine EP rfl rfl ?_
 refine Aa ?_
 refine Bk rfl .n ?_
 intro w1 hS
 have hS:=(hS.perm (Ay.perm (.c .h .n))).A1
 exact⟨_,⟨rfl,rfl⟩,hS⟩
theorem Ck (b:Nat)(p:Option Addr)(h:Hd)(s:Ao)(hp:p=none∨p=some ⟨b,0,none⟩)(hz:h.Z)(hl:h.len=s.length)(c:UInt8)(hb:s.length < 140737488355000):Jg Tryz.prog 50 #[.pointer (some ⟨b,0,none⟩), .int .u8 (c.toNat:Int)] [Ac.box b 107 (Db.enc ⟨p,h⟩),Ac.own h 5 1 (s.flatMap DV)] (fun v B=>∃ p' h',v = .nilIface∧(p'=none∨p'=some ⟨b,0,none⟩)∧h'.Z∧h'.len=(s ++ [c]).length∧B = [Ac.box b 107 (Db.enc ⟨p',h'⟩),Ac.own h' 5 1 ((s ++ [c]).flatMap DV)]):=by
 intro w hS0
 refine Al _ _ Tryz.func50 rfl rfl rfl (hS0) ?_
 refine Gs (Ga rfl (Gn (.t2 0 1) (Gs (Gm rfl ?_))))
 refine Ah rfl bz (.c rfl .n) (.c .h .n) (DF _ _ _ (by first | assumption | omega)) (fun v1 B hv=>?_)
 obtain⟨rfl,rfl⟩:=hv
 refine Gn (.t2 0 1) (Gs (Gm rfl (Gm rfl (Gt (BV rfl) (Gt (Ai E6 rfl) (Gt (AH rfl IT .m0 Db.l1 rfl rfl) (Gm rfl ?_)))))))
 refine Tl rfl Tryz.underlying105 VO bL rfl (by decide) (by decide) rfl rfl rfl (fun b1=>?_)
 refine Oo rfl Tryz.underlying105 VO bL rfl ew (by decide) (by decide) rfl rfl (fun w hS=>Src.Dq Tryz.underlying105 ((Kn.own .m0) w hS)) (by intro v hv;simp at hv;subst hv;rfl) (by dsimp only;omega) (fun _=>(.t (.t .h))) (fun h2 h2l h2z=>?_)
 have h2z:=h2z hz;dsimp only at h2l
 refine Gt (BV rfl) (Gt (Ai E6 rfl) ?_)
 refine AT (AK Db.l1 rfl rfl rfl VM rfl (.t .h)) ?_
 refine Gn (.nil _) (Gs (Ga rfl (AQ (AA (Ab ?_)))))
 refine AY rfl (.tmp rfl .n) ?_
 intro w1 hS
 have hS:=(hS.perm (Ay.perm (.c (.t .h) (.c (.t .h) .n)))).A1
 exact⟨_,⟨_,_,rfl, .inr rfl,by assumption,by simp;omega,by rw [List.flatMap_append];rfl⟩,hS⟩
theorem BL (b:Nat)(p:Option Addr)(h:Hd)(s:Ao)(hp:p=none∨p=some ⟨b,0,none⟩)(hz:h.Z)(hl:h.len=s.length)(t:Ao)(hb:s.length+t.length < 140737488355000):Jg Tryz.prog 51 #[.pointer (some ⟨b,0,none⟩),BU t] [Ac.box b 107 (Db.enc ⟨p,h⟩),Ac.own h 5 1 (s.flatMap DV)] (fun v B=>∃ p' h',v = .tuple #[.int .i64 t.length, .nilIface]∧(p'=none∨p'=some ⟨b,0,none⟩)∧h'.Z∧h'.len=(s++t).length∧B = [Ac.box b 107 (Db.enc ⟨p',h'⟩),Ac.own h' 5 1 ((s++t).flatMap DV)]):=by
 intro w hS0
 refine Al _ _ Tryz.func51 rfl rfl rfl (hS0) ?_
 refine Gs (Ga rfl (Ga rfl (Gn (.t2 0 1) (Gs (Gm rfl ?_)))))
 refine Ah rfl bz (.c rfl .n) (.c .h .n) (DF _ _ _ (by first | assumption | omega)) (fun v1 B hv=>?_)
 obtain⟨rfl,rfl⟩:=hv
 refine Gn (.t2 0 1) (Gs (Gm rfl (Gm rfl (Gt (BV rfl) (Gt (Ai E6 rfl) (Gt (AH rfl IT .m0 Db.l1 rfl rfl) (Gm rfl ?_)))))))
 refine CM W4 rfl Tryz.underlying105 VO bL rfl ew (by decide) (by decide) rfl rfl (fun _ _=>Src.str Tryz.underlying9) (by dsimp only;omega) (fun _=>(.t .h)) (fun h2 h2l h2z=>?_)
 have h2z:=h2z hz;dsimp only at h2l
 refine Gt (BV rfl) (Gt (Ai E6 rfl) ?_)
 refine AT (AK Db.l1 rfl rfl rfl VM rfl .h) ?_
 refine Gn (.t1 1) (Gs (Gm rfl (Gt (BF rfl Tryz.underlying9 rfl) (Ga rfl (Ga rfl (Gn (.t2 4 5) (Ab ?_)))))))
 refine AY rfl (.tmp rfl (.tmp rfl .n)) ?_
 intro w1 hS
 have hS:=(hS.perm (Ay.perm (.c .h (.c .h .n)))).A1
 exact⟨_,⟨_,_,rfl, .inr rfl,by assumption,by simp;omega,by rw [List.flatMap_append]⟩,hS⟩
theorem H4 (d:Int)(w:World)(gl0:GV 0 AG.DE w):Ej Tryz.prog 52 #[.int .i64 d] w fun v w'=>v=BU (AG.called d)∧CB w w':=by
 refine Al [] [] Tryz.func52 rfl rfl rfl (St.start w []) ?_
 refine Gs (Ga rfl (Gn (.t1 0) (CD (Gm rfl (Gt (A8 rfl rfl) (Gm rfl (Bc 5 rfl rfl (fun q=>AF rfl) ?_)))))))
 refine Bc 5 rfl rfl (fun q=>CV (cF rfl q) rfl) ?_
 refine Gt (BR rfl rfl (fun h=>by rw [h];rfl)) ?_
 refine Gn (.t2 0 8) ?_
 refine Gc (fun c1=>?_) (fun c1=>?_)
 ·
  refine Gs (Ga rfl (Gn (.t1 2) (Ab (AD ?_))))
  refine AY rfl (.tmp rfl .n) ?_
  intro w1 hS;refine⟨?_,hS.Ak⟩;rw [show AG.called d=_ from BB c1];rfl
 have c1p:=kz c1
 have hr:0≤d∧d < 6:=by simp at c1;omega
 refine Aa ?_
 refine AB (.t1 0) ?_
 refine AA (Gs (Gm rfl ?_))
 refine Gt (AS Y7 rfl rfl (by omega) (by omega)) ?_
 refine Gt (Rn gl0 rfl CO (AG.PN hr.1 hr.2)) (Ga rfl (Gn (.t1 2) (Ab ?_)))
 refine AY rfl (.tmp rfl .n) ?_
 intro w1 hS;refine⟨?_,hS.Ak⟩;rw [show AG.called d=_ from AX c1];rfl
def RO:Go.Shelf.Ren:=⟨fun | 171=>53 | 243=>72 | 246=>86 | 283=>108 | 284=>109 | 285=>110 | 286=>111 | 129=>142 | 317=>141 | 318=>143 | 319=>144 | 320=>145 | 337=>162 | 338=>163 | n=>n,fun | 3=>3 | 9=>9 | 2=>2 | 4=>4 | 171=>172 | 0=>0 | 53=>173 | 37=>105 | 5=>5 | 173=>176 | 212=>205 | 51=>178 | 20=>20 | 213=>206 | 46=>140 | 232=>226 | 233=>227 | n=>n,fun | 17=>2 | 18=>3 | 19=>4 | n=>n⟩
theorem YX:LaysM.n171 Tryz.prog RO where
  mixed:=by kernel_rfl
  f129:=Tryz.func142.trans (congrArg some (by kernel_rfl))
  f171:=Tryz.func53.trans (congrArg some (by kernel_rfl))
  f243:=Tryz.func72.trans (congrArg some (by kernel_rfl))
  f246:=Tryz.func86.trans (congrArg some (by kernel_rfl))
  f283:=Tryz.func108.trans (congrArg some (by kernel_rfl))
  f284:=Tryz.func109.trans (congrArg some (by kernel_rfl))
  f285:=Tryz.func110.trans (congrArg some (by kernel_rfl))
  f286:=Tryz.func111.trans (congrArg some (by kernel_rfl))
  f317:=Tryz.func141.trans (congrArg some (by kernel_rfl))
  f318:=Tryz.func143.trans (congrArg some (by kernel_rfl))
  f319:=Tryz.func144.trans (congrArg some (by kernel_rfl))
  f320:=Tryz.func145.trans (congrArg some (by kernel_rfl))
  f337:=Tryz.func162.trans (congrArg some (by kernel_rfl))
  f338:=Tryz.func163.trans (congrArg some (by kernel_rfl))
  t0:=Tryz.underlying0
  a0:=Tryz.isAgg0
  z0:=Tryz.sizeOf0
  v0:=Tryz.zeroValue0
  t2:=Tryz.underlying2
  a2:=Tryz.isAgg2
  z2:=Tryz.sizeOf2
  v2:=Tryz.zeroValue2
  t3:=Tryz.underlying3
  a3:=Tryz.isAgg3
  z3:=Tryz.sizeOf3
  v3:=Tryz.zeroValue3
  t4:=Tryz.underlying4
  a4:=Tryz.isAgg4
  z4:=Tryz.sizeOf4
  v4:=Tryz.zeroValue4
  t5:=Tryz.underlying5
  a5:=Tryz.isAgg5
  z5:=Tryz.sizeOf5
  v5:=Tryz.zeroValue5
  t9:=Tryz.underlying9
  a9:=Tryz.isAgg9
  z9:=Tryz.sizeOf9
  v9:=Tryz.zeroValue9
  t20:=Tryz.underlying20
  a20:=Tryz.isAgg20
  z20:=Tryz.sizeOf20
  v20:=Tryz.zeroValue20
  t37:=Tryz.underlying105
  a37:=Tryz.isAgg105
  z37:=Tryz.sizeOf105
  v37:=Tryz.zeroValue105
  t46:=Tryz.underlying140
  a46:=Tryz.isAgg140
  z46:=Tryz.sizeOf140
  v46:=Tryz.zeroValue140
  t51:=Tryz.underlying178
  a51:=Tryz.isAgg178
  z51:=Tryz.sizeOf178
  v51:=Tryz.zeroValue178
  t53:=Tryz.underlying173
  a53:=Tryz.isAgg173
  z53:=Tryz.sizeOf173
  v53:=Tryz.zeroValue173
  t171:=Tryz.underlying172
  a171:=Tryz.isAgg172
  z171:=Tryz.sizeOf172
  v171:=Tryz.zeroValue172
  t173:=Tryz.underlying176
  a173:=Tryz.isAgg176
  z173:=Tryz.sizeOf176
  v173:=Tryz.zeroValue176
  t212:=Tryz.underlying205
  a212:=Tryz.isAgg205
  z212:=Tryz.sizeOf205
  v212:=Tryz.zeroValue205
  t213:=Tryz.underlying206
  a213:=Tryz.isAgg206
  z213:=Tryz.sizeOf206
  t232:=Tryz.underlying226
  a232:=Tryz.isAgg226
  z232:=Tryz.sizeOf226
  v232:=Tryz.zeroValue226
  t233:=Tryz.underlying227
  a233:=Tryz.isAgg227
  z233:=Tryz.sizeOf227
  v233:=Tryz.zeroValue227
  g17:=by kernel_rfl
  g18:=by kernel_rfl
  g19:=by kernel_rfl
  i0:=by kernel_rfl
  i2:=by kernel_rfl
  i3:=by kernel_rfl
  i4:=by kernel_rfl
  i5:=by kernel_rfl
  i9:=by kernel_rfl
  i20:=by kernel_rfl
  i37:=by kernel_rfl
  i46:=by kernel_rfl
  i51:=by kernel_rfl
  i53:=by kernel_rfl
  i171:=by kernel_rfl
  i173:=by kernel_rfl
  i212:=by kernel_rfl
  i232:=by kernel_rfl
  i233:=by kernel_rfl
  m17:=by kernel_rfl
  m18:=by kernel_rfl
  m19:=by kernel_rfl
theorem Lr (n:Int)(h0:-9223372036854775808≤n)(hy:n≤9223372036854775807)(w:World)(gl0:GV 2 Fa w):Ej Tryz.prog 53 #[.int .i64 n] w fun v w'=>v=BU (Lib.itoa n)∧CB w w':=
  Ej.Za (Any.strconv_Itoa YX n h0 hy w (Tf (by kernel_rfl) gl0))
theorem Cv (b:Nat)(p:Option Addr)(h:Hd)(s:Ao)(hz:h.Z)(hl:h.len=s.length)(hb:s.length < 140737488355000):Jg Tryz.prog 54 #[.pointer (some ⟨b,0,none⟩)] [Ac.box b 107 (Db.enc ⟨p,h⟩),Ac.own h 5 1 (s.flatMap DV)] (fun v B=>v=BU s∧B = [Ac.box b 107 (Db.enc ⟨p,h⟩)]):=by
 intro w hS0
 refine Al _ _ Tryz.func54 rfl rfl rfl (hS0) ?_
 refine Gs (Ga rfl (Gn (.t1 0) (Ap ?_)))
 refine BD (N:=12) [0,1,3,7,15,0,32,96,224,480,1023,2047] mix (by kernel_rfl) rfl ?_
 refine Pf 0 rfl (AF rfl) (Pf 1 rfl (BV rfl) (Pf 2 rfl (Ai E6 rfl) (Pf 3 rfl (AH rfl IT .m0 Db.l1 rfl rfl) ?_)))
 refine Pf 4 rfl (RX rfl (by assumption)) ?_
 refine Pf 5 rfl (AF rfl) (Pf 6 rfl (BV rfl) (Pf 7 rfl (Ai E6 rfl) (Pf 8 rfl (AH rfl IT .m0 Db.l1 rfl rfl) (Pf 9 rfl (Ar rfl Tryz.underlying105 rfl) ?_))))
 refine An 10 rfl (by kernel_rfl) ?_
 refine NR rfl Tryz.underlying134 gO rfl rfl (by assumption) (by omega) (.t .h) ?_
 refine Bu rfl ⟨?_,?_⟩
 · exact(Pk (Pk (Pk (Pk (Pk (Pk (Pk (Pk (Pk (Pk As))))))))))
 refine Pf 11 rfl (A0 rfl) ?_
 refine A3 (by kernel_rfl) ?_
 refine AB (.t1 2) ?_
 refine AA (Ab ?_)
 refine AY rfl (.tmp rfl .n) ?_
 intro w1 hS
 have hS:=(hS.perm (Ay.perm (.c .h .n))).A1
 exact⟨_,⟨rfl,rfl⟩,hS⟩
theorem JX (e:Ing.Event)(b:Int)(hs:(decide (b < 0) || decide (6≤b) || decide (AG.OI (e.Hj.at b) 1=0))=false→AG.Small e)(w:World)(gl0:GV 2 Fa w)(gl1:GV 0 AG.DE w):Ej Tryz.prog 23 #[.agg e.enc.toArray, .int .i64 b] w fun v w'=>v = .tuple #[BU (AG.tell e b).1, .bool (AG.tell e b).2]∧CB w w':=by
 refine Al [] [] Tryz.func23 rfl rfl rfl (St.start w []) ?_
 refine Gs ?_
 refine B5 rfl rfl rfl (fun b1=>?_)
 refine Ga rfl (Ga rfl (Gn (.t2 1 2) (CD (Gm rfl (Gt (A8 rfl rfl) (Gm rfl (Bc 17 rfl rfl (fun q=>AF rfl) ?_)))))))
 refine Bc 17 rfl rfl (fun q=>CV (cF rfl q) rfl) ?_
 refine Gt (BR rfl rfl (fun h=>by rw [h];rfl)) ?_
 refine Gm rfl (Bc 21 rfl rfl (fun q=>AF rfl) (Bc 21 rfl rfl (fun q=>Ai Nb rfl) ?_))
 refine Bc 21 rfl rfl (fun q=>by have q1:=q;(try simp at q1);exact AS SP (cF rfl q) (cF rfl q) (by first | omega | (simp only [List.length_cons,List.length_nil];omega)) (by first | omega | (simp only [List.length_cons,List.length_nil];omega))) ?_
 refine Bc 21 rfl rfl (fun q=>by have q1:=q;(try simp at q1);exact AH (cF rfl q) A4 .m0 (Ing.Event.l10.comp (AU.arr (n:=6) B1 (by first | omega | (simp only [List.length_cons,List.length_nil];omega)) (by first | omega | (simp only [List.length_cons,List.length_nil];omega)))) rfl rfl) ?_
 refine Bc 21 rfl rfl (fun q=>Qr (cF rfl q) rfl (show _=AG.OI _ _ from rfl)) (Bc 21 rfl rfl (fun q=>Ag (cF rfl q) rfl) ?_)
 refine Gt (BR rfl rfl (fun h=>by rw [h];rfl)) ?_
 refine Gn (.t3 1 2 28) ?_
 refine Gc (fun c1=>?_) (fun c1=>?_)
 ·
  refine Gs (Ga rfl (Ga rfl (Gn (.t2 4 5) (Ab (AD ?_)))))
  refine AY rfl (.tmp rfl (.tmp rfl .n)) ?_
  intro w1 hS;refine⟨?_,hS.Ak⟩;rw [show AG.tell e b=_ from BB c1];rfl
 have c1p:=kz c1
 have hs:=hs c1
 have hr:0≤b∧b < 6:=by simp at c1;omega
 have htl:=AG.PR e b
 have h1l:=AG.QV hs b
 have h2l:=AG.Ny hs b
 have h3l:=hs.BJ
 have h4l:=hs.text
 have h5l:=AG.JL e.dir
 have h6l:=Lib.itoa_length_le e.n hs.n0 hs.n1
 refine Aa ?_
 refine AB (.t2 1 2) ?_
 refine AA (Gs (Gt (Ai TZ rfl) (Gt (AH rfl A4 .m0 Ing.Event.l0 rfl rfl) ?_)))
 refine BA rfl fv (.c rfl .n) (fun w hS=>NL _ w) ?_
 refine Gm rfl (Gt (AM rfl rfl) (Gt (AM rfl rfl) (Ga rfl (Ga rfl (Gn (.t4 1 2 6 7) (Gs (Gm rfl ?_)))))))
 refine Ga rfl (Gn (.t4 1 2 6 8) (CD (Gm rfl (Gt (Ai Qn rfl) (Gt (AH rfl A4 .m0 Ing.Event.l2 rfl rfl) (Gt (Ag rfl rfl) (Gn (.t5 1 2 6 8 39) ?_)))))))
 refine bX (BU) (s:=(AG.ED e b)) rfl rfl rfl rfl rfl rfl rfl ?_
 refine AB (.t3 1 2 8) ?_
 refine AA (CD (Gm rfl (Gt (Bi rfl rfl) (Gn (.t4 1 2 8 42) ?_))))
 refine Gc (fun c2=>?_) (fun c2=>?_)
 ·
  refine Gs (Ga rfl (Ga rfl (Gn (.t2 4 5) (Ab (AD ?_)))))
  refine AY rfl (.tmp rfl (.tmp rfl .n)) ?_
  intro w1 hS;refine⟨?_,hS.Ak⟩;rw [show AG.tell e b=_ from(AX c1).trans (BB c2)];rfl
 have c2p:=kz c2
 refine Aa ?_
 refine AB (.t3 1 2 8) ?_
 refine AA (Ap ?_)
 refine BD (N:=6) [0,1,0,4,3,31] mix (by kernel_rfl) rfl ?_
 refine Pf 0 rfl (Ai Xg rfl) (Pf 1 rfl (AH rfl CO .m0 Ing.Event.l6 rfl rfl) (Pf 2 rfl (Ai Xs rfl) (Pf 3 rfl (AH rfl CO .m0 Ing.Event.l7 rfl rfl) (Pf 4 rfl (A0 rfl) (Pf 5 rfl (A0 rfl) ?_)))))
 refine A3 (by kernel_rfl) ?_
 refine AB (.t5 1 2 8 9 10) ?_
 refine AA (CD (Gm rfl (Gt (Ai Nb rfl) ?_)))
 refine Gt (AS SP rfl rfl (by first | omega | (simp only [List.length_cons,List.length_nil];omega)) (by first | omega | (simp only [List.length_cons,List.length_nil];omega))) ?_
 refine Gt (AH rfl A4 .m0 (Ing.Event.l10.comp (AU.arr (n:=6) B1 (by first | omega | (simp only [List.length_cons,List.length_nil];omega)) (by first | omega | (simp only [List.length_cons,List.length_nil];omega)))) rfl rfl) ?_
 refine Gt (Qr rfl rfl (show _=AG.OI _ _ from rfl)) (Gt (Ca rfl rfl) (Gn (.t6 1 2 8 9 10 52) ?_))
 refine RC (BU) (s:=(AG.IB e b)) rfl rfl rfl rfl rfl ?_
 refine AB (.t5 1 2 8 9 10) ?_
 refine AA (CD (Gm rfl (Gt (Ai Nb rfl) ?_)))
 refine Gt (AS SP rfl rfl (by first | omega | (simp only [List.length_cons,List.length_nil];omega)) (by first | omega | (simp only [List.length_cons,List.length_nil];omega))) ?_
 refine Gt (AH rfl A4 .m0 (Ing.Event.l10.comp (AU.arr (n:=6) B1 (by first | omega | (simp only [List.length_cons,List.length_nil];omega)) (by first | omega | (simp only [List.length_cons,List.length_nil];omega)))) rfl rfl) ?_
 refine Gt (Qr rfl rfl (show _=AG.OI _ _ from rfl)) (Gt (Ca rfl rfl) (Gn (.t6 1 2 8 9 10 58) ?_))
 refine RC (BU) (s:=AG.YL e b) rfl rfl rfl rfl rfl ?_
 refine AB (.t5 1 2 8 9 10) ?_
 refine AA (CD (Gm rfl (Gt (Ai G8 rfl) (Gt (AH rfl A4 .m0 Ing.Event.l3 rfl rfl) (Gt (Ag rfl rfl) (Gn (.t5 2 8 9 10 62) ?_))))))
 refine RC (BU) (s:=(AG.F4 e b)) rfl rfl rfl rfl rfl ?_
 refine AB (.t4 2 8 9 10) ?_
 refine AA (Gs ?_)
 refine BH rfl Ug rfl (fun b2=>?_)
 refine Dp DV 5 1 ?_
 refine AQ (AA (CD (Gm rfl (Gt (BF rfl Tryz.underlying9 rfl) (Gm rfl (Gn (.t7 2 8 9 10 11 64 65) (Ae ?_)))))))
 refine Bl (.t7 65 2 8 9 10 11 64) ?_
 refine Bf (.t .h) ?_
 refine Bf (.t .h) ?_
 refine Il (fun(k:Int) (x:Ao) (p:Option Addr) (h:Hd)=>0≤k∧k≤((AG.ED e b).length:Int)∧x=AG.told e (AG.IB e b) (AG.F4 e b) (AG.ED e b) k.toNat∧(p=none∨p=some ⟨b2,0,none⟩)∧h.Z∧h.len=x.length) (fun(k:Int) (x:Ao) (p:Option Addr) (h:Hd)=>(((AG.ED e b).length:Int) - k).toNat) (fun(k:Int) (x:Ao) (p:Option Addr) (h:Hd)=> [(65, .int .i64 k)]) (fun(k:Int) (x:Ao) (p:Option Addr) (h:Hd)=> [Ac.own h 5 1 (x.flatMap DV),Ac.box b2 107 (Db.enc ⟨p,h⟩)]) (0) ([]) (none) (⟨none,0,0⟩) ?_ rfl rfl (fun k x p h hI1=>?_)
 · exact⟨by omega,by omega,rfl, .inl rfl,Hd.UZ,rfl⟩
 obtain⟨hI11,hI12,hI13,hp,hz,hl⟩:=hI1;have hxl:=AG.Oe hs h1l h2l (AG.ED e b) k.toNat;rw [← hI13] at hxl;have hxm:k.toNat * 2000000≤60000000:=by omega
 refine Gs (Gt (A8 rfl rfl) (AQ (AA (Ap ?_))))
 refine Gc (fun c3=>?_) (fun c3=>?_)
 ·
  have c3p:=kz c3
  refine Aa ?_
  refine AB (.t7 2 8 9 10 11 64 65) ?_
  refine AA (Ap (Ae (Gs (Gm rfl (Ga rfl (Gn (.t8 2 8 9 10 11 12 64 65) (Gs ?_)))))))
  refine Gm rfl (Gm rfl ?_)
  refine Gt (Br Tryz.underlying9 rfl rfl (by first | omega | (simp only [List.length_cons,List.length_nil];omega)) (by first | omega | (simp only [List.length_cons,List.length_nil];omega))) ?_
  refine Ga rfl (Gn (.t9 2 8 9 10 11 12 13 64 65) (Gs (Gm rfl (Gt (Ag rfl rfl) (Gm rfl (Bc 73 rfl rfl (fun q=>AF rfl) (Bc 73 rfl rfl (fun q=>AF rfl) ?_)))))))
  refine Bc 73 rfl rfl (fun q=>by have q1:=q;(try simp at q1);exact FX (cF rfl q) rfl (IntWalk.i64_in _ (by first | omega | (simp only [List.length_cons,List.length_nil];omega)))) ?_
  refine Bc 73 rfl rfl (fun q=>by have q1:=q;(try simp at q1);exact Br Tryz.underlying9 (cF rfl q) (cF rfl q) (by first | omega | (simp only [List.length_cons,List.length_nil];omega)) (by first | omega | (simp only [List.length_cons,List.length_nil];omega))) ?_
  refine Bc 73 rfl rfl (fun q=>Ag (cF rfl q) rfl) ?_
  refine Gt (BR rfl rfl (fun h=>by rw [h];rfl)) ?_
  refine Gm rfl (Bo 80 rfl rfl (fun q=>AF rfl) ?_)
  refine Bo 80 rfl rfl (fun q=>by have q1:=q;(try simp at q1);exact Av (Bj rfl q) rfl (IntWalk.i64_in _ (by first | omega | (simp only [List.length_cons,List.length_nil];omega)))) ?_
  refine Bo 80 rfl rfl (fun q=>AF rfl) (Bo 80 rfl rfl (fun q=>BF rfl Tryz.underlying9 (Bj rfl q)) (Bo 80 rfl rfl (fun q=>Ag (Bj rfl q) (Bj rfl q)) (Bo 80 rfl rfl (fun q=>AF (Bj rfl q)) ?_)))
  refine C5 (t:=86) rfl rfl rfl (fun qc q=>AF rfl) ?_
  refine C5 (t:=86) rfl rfl rfl (fun qc q=>AF rfl) ?_
  refine C5 (t:=86) rfl rfl rfl (fun qc q=>by have q1:=q;have qc1:=qc;(try simp at q1 qc1);exact Av (Bj rfl (by rw [qc,q];rfl)) rfl (IntWalk.i64_in _ (by first | omega | (simp only [List.length_cons,List.length_nil];omega)))) ?_
  refine C5 (t:=86) rfl rfl rfl (fun qc q=>by have q1:=q;have qc1:=qc;(try simp at q1 qc1);exact Br Tryz.underlying9 (Bj rfl (by rw [qc,q];rfl)) (Bj rfl (by rw [qc,q];rfl)) (by first | omega | (simp only [List.length_cons,List.length_nil];omega)) (by first | omega | (simp only [List.length_cons,List.length_nil];omega))) ?_
  refine C5 (t:=86) rfl rfl rfl (fun qc q=>Ag (Bj rfl (by rw [qc,q];rfl)) rfl) ?_
  refine Bo 80 rfl rfl (fun q=>BR (Bj rfl q) rfl (fun h=>by rw [q,h];rfl)) ?_
  refine Bo 80 rfl rfl (fun q=>AF (Bj rfl q)) ?_
  refine C5 (t:=93) rfl rfl rfl (fun qc q=>AF rfl) ?_
  refine C5 (t:=93) rfl rfl rfl (fun qc q=>AF rfl) ?_
  refine C5 (t:=93) rfl rfl rfl (fun qc q=>by have q1:=q;have qc1:=qc;(try simp at q1 qc1);exact Av (Bj rfl (by rw [qc,q];rfl)) rfl (IntWalk.i64_in _ (by first | omega | (simp only [List.length_cons,List.length_nil];omega)))) ?_
  refine C5 (t:=93) rfl rfl rfl (fun qc q=>by have q1:=q;have qc1:=qc;(try simp at q1 qc1);exact Br Tryz.underlying9 (Bj rfl (by rw [qc,q];rfl)) (Bj rfl (by rw [qc,q];rfl)) (by first | omega | (simp only [List.length_cons,List.length_nil];omega)) (by first | omega | (simp only [List.length_cons,List.length_nil];omega))) ?_
  refine C5 (t:=93) rfl rfl rfl (fun qc q=>Ag (Bj rfl (by rw [qc,q];rfl)) rfl) ?_
  refine Bo 80 rfl rfl (fun q=>BR (Bj rfl q) rfl (fun h=>by rw [q,h];rfl)) ?_
  refine Gt (BK rfl rfl (fun h=>h)) (Ga rfl (Gn (.t9 2 8 9 10 11 13 14 64 65) (Ae (Gs (Gm rfl (Gt (BT rfl) (Ga rfl ?_)))))))
  refine Gn (.t9 2 8 9 10 11 13 64 65 103) ?_
  refine Gc (fun c4=>?_) (fun c4=>?_)
  ·
   have c4p:=kz c4
   refine AJ (Gm rfl ?_)
   refine Ah rfl ZO (.c rfl (.c rfl .n)) (.c (.t .h) (.c .h .n)) (Ck _ _ _ _ (by assumption) (by assumption) (by assumption) _ (by omega)) (fun v1 B hv=>?_)
   obtain⟨y2,y3,rfl,y4,y5,y6,rfl⟩:=hv
   refine AQ (AB (.t7 2 8 9 10 11 64 65) ?_)
   refine AW (AW (AA (AJ ?_)))
   refine Gt (Av rfl rfl (IntWalk.i64_in _ (by first | omega | (simp only [List.length_cons,List.length_nil];omega)))) ?_
   refine Gm rfl ?_
   refine AQ (AB (.t7 2 8 9 10 11 64 65) ?_)
   refine CI (.c (.t .h) (.c .h (.c .h .n))) ?_
   refine Cf ?_
   refine DC (k+1) _ _ _ ?_ ?_ (.t7 65 2 8 9 10 11 64) (.refl _)
   · exact⟨by omega,by omega,by rw [AG.Fl hI11,← hI13,show AG.piece e (AG.IB e b) (AG.F4 e b) (AG.ED e b) k=_ from(BB c4)],by assumption,by assumption,by assumption⟩
   · omega
  have c4p:=kz c4
  refine Gs (Gm rfl (Gt (Ag rfl rfl) (Ga rfl (Gn (.t9 2 8 9 10 11 13 64 65 108) ?_))))
  refine Gc (fun c5=>?_) (fun c5=>?_)
  ·
   have c5p:=kz c5
   refine AJ (Gm rfl ?_)
   refine Ah rfl Pq (.c rfl (.c rfl .n)) (.c (.t .h) (.c .h .n)) (BL _ _ _ _ (by assumption) (by assumption) (by assumption) _ (by omega)) (fun v7 B hv=>?_)
   obtain⟨y8,y9,rfl,y10,y11,y12,rfl⟩:=hv
   refine AQ (AB (.t7 2 8 9 10 11 64 65) ?_)
   refine AW (AW (AA (AJ ?_)))
   refine Gt (Av rfl rfl (IntWalk.i64_in _ (by first | omega | (simp only [List.length_cons,List.length_nil];omega)))) ?_
   refine Gm rfl ?_
   refine AQ (AB (.t7 2 8 9 10 11 64 65) ?_)
   refine CI (.c (.t .h) (.c .h (.c .h .n))) ?_
   refine Cf ?_
   refine DC (k+1) _ _ _ ?_ ?_ (.t7 65 2 8 9 10 11 64) (.refl _)
   · exact⟨by omega,by omega,by rw [AG.Fl hI11,← hI13,show AG.piece e (AG.IB e b) (AG.F4 e b) (AG.ED e b) k=_ from((AX c4).trans (BB c5))],by assumption,by assumption,by assumption⟩
   · omega
  have c5p:=kz c5
  refine Gs (Gm rfl (Gt (Ag rfl rfl) (Ga rfl (Gn (.t9 2 8 9 10 11 13 64 65 113) ?_))))
  refine Gc (fun c6=>?_) (fun c6=>?_)
  ·
   have c6p:=kz c6
   refine AJ (Gm rfl ?_)
   refine Ah rfl Pq (.c rfl (.c rfl .n)) (.c (.t .h) (.c .h .n)) (BL _ _ _ _ (by assumption) (by assumption) (by assumption) _ (by omega)) (fun v13 B hv=>?_)
   obtain⟨y14,y15,rfl,y16,y17,y18,rfl⟩:=hv
   refine AQ (AB (.t7 2 8 9 10 11 64 65) ?_)
   refine AW (AW (AA (AJ ?_)))
   refine Gt (Av rfl rfl (IntWalk.i64_in _ (by first | omega | (simp only [List.length_cons,List.length_nil];omega)))) ?_
   refine Gm rfl ?_
   refine AQ (AB (.t7 2 8 9 10 11 64 65) ?_)
   refine CI (.c (.t .h) (.c .h (.c .h .n))) ?_
   refine Cf ?_
   refine DC (k+1) _ _ _ ?_ ?_ (.t7 65 2 8 9 10 11 64) (.refl _)
   · exact⟨by omega,by omega,by rw [AG.Fl hI11,← hI13,show AG.piece e (AG.IB e b) (AG.F4 e b) (AG.ED e b) k=_ from((AX c4).trans ((AX c5).trans (BB c6)))],by assumption,by assumption,by assumption⟩
   · omega
  have c6p:=kz c6
  refine Gs (Gm rfl (Gt (Ag rfl rfl) (Ga rfl (Gn (.t9 2 8 9 10 11 13 64 65 118) ?_))))
  refine Gc (fun c7=>?_) (fun c7=>?_)
  ·
   have c7p:=kz c7
   refine AJ (Gt (Ai bF rfl) (Gt (AH rfl CO .m2 Ing.Event.l8 rfl rfl) ?_))
   refine Ah rfl Pq (.c rfl (.c rfl .n)) (.c (.t .h) (.c .h .n)) (BL _ _ _ _ (by assumption) (by assumption) (by assumption) _ (by omega)) (fun v19 B hv=>?_)
   obtain⟨y20,y21,rfl,y22,y23,y24,rfl⟩:=hv
   refine AQ (AB (.t7 2 8 9 10 11 64 65) ?_)
   refine AW (AW (AA (AJ ?_)))
   refine Gt (Av rfl rfl (IntWalk.i64_in _ (by first | omega | (simp only [List.length_cons,List.length_nil];omega)))) ?_
   refine Gm rfl ?_
   refine AQ (AB (.t7 2 8 9 10 11 64 65) ?_)
   refine CI (.c (.t .h) (.c .h (.c .h .n))) ?_
   refine Cf ?_
   refine DC (k+1) _ _ _ ?_ ?_ (.t7 65 2 8 9 10 11 64) (.refl _)
   · exact⟨by omega,by omega,by rw [AG.Fl hI11,← hI13,show AG.piece e (AG.IB e b) (AG.F4 e b) (AG.ED e b) k=_ from((AX c4).trans ((AX c5).trans ((AX c6).trans (BB c7))))],by assumption,by assumption,by assumption⟩
   · omega
  have c7p:=kz c7
  refine Gs (Gm rfl (Gt (Ag rfl rfl) (Ga rfl (Gn (.t9 2 8 9 10 11 13 64 65 124) ?_))))
  refine Gc (fun c8=>?_) (fun c8=>?_)
  ·
   have c8p:=kz c8
   refine AJ (Gt (Ai bh rfl) (Gt (AH rfl A4 .m2 Ing.Event.l4 rfl rfl) ?_))
   refine BA rfl dT (.c rfl .n) (fun w hS=>H4 _ w (gl1.st hS)) ?_
   refine Ah rfl Pq (.c rfl (.c rfl .n)) (.c (.t .h) (.c .h .n)) (BL _ _ _ _ (by assumption) (by assumption) (by assumption) _ (by omega)) (fun v25 B hv=>?_)
   obtain⟨y26,y27,rfl,y28,y29,y30,rfl⟩:=hv
   refine AQ (AB (.t7 2 8 9 10 11 64 65) ?_)
   refine AW (AW (AA (AJ ?_)))
   refine Gt (Av rfl rfl (IntWalk.i64_in _ (by first | omega | (simp only [List.length_cons,List.length_nil];omega)))) ?_
   refine Gm rfl ?_
   refine AQ (AB (.t7 2 8 9 10 11 64 65) ?_)
   refine CI (.c (.t .h) (.c .h (.c .h .n))) ?_
   refine Cf ?_
   refine DC (k+1) _ _ _ ?_ ?_ (.t7 65 2 8 9 10 11 64) (.refl _)
   · exact⟨by omega,by omega,by rw [AG.Fl hI11,← hI13,show AG.piece e (AG.IB e b) (AG.F4 e b) (AG.ED e b) k=_ from((AX c4).trans ((AX c5).trans ((AX c6).trans ((AX c7).trans (BB c8)))))],by assumption,by assumption,by assumption⟩
   · omega
  have c8p:=kz c8
  refine Gs (Gm rfl (Gt (Ag rfl rfl) (Ga rfl (Gn (.t9 2 8 9 10 11 13 64 65 131) ?_))))
  refine Gc (fun c9=>?_) (fun c9=>?_)
  ·
   have c9p:=kz c9
   refine AJ (Gt (Ai bH rfl) (Gt (AH rfl CO .m2 Ing.Event.l9 rfl rfl) ?_))
   refine Ah rfl Pq (.c rfl (.c rfl .n)) (.c (.t .h) (.c .h .n)) (BL _ _ _ _ (by assumption) (by assumption) (by assumption) _ (by omega)) (fun v31 B hv=>?_)
   obtain⟨y32,y33,rfl,y34,y35,y36,rfl⟩:=hv
   refine AQ (AB (.t7 2 8 9 10 11 64 65) ?_)
   refine AW (AW (AA (AJ ?_)))
   refine Gt (Av rfl rfl (IntWalk.i64_in _ (by first | omega | (simp only [List.length_cons,List.length_nil];omega)))) ?_
   refine Gm rfl ?_
   refine AQ (AB (.t7 2 8 9 10 11 64 65) ?_)
   refine CI (.c (.t .h) (.c .h (.c .h .n))) ?_
   refine Cf ?_
   refine DC (k+1) _ _ _ ?_ ?_ (.t7 65 2 8 9 10 11 64) (.refl _)
   · exact⟨by omega,by omega,by rw [AG.Fl hI11,← hI13,show AG.piece e (AG.IB e b) (AG.F4 e b) (AG.ED e b) k=_ from((AX c4).trans ((AX c5).trans ((AX c6).trans ((AX c7).trans ((AX c8).trans (BB c9))))))],by assumption,by assumption,by assumption⟩
   · omega
  have c9p:=kz c9
  refine Gs (Gm rfl (Gt (Ag rfl rfl) (Ga rfl (Gn (.t9 2 8 9 10 11 13 64 65 137) ?_))))
  refine Gc (fun c10=>?_) (fun c10=>?_)
  ·
   have c10p:=kz c10
   refine AJ (Gt (Ai cB rfl) (Gt (AH rfl A4 .m2 Ing.Event.l5 rfl rfl) ?_))
   refine BA rfl fj (.c rfl .n) (fun w hS=>Lr _ hs.n0 hs.n1 w (gl0.st hS)) ?_
   refine Ah rfl Pq (.c rfl (.c rfl .n)) (.c (.t .h) (.c .h .n)) (BL _ _ _ _ (by assumption) (by assumption) (by assumption) _ (by omega)) (fun v37 B hv=>?_)
   obtain⟨y38,y39,rfl,y40,y41,y42,rfl⟩:=hv
   refine AQ (AB (.t7 2 8 9 10 11 64 65) ?_)
   refine AW (AW (AA (AJ ?_)))
   refine Gt (Av rfl rfl (IntWalk.i64_in _ (by first | omega | (simp only [List.length_cons,List.length_nil];omega)))) ?_
   refine Gm rfl ?_
   refine AQ (AB (.t7 2 8 9 10 11 64 65) ?_)
   refine CI (.c (.t .h) (.c .h (.c .h .n))) ?_
   refine Cf ?_
   refine DC (k+1) _ _ _ ?_ ?_ (.t7 65 2 8 9 10 11 64) (.refl _)
   · exact⟨by omega,by omega,by rw [AG.Fl hI11,← hI13,show AG.piece e (AG.IB e b) (AG.F4 e b) (AG.ED e b) k=_ from((AX c4).trans ((AX c5).trans ((AX c6).trans ((AX c7).trans ((AX c8).trans ((AX c9).trans (BB c10)))))))],by assumption,by assumption,by assumption⟩
   · omega
  have c10p:=kz c10
  refine AJ (Gm rfl ?_)
  refine Ah rfl ZO (.c rfl (.c rfl .n)) (.c (.t .h) (.c .h .n)) (Ck _ _ _ _ (by assumption) (by assumption) (by assumption) _ (by omega)) (fun v43 B hv=>?_)
  obtain⟨y44,y45,rfl,y46,y47,y48,rfl⟩:=hv
  refine AQ (AB (.t7 2 8 9 10 11 64 65) ?_)
  refine AW (AW (AA (AJ ?_)))
  refine Gt (Av rfl rfl (IntWalk.i64_in _ (by first | omega | (simp only [List.length_cons,List.length_nil];omega)))) ?_
  refine Gm rfl ?_
  refine AQ (AB (.t7 2 8 9 10 11 64 65) ?_)
  refine CI (.c (.t .h) (.c .h (.c .h .n))) ?_
  refine Cf ?_
  refine DC (k+1) _ _ _ ?_ ?_ (.t7 65 2 8 9 10 11 64) (.refl _)
  · exact⟨by omega,by omega,by rw [AG.Fl hI11,← hI13,show AG.piece e (AG.IB e b) (AG.F4 e b) (AG.ED e b) k=_ from((AX c4).trans ((AX c5).trans ((AX c6).trans ((AX c7).trans ((AX c8).trans ((AX c9).trans (AX c10)))))))],by assumption,by assumption,by assumption⟩
  · omega
 have c3p:=kz c3
 obtain rfl:k=((AG.ED e b).length:Int):=by omega
 refine Ba (AV (AV (Af ?_)))
 refine AB (.t1 11) ?_
 refine AA (Gs ?_)
 refine Ah rfl Z4 (.c rfl .n) (.c (.t .h) (.c .h .n)) (Cv _ _ _ _ (by assumption) (by assumption) (by omega)) (fun v49 B hv=>?_)
 obtain⟨rfl,rfl⟩:=hv
 refine Ga rfl (Ga rfl (Gn (.t2 4 5) (Ab ?_)))
 refine AY rfl (.tmp rfl (.tmp rfl .n)) ?_
 intro w1 hS;refine⟨?_,hS.Ak⟩;rw [show AG.tell e b=_ from(AX c1).trans (AX c2),hI13];rfl
theorem L0 (b:Nat)(V:AL)(ls:Vector BG 4)(i:Int)(hi:0≤i∧i < 4)(hl:(ls.at i).told.length≤1000000):Jg Tryz.prog 24 #[.pointer (some ⟨b,0,none⟩), .int .i64 i] [Ac.box b 101 (AL.enc V),Ac.D7 (CJ 9 (AL.Ax V) ls)] (fun v B=>∃ h':Hd,v=h'.val∧h'.len=(ls.at i).told.length∧B = [Ac.box b 101 (AL.enc V),Ac.D7 (CJ 9 (AL.Ax V) ls),Ac.own h' 9 1 ((ls.at i).told.flatMap A7)]):=by
 intro w hS0
 refine Al _ _ Tryz.func24 rfl rfl rfl (hS0) ?_
 refine Gs (Ga rfl (Gn (.t2 0 1) (CD (Gm rfl (Gt (FZ Tryz.underlying37 rfl) (Gm rfl ?_))))))
 refine ER (t:=7) rfl rfl rfl (AF rfl) ?_
 refine ER (t:=7) rfl rfl rfl (A8 rfl rfl) ?_
 refine Gt (D3 rfl rfl) (Gm rfl (Bc 11 rfl rfl (fun q=>AF rfl) (Bc 11 rfl rfl (fun q=>CV (cF rfl q) rfl) ?_)))
 refine Gt (BR rfl rfl (fun h=>by rw [h];rfl)) ?_
 refine Gn (.t3 0 1 14) ?_
 refine EP rfl (by rw [Bool.or_eq_false_iff,decide_eq_false_iff_not,decide_eq_false_iff_not];omega) ?_
 refine Aa ?_
 refine AB (.t2 0 1) ?_
 refine AA (Ap ?_)
 refine Ft (k:=i) hi.1 hi.2 (fun sv sl hsv hlv hln=>?_)
 have hl2:=hl
 rw [hlv] at hl2
 refine AJ (Gm rfl (Gm rfl (Gt (BV rfl) (Gt (Ai HI rfl) ?_))))
 refine Gt (AS RV rfl rfl (by first | omega | exact hi.1 | exact hi.2) (by first | omega | exact hi.1 | exact hi.2)) ?_
 refine Gt (Ai Rf rfl) (Gt (AH rfl F9 .m3 ((AU.BM V hi.1 hi.2).comp A2.l5) rfl rfl) ?_)
 refine Dp A7 9 1 ?_
 refine K0 (e:=A7) rfl Tryz.underlying52 Em Qw rfl XE (by decide) rfl rfl (fun w hS=>Src.Dq Tryz.underlying52 ((Kn.own .m3) w hS)) rfl rfl (by omega) (fun _=> .h) (fun h1 h1l=>?_)
 refine Ga rfl (Gn (.t1 4) (Ab ?_))
 refine AY rfl (.tmp rfl .n) ?_
 intro w1 hS
 have hS:=(hS.perm (Ay.perm (.c (.t .h) (.c (.t .h) (.c (.t .h) (.c (.t .h) (.c (.t .h) (.c .h .n)))))))).A1
 have e1:V.BM i sv=V:=by rw [← hsv];exact V.P8 hi.1 hi.2
 have e2:ls.put i ⟨sl.queue,sl.wait,sl.told⟩=ls:=by rw [← hlv];exact Vector.Qu ls hi.1 hi.2
 have hS:=St.close' (s:=sv) (qs:=sl.queue) (ws:=sl.wait) (ts:=sl.told) hi.1 hi.2 rfl rfl rfl hS
 rw [e1,e2] at hS
 try rw [hsv]
 rw [hlv]
 refine⟨_,⟨_,rfl,?gl,rfl⟩,hS⟩
 case gl=>(try simp only [List.length_append,List.length_nil] at *);omega
theorem RP (s:Ao)(w:World):Ej Tryz.prog 25 #[BU s] w fun v w'=>v = .bool (Fx s)∧CB w w':=by
 refine Al [] [] Tryz.func25 rfl rfl rfl (St.start w []) ?_
 refine Gs (Ga rfl (Gn (.t1 0) (Gs (Gm rfl (Gt (Bi rfl rfl) (Gm rfl (Bc 5 rfl rfl (fun q=>AF rfl) ?_)))))))
 refine Bc 5 rfl rfl (fun q=>Bi (cF rfl q) rfl) ?_
 refine Gt (BR rfl rfl (fun h=>by rw [h];rfl)) ?_
 refine Gm rfl (Bc 9 rfl rfl (fun q=>AF rfl) (Bc 9 rfl rfl (fun q=>Bi (cF rfl q) rfl) ?_))
 refine Gt (BR rfl rfl (fun h=>by rw [h];rfl)) ?_
 refine Gm rfl (Bc 13 rfl rfl (fun q=>AF rfl) (Bc 13 rfl rfl (fun q=>Bi (cF rfl q) rfl) ?_))
 refine Gt (BR rfl rfl (fun h=>by rw [h];rfl)) ?_
 refine Gm rfl (Bc 17 rfl rfl (fun q=>AF rfl) (Bc 17 rfl rfl (fun q=>Bi (cF rfl q) rfl) ?_))
 refine Gt (BR rfl rfl (fun h=>by rw [h];rfl)) ?_
 refine Ga rfl (Gn (.t1 2) (Ab ?_))
 refine AY rfl (.tmp rfl .n) ?_
 intro w1 hS;refine⟨?_,hS.Ak⟩;rfl
theorem Kv {t0 t1:Nat}(f g:Hd)(xs ys:List Ao)(hx:xs.length≤9223372036854775807)(w:World)(r0:Rd w f t0 1 (xs.flatMap A7))(r1:Rd w g t1 1 (ys.flatMap A7)):Ej Tryz.prog 26 #[f.val,g.val] w fun v w'=>v = .bool (decide (xs=ys))∧CB w w':=by
 have hf:=r0.LO DO (by decide)
 have hg:=r1.LO DO (by decide)
 refine Al [] [] Tryz.func26 rfl rfl rfl (St.start w []) ?_
 refine Gs (Ga rfl (Gn (.t2 0 1) (CD (Gm rfl (Gt (Ar rfl Tryz.underlying52 rfl) (Gm rfl (Gt (Ar rfl Tryz.underlying52 rfl) ?_)))))))
 refine Gt (Ca rfl rfl) (Gn (.t3 0 1 10) ?_)
 refine Gc (fun c1=>?_) (fun c1=>?_)
 ·
  have c1p:=kz c1
  refine Gs (Ga rfl (Gn (.t1 4) (Ab (AD ?_))))
  refine AY rfl (.tmp rfl .n) ?_
  intro w1 hS;refine⟨congrArg Value.bool ?_,hS.Ak⟩;have:xs≠ys:=fun e=>by subst e;simp at c1;omega
  simp [this]
 have c1p:=kz c1
 refine Aa ?_
 refine AB (.t2 0 1) ?_
 refine AA (CD (Ga rfl (AQ (AA (Ae ?_)))))
 refine Bl (.t3 5 0 1) ?_
 refine Ce (fun(i:Int)=>0≤i∧i≤xs.length∧xs.length=ys.length∧xs.take i.toNat=ys.take i.toNat) (fun(i:Int)=>((xs.length:Int) - i).toNat) (fun(i:Int)=> [(5, .int .i64 i)]) (fun(i:Int)=> []) (0) ?_ rfl rfl (fun i hI1=>?_)
 · exact⟨by omega,by omega,by simp at c1;omega,rfl⟩
 obtain⟨hI11,hI12,hI13,hI14⟩:=hI1
 refine CD (Gm rfl (Gm rfl (Gt (Ar rfl Tryz.underlying52 rfl) (Gt (A8 rfl rfl) (Gn (.t4 0 1 5 14) ?_)))))
 refine Gc (fun c2=>?_) (fun c2=>?_)
 ·
  have c2p:=kz c2
  refine Aa ?_
  refine AB (.t3 0 1 5) ?_
  refine AA (Ap (Ae (Ap ?_)))
  refine BD (N:=9) [0,0,3,7,0,0,48,112,255] mix (by kernel_rfl) rfl ?_
  refine Pf 0 rfl (AF rfl) (Pf 1 rfl (AF rfl) ?_)
  refine Pf 2 rfl (Bp IM (by decide) (Kn.IX r0) rfl rfl (by omega) (by omega)) ?_
  refine Pf 3 rfl (C9 rfl CO (Kn.IX r0) (by omega)) ?_
  refine Pf 4 rfl (AF rfl) (Pf 5 rfl (AF rfl) ?_)
  refine Pf 6 rfl (Bp IM (by decide) (Kn.IX r1) rfl rfl (by omega) (by omega)) ?_
  refine Pf 7 rfl (C9 rfl CO (Kn.IX r1) (by omega)) ?_
  refine Pf 8 rfl (Dl rfl rfl) ?_
  refine A3 (by kernel_rfl) ?_
  refine AB (.t4 0 1 5 25) ?_
  refine AA ?_
  refine Gc (fun c3=>?_) (fun c3=>?_)
  ·
   refine Gs (Ga rfl (Gn (.t1 4) (Ab (AR (AD (AD (AR ?_)))))))
   refine AD ?_
   refine AY rfl (.tmp rfl .n) ?_
   intro w1 hS;refine⟨congrArg Value.bool ?_,hS.Ak⟩;have:=Bg.Tv (d:= []) (xs:=xs) (ys:=ys) (i:=i.toNat) (by simpa using c3)
   simp [this]
  have c3p:=kz c3
  refine Aa ?_
  refine AB (.t3 0 1 5) ?_
  refine AW (AA (AJ (Gm rfl ?_)))
  refine Gt (Av rfl rfl (IntWalk.i64_in _ (by omega))) ?_
  refine Ga rfl ?_
  refine AQ (AB (.t3 0 1 5) ?_)
  refine B6 (i+1) ?_ ?_ (.t3 5 0 1) (.refl _)
  · exact⟨by omega,by omega,hI13,Bg.KT (d:= []) hI11 hI13 (by omega) hI14 (by simpa using c3)⟩
  · omega
 have c2p:=kz c2
 refine Ba (AV (AV (Af ?_)))
 refine AB (.nil _) ?_
 refine AA (Gs (Ga rfl (AQ (AA (Ab ?_)))))
 refine AY rfl (.tmp rfl .n) ?_
 intro w1 hS;refine⟨congrArg Value.bool ?_,hS.Ak⟩;have:=Bg.dU (xs:=xs) (ys:=ys) hI13 hI14 (by omega)
 simp [this]
theorem Ke (b:Nat)(V:AL)(ls:Vector BG 4)(ev:List Ing.Event)(a:Bx)(r:Bq)(c:Nat)(W:Vector Int 4)(hA:(A5 V ls ev).Live)(hH:XK V ls ev W):FC Tryz.prog 20 #[.pointer (some ⟨b,0,none⟩), .agg a.enc.toArray, .agg r.enc.toArray, .pointer (some ⟨c,0,none⟩)] [Ac.box b 101 (AL.enc V),Ac.D7 (CJ 9 (AL.Ax V) ls),Ac.own (AL.last V) 56 16 ((ev).flatMap Ing.Event.enc),Ac.box c 49 (B3 (n:=4) Aw W)] (fun w=>(GV 2 Fa w∧2 ∉ Cc [Ac.box b 101 (AL.enc V),Ac.D7 (CJ 9 (AL.Ax V) ls),Ac.own (AL.last V) 56 16 ((ev).flatMap Ing.Event.enc),Ac.box c 49 (B3 (n:=4) Aw W)])∧(GV 0 AG.DE w∧0 ∉ Cc [Ac.box b 101 (AL.enc V),Ac.D7 (CJ 9 (AL.Ax V) ls),Ac.own (AL.last V) 56 16 ((ev).flatMap Ing.Event.enc),Ac.box c 49 (B3 (n:=4) Aw W)])) (fun v B=>∃ U:Vector Int 4,v = .bool true∧OB (fun j=>(Ci (V.Ax.at j)).2) W U 4∧B = [Ac.box b 101 (AL.enc V),Ac.D7 (CJ 9 (AL.Ax V) ls),Ac.own (AL.last V) 56 16 ((ev).flatMap Ing.Event.enc),Ac.box c 49 (B3 (n:=4) Aw U)]):=by
 intro w hS0 hH
 obtain⟨⟨gl0,gm0⟩,⟨gl1,gm1⟩⟩:=hH
 have hvl:=hA.last
 refine Al _ _ Tryz.func20 rfl rfl rfl (hS0) ?_
 refine Gs ?_
 refine B5 rfl rfl rfl (fun b1=>?_)
 refine B5 rfl rfl rfl (fun b2=>?_)
 refine Ga rfl (Gn (.t2 0 3) (CD (Gm rfl (AQ (AA (Ae ?_))))))
 refine Bl (.t3 20 0 3) ?_
 refine Bf (.t (.t (.t (.t (.t .h))))) ?_
 refine Fq (fun(k:Int) (T1:Vector Int 4)=>0≤k∧k≤4∧OB (fun j=>(Ci (V.Ax.at j)).2) W T1 k) (fun(k:Int) (T1:Vector Int 4)=>(4 - k).toNat) (fun(k:Int) (T1:Vector Int 4)=> [(20, .int .i64 k)]) (fun(k:Int) (T1:Vector Int 4)=> [Ac.box c 49 (B3 (n:=4) Aw T1)]) (0) (W) ?_ rfl rfl (fun k T1 hI1=>?_)
 · exact⟨by omega,by omega, .start _ W⟩
 obtain⟨hI11,hI12,hI13⟩:=hI1
 refine Gs (Gt (A8 rfl rfl) (AQ (AA (Ap ?_))))
 refine Gc (fun c1=>?_) (fun c1=>?_)
 ·
  have c1p:=kz c1
  have hk:0≤k∧k < 4:=⟨by omega,by omega⟩
  have hvt:=hA.told hk.1 hk.2
  refine Aa ?_
  refine AB (.t3 0 3 20) ?_
  refine AA (Ap (Ae (Gs (Gm rfl (Ga rfl (Gn (.t4 0 3 8 20) (Gs ?_)))))))
  refine Gm rfl (Gm rfl ?_)
  refine Ah rfl cr (.c rfl (.c rfl .n)) (.c (.t (.t (.t .h))) .n) (Kp b V k hk) (fun v1 B hv=>?_)
  obtain⟨rfl,rfl⟩:=hv
  refine Gm rfl (Gt (AM rfl rfl) (Gt (AM rfl rfl) (Ga rfl (Ga rfl (Gn (.t6 0 3 8 9 10 20) (Gs (Gm rfl ?_)))))))
  refine Gt (AS bR rfl rfl (by first | omega | exact hk.1 | exact hk.2) (by first | omega | exact hk.1 | exact hk.2)) ?_
  refine Gt (AH rfl A4 .m1 ((AU.id (Iz B1).len (Iz B1).one).comp (AU.ar (n:=4) B1 (by first | omega | exact hk))) rfl rfl) ?_
  refine Ga rfl (Gn (.t7 0 3 8 9 10 11 20) (Gs (Gm rfl (Gm rfl ?_))))
  refine Gt (AS bR rfl rfl (by first | omega | exact hk.1 | exact hk.2) (by first | omega | exact hk.1 | exact hk.2)) ?_
  refine AT (AK ((AU.id (Iz B1).len (Iz B1).one).comp (AU.ar (n:=4) B1 (by first | omega | exact hk))) rfl rfl rfl DB rfl (.t .h)) ?_
  refine Gn (.t7 0 3 8 9 10 11 20) (CD (Gm rfl (Gt (Ca rfl rfl) (Gm rfl (Bc 37 rfl rfl (fun q=>AF rfl) (Bc 37 rfl rfl (fun q=>AF rfl) (Bc 37 rfl rfl (fun q=>Ca (cF rfl q) (cF rfl q)) ?_)))))))
  refine Gt (BR rfl rfl (fun h=>by rw [h];rfl)) ?_
  refine Gn (.t6 0 3 8 10 20 41) ?_
  refine Gc (fun c2=>?_) (fun c2=>?_)
  ·
   have c2p:=kz c2
   refine Ba (AV (Af ?_))
   refine AB (.t3 0 3 20) ?_
   refine AA (AJ ?_)
   refine Gt (Av rfl rfl (IntWalk.i64_in _ (by first | omega | exact hk.1 | exact hk.2))) ?_
   refine Gm rfl ?_
   refine AQ (AB (.t3 0 3 20) ?_)
   refine CI (.c (.t .h) (.c (.t .h) (.c (.t .h) (.c .h (.c .h (.c .h .n)))))) ?_
   refine Cf ?_
   refine C0 (k+1) _ ?_ ?_ (.t3 20 0 3) (.refl _)
   · exact⟨by omega,by omega,hI13.next hk.1 hk.2 rfl⟩
   · omega
  have c2p:=kz c2
  have hh:=Yn hk.1 hk.2 hH (hI13.at hk.1 hk.2) c2
  refine Aa ?_
  refine AB (.t5 0 3 8 10 20) ?_
  refine AA (Gs (Ga rfl (Ga rfl (AQ (AA (CD (Gm rfl ?_)))))))
  refine Ah rfl ep (.c rfl .n) (.c .h (.c (.t (.t (.t (.t .h)))) .n)) (Rb b V ev hvl) (fun v2 B hv=>?_)
  obtain⟨y3,rfl,y4,rfl⟩:=hv
  refine Gt (Ar rfl Tryz.underlying53 rfl) (Gm rfl (Gn (.t10 0 3 8 10 12 13 20 43 44 45) (Ae ?_)))
  refine Bl (.t10 12 45 0 3 8 10 13 20 43 44) ?_
  refine Eb A7 9 1 ?_
  refine DX (fun(m:Int) (xs:List Ao) (h:Hd)=>0≤m∧m≤(ev.length:Int)∧xs=(HC (ev.take m.toNat) (Ci (V.Ax.at k)).2)∧h.len=xs.length∧xs.length≤m.toNat) (fun(m:Int) (xs:List Ao) (h:Hd)=>((ev.length:Int) - m).toNat) (fun(m:Int) (xs:List Ao) (h:Hd)=> [(12,h.val),(45, .int .i64 m)]) (fun(m:Int) (xs:List Ao) (h:Hd)=> [Ac.own h 9 1 (xs.flatMap A7)]) (0) ([]) (_) ?_ rfl rfl (fun m xs h hI2=>?_)
  · exact⟨by omega,by omega,rfl,rfl,by simp⟩
  obtain⟨hI21,hI22,hI23,hI24,hI25⟩:=hI2
  refine Gs (Gt (A8 rfl rfl) (AQ (AA (Ap ?_))))
  refine Gc (fun c3=>?_) (fun c3=>?_)
  ·
   have c3p:=kz c3
   refine Aa ?_
   refine AB (.t10 0 3 8 10 12 13 20 43 44 45) ?_
   refine AA (Ap (Ae (Gs ?_)))
   refine Gt (Bp cl (by decide) (Kn.own .m3) rfl rfl (by omega) (by omega)) ?_
   refine Gt (MX rfl Ln (by decide) Ing.Event.fl (Kn.own .m3) (by omega)) ?_
   refine BH rfl Hx rfl (fun b3=>?_)
   refine AT (AK (AU.id Ing.Event.fl.len Ing.Event.fl.one) rfl rfl rfl MJ rfl .h) ?_
   refine Gn (.t11 0 3 8 10 12 13 15 20 43 44 45) (Gs (Gt (AZ rfl Ln .m0 (AU.id Ing.Event.fl.len Ing.Event.fl.one) rfl) (Gm rfl ?_)))
   refine BA rfl dk (.c rfl (.c rfl .n)) (fun w hS=>JX (ev.getD m.toNat default) _ (fun _=>hh.1 _ (Mu (d:=default) (xs:=ev) (i:=m.toNat) (by omega))) w (gl0.stM gm0 hS) (gl1.stM gm1 hS)) ?_
   refine Gm rfl (Gt (AM rfl rfl) (Gt (AM rfl rfl) (Ga rfl (Ga rfl (Gn (.t12 0 3 8 10 12 13 16 17 20 43 44 45) (Gs (Gm rfl ?_)))))))
   refine Gn (.t12 0 3 8 10 12 13 16 20 43 44 45 55) ?_
   refine Gc (fun c4=>?_) (fun c4=>?_)
   ·
    have c4p:=kz c4
    refine AJ (Gm rfl (Gm rfl ?_))
    refine E2 A7 DO rfl Tryz.underlying52 Em Qw rfl (by decide) (by decide) rfl rfl (fun b4=>?_)
    refine CM DO rfl Tryz.underlying52 Em Qw rfl XE (by decide) (by decide) rfl rfl (fun w hS=>Src.Dq Tryz.underlying52 ((Kn.own .m0) w hS)) (by(try dsimp only);omega) (fun _=>(.t (.t .h))) (fun h6 h6l h6z=>?_)
    refine Ga rfl ?_
    refine AQ (AB (.t10 0 3 8 10 12 13 20 43 44 45) ?_)
    refine AW (AA (AJ ?_))
    refine Gt (Av rfl rfl (IntWalk.i64_in _ (by first | omega | exact hk.1 | exact hk.2))) ?_
    refine Gm rfl ?_
    refine AQ (AB (.t10 0 3 8 10 12 13 20 43 44 45) ?_)
    refine Bt (m+1) _ _ ?_ ?_ (.t10 12 45 0 3 8 10 13 20 43 44) (.cons _ (.cons _ (.refl _)))
    · exact⟨by omega,by omega,bu hI21 (by omega) c4 hI23,(by(try dsimp only at *)<;>(try simp only [List.length_append,List.length_cons,List.length_nil])<;>omega),(by(try simp only [List.length_append,List.length_cons,List.length_nil]);omega)⟩
    · omega
   have c4p:=kz c4
   refine Aa ?_
   refine AB (.t10 0 3 8 10 12 13 20 43 44 45) ?_
   refine AW (AA (AJ ?_))
   refine Gt (Av rfl rfl (IntWalk.i64_in _ (by first | omega | exact hk.1 | exact hk.2))) ?_
   refine Gm rfl ?_
   refine AQ (AB (.t10 0 3 8 10 12 13 20 43 44 45) ?_)
   refine Bt (m+1) _ _ ?_ ?_ (.t10 12 45 0 3 8 10 13 20 43 44) (.cons _ (.refl _))
   · exact⟨by omega,by omega,bK hI21 (by omega) c4 hI23,(by(try dsimp only at *)<;>(try simp only [List.length_append,List.length_cons,List.length_nil])<;>omega),(by(try simp only [List.length_append,List.length_cons,List.length_nil]);omega)⟩
   · omega
  have c3p:=kz c3
  refine Ba (AV (AV (Af ?_)))
  refine AB (.t6 0 3 8 12 13 20) ?_
  refine AA (CD (Gm rfl (Gm rfl ?_)))
  refine Ah rfl eK (.c rfl (.c rfl .n)) (.c (.t .h) (.c (.t (.t (.t (.t (.t (.t .h)))))) .n)) (L0 b V ls k hk (hA.told hk.1 hk.2)) (fun v7 B hv=>?_)
  obtain⟨y8,rfl,y9,rfl⟩:=hv
  refine Gt (Ar rfl Tryz.underlying52 rfl) (Gm rfl (Gn (.t8 0 3 12 13 20 63 64 65) (Ae ?_)))
  refine Bl (.t8 13 65 0 3 12 20 63 64) ?_
  refine Eb A7 9 1 ?_
  refine DX (fun(n:Int) (ys:List Ao) (g:Hd)=>0≤n∧n≤((ls.at k).told.length:Int)∧ys=(Kb ((ls.at k).told.take n.toNat))∧g.len=ys.length∧ys.length≤n.toNat) (fun(n:Int) (ys:List Ao) (g:Hd)=>(((ls.at k).told.length:Int) - n).toNat) (fun(n:Int) (ys:List Ao) (g:Hd)=> [(13,g.val),(65, .int .i64 n)]) (fun(n:Int) (ys:List Ao) (g:Hd)=> [Ac.own g 9 1 (ys.flatMap A7)]) (0) ([]) (_) ?_ rfl rfl (fun n ys g hI3=>?_)
  · exact⟨by omega,by omega,rfl,rfl,by simp⟩
  obtain⟨hI31,hI32,hI33,hI34,hI35⟩:=hI3
  refine Gs (Gt (A8 rfl rfl) (AQ (AA (Ap ?_))))
  refine Gc (fun c5=>?_) (fun c5=>?_)
  ·
   have c5p:=kz c5
   refine Aa ?_
   refine AB (.t8 0 3 12 13 20 63 64 65) ?_
   refine AA (Ap (Ae (Gs ?_)))
   refine Gt (Bp IM (by decide) (Kn.own .m3) rfl rfl (by omega) (by omega)) ?_
   refine Gt (C9 rfl CO (Kn.own .m3) (by omega)) ?_
   refine Ga rfl (Gn (.t9 0 3 12 13 19 20 63 64 65) (Gs (Gm rfl ?_)))
   refine BA rfl en (.c rfl .n) (fun w hS=>RP _ w) ?_
   refine Gt (BT rfl) (Gn (.t10 0 3 12 13 19 20 63 64 65 71) ?_)
   refine Gc (fun c6=>?_) (fun c6=>?_)
   ·
    have c6p:=kz c6
    refine AJ (Gm rfl (Gm rfl ?_))
    refine E2 A7 DO rfl Tryz.underlying52 Em Qw rfl (by decide) (by decide) rfl rfl (fun b5=>?_)
    refine CM DO rfl Tryz.underlying52 Em Qw rfl XE (by decide) (by decide) rfl rfl (fun w hS=>Src.Dq Tryz.underlying52 ((Kn.own .m0) w hS)) (by(try dsimp only);omega) (fun _=>(.t .h)) (fun h11 h11l h11z=>?_)
    refine Ga rfl ?_
    refine AQ (AB (.t8 0 3 12 13 20 63 64 65) ?_)
    refine AW (AA (AJ ?_))
    refine Gt (Av rfl rfl (IntWalk.i64_in _ (by first | omega | exact hk.1 | exact hk.2))) ?_
    refine Gm rfl ?_
    refine AQ (AB (.t8 0 3 12 13 20 63 64 65) ?_)
    refine Bt (n+1) _ _ ?_ ?_ (.t8 13 65 0 3 12 20 63 64) (.cons _ (.refl _))
    · exact⟨by omega,by omega,cf hI31 (by omega) c6 hI33,(by(try dsimp only at *)<;>(try simp only [List.length_append,List.length_cons,List.length_nil])<;>omega),(by(try simp only [List.length_append,List.length_cons,List.length_nil]);omega)⟩
    · omega
   have c6p:=kz c6
   refine Aa ?_
   refine AB (.t8 0 3 12 13 20 63 64 65) ?_
   refine AW (AA (AJ ?_))
   refine Gt (Av rfl rfl (IntWalk.i64_in _ (by first | omega | exact hk.1 | exact hk.2))) ?_
   refine Gm rfl ?_
   refine AQ (AB (.t8 0 3 12 13 20 63 64 65) ?_)
   refine Bt (n+1) _ _ ?_ ?_ (.t8 13 65 0 3 12 20 63 64) (.refl _)
   · exact⟨by omega,by omega,dj hI31 (by omega) c6 hI33,(by(try dsimp only at *)<;>(try simp only [List.length_append,List.length_cons,List.length_nil])<;>omega),(by(try simp only [List.length_append,List.length_cons,List.length_nil]);omega)⟩
   · omega
  have c5p:=kz c5
  refine Ba (AV (AV (Af ?_)))
  refine AB (.t5 0 3 12 13 20) ?_
  refine AA (Gs (Gm rfl (Gm rfl ?_)))
  refine BA rfl fY (.c rfl (.c rfl .n)) (fun w hS=>Kv _ _ xs ys (by omega) w ((Kn.own .m4) w hS) ((Kn.own .m0) w hS)) ?_
  refine Gt (BT rfl) (Gn (.t4 0 3 20 80) ?_)
  refine EP rfl (Tp hh hI23 (by omega) hI33 (by omega)) ?_
  refine Aa ?_
  refine AB (.t3 0 3 20) ?_
  refine AW (AA (AJ ?_))
  refine Gt (Av rfl rfl (IntWalk.i64_in _ (by first | omega | exact hk.1 | exact hk.2))) ?_
  refine Gm rfl ?_
  refine AQ (AB (.t3 0 3 20) ?_)
  refine CI (.c (.t (.t (.t (.t (.t (.t (.t .h))))))) (.c (.t (.t (.t (.t (.t (.t (.t .h))))))) (.c (.t (.t (.t (.t (.t (.t (.t .h))))))) (.c (.t .h) (.c (.t .h) (.c (.t (.t (.t .h))) .n)))))) ?_
  refine Cf ?_
  refine C0 (k+1) _ ?_ ?_ (.t3 20 0 3) (.refl _)
  · exact⟨by omega,by omega,hI13.next hk.1 hk.2 rfl⟩
  · omega
 have c1p:=kz c1
 obtain rfl:k=4:=by omega
 refine Ba (AV (AV (Af ?_)))
 refine AB (.nil _) ?_
 refine AA (Gs (Ga rfl (AQ (AA (Ab ?_)))))
 refine AY rfl (.tmp rfl .n) ?_
 intro w1 hS
 have hS:=(hS.perm (Ay.perm (.c (.t (.t (.t .h))) (.c (.t (.t (.t .h))) (.c (.t (.t (.t .h))) (.c .h .n)))))).A1
 exact⟨_,⟨_,rfl,hI13,rfl⟩,hS⟩
theorem Pz  (w:World):Ej Tryz.prog 15 #[] w fun v w'=>v = .agg AG.new.enc.toArray∧CB w w':=by
 refine Al [] [] Tryz.func15 rfl rfl rfl (St.start w []) ?_
 refine Gs ?_
 refine BH rfl NS rfl (fun b1=>?_)
 refine AQ (AA (Gs ?_))
 refine BH rfl NS rfl (fun b2=>?_)
 refine AQ (AA (CD ?_))
 refine Gt (E0 Tryz.underlying23 DB Wv rfl (.cons (AU.arr (n:=6) (i:=0) B1 (by decide) (by decide)) rfl rfl rfl (.cons (AU.arr (n:=6) (i:=1) B1 (by decide) (by decide)) rfl rfl rfl (.cons (AU.arr (n:=6) (i:=2) B1 (by decide) (by decide)) rfl rfl rfl (.cons (AU.arr (n:=6) (i:=3) B1 (by decide) (by decide)) rfl rfl rfl (.cons (AU.arr (n:=6) (i:=4) B1 (by decide) (by decide)) rfl rfl rfl (.cons (AU.arr (n:=6) (i:=5) B1 (by decide) (by decide)) rfl rfl rfl .nil))))))) ?_
 refine Gt (E0 Tryz.underlying24 Kd eB rfl (.cons (AU.arr (n:=6) (i:=5) HQ (by decide) (by decide)) rfl rfl rfl .nil)) ?_
 refine Gt (BC VT N6 rfl (.cons Room.l0 rfl rfl rfl (.cons Room.l2 rfl rfl rfl (.cons Room.l3 rfl rfl rfl .nil)))) ?_
 refine Gt (E0 Tryz.underlying23 DB Wv rfl (.cons (AU.arr (n:=6) (i:=0) B1 (by decide) (by decide)) rfl rfl rfl (.cons (AU.arr (n:=6) (i:=1) B1 (by decide) (by decide)) rfl rfl rfl (.cons (AU.arr (n:=6) (i:=2) B1 (by decide) (by decide)) rfl rfl rfl (.cons (AU.arr (n:=6) (i:=3) B1 (by decide) (by decide)) rfl rfl rfl (.cons (AU.arr (n:=6) (i:=4) B1 (by decide) (by decide)) rfl rfl rfl (.cons (AU.arr (n:=6) (i:=5) B1 (by decide) (by decide)) rfl rfl rfl .nil))))))) ?_
 refine Gt (BC VT N6 rfl (.cons Room.l0 rfl rfl rfl (.cons Room.l2 rfl rfl rfl .nil))) ?_
 refine Gt (E0 Tryz.underlying23 DB Wv rfl (.cons (AU.arr (n:=6) (i:=0) B1 (by decide) (by decide)) rfl rfl rfl (.cons (AU.arr (n:=6) (i:=1) B1 (by decide) (by decide)) rfl rfl rfl (.cons (AU.arr (n:=6) (i:=2) B1 (by decide) (by decide)) rfl rfl rfl (.cons (AU.arr (n:=6) (i:=3) B1 (by decide) (by decide)) rfl rfl rfl (.cons (AU.arr (n:=6) (i:=4) B1 (by decide) (by decide)) rfl rfl rfl (.cons (AU.arr (n:=6) (i:=5) B1 (by decide) (by decide)) rfl rfl rfl .nil))))))) ?_
 refine Gt (BC VT N6 rfl (.cons Room.l0 rfl rfl rfl (.cons Room.l2 rfl rfl rfl (.cons Room.l1 rfl rfl rfl .nil)))) ?_
 refine Gt (E0 Tryz.underlying23 DB Wv rfl (.cons (AU.arr (n:=6) (i:=0) B1 (by decide) (by decide)) rfl rfl rfl (.cons (AU.arr (n:=6) (i:=1) B1 (by decide) (by decide)) rfl rfl rfl (.cons (AU.arr (n:=6) (i:=2) B1 (by decide) (by decide)) rfl rfl rfl (.cons (AU.arr (n:=6) (i:=3) B1 (by decide) (by decide)) rfl rfl rfl (.cons (AU.arr (n:=6) (i:=4) B1 (by decide) (by decide)) rfl rfl rfl (.cons (AU.arr (n:=6) (i:=5) B1 (by decide) (by decide)) rfl rfl rfl .nil))))))) ?_
 refine Gt (BC VT N6 rfl (.cons Room.l0 rfl rfl rfl (.cons Room.l2 rfl rfl rfl (.cons Room.l1 rfl rfl rfl .nil)))) ?_
 refine Gt (E0 Tryz.underlying23 DB Wv rfl (.cons (AU.arr (n:=6) (i:=0) B1 (by decide) (by decide)) rfl rfl rfl (.cons (AU.arr (n:=6) (i:=1) B1 (by decide) (by decide)) rfl rfl rfl (.cons (AU.arr (n:=6) (i:=2) B1 (by decide) (by decide)) rfl rfl rfl (.cons (AU.arr (n:=6) (i:=3) B1 (by decide) (by decide)) rfl rfl rfl (.cons (AU.arr (n:=6) (i:=4) B1 (by decide) (by decide)) rfl rfl rfl (.cons (AU.arr (n:=6) (i:=5) B1 (by decide) (by decide)) rfl rfl rfl .nil))))))) ?_
 refine Gt (E0 Tryz.underlying24 Kd eB rfl (.cons (AU.arr (n:=6) (i:=2) HQ (by decide) (by decide)) rfl rfl rfl .nil)) ?_
 refine Gt (BC VT N6 rfl (.cons Room.l0 rfl rfl rfl (.cons Room.l2 rfl rfl rfl (.cons Room.l3 rfl rfl rfl (.cons Room.l1 rfl rfl rfl .nil))))) ?_
 refine Gt (E0 Tryz.underlying23 DB Wv rfl (.cons (AU.arr (n:=6) (i:=0) B1 (by decide) (by decide)) rfl rfl rfl (.cons (AU.arr (n:=6) (i:=1) B1 (by decide) (by decide)) rfl rfl rfl (.cons (AU.arr (n:=6) (i:=2) B1 (by decide) (by decide)) rfl rfl rfl (.cons (AU.arr (n:=6) (i:=3) B1 (by decide) (by decide)) rfl rfl rfl (.cons (AU.arr (n:=6) (i:=4) B1 (by decide) (by decide)) rfl rfl rfl (.cons (AU.arr (n:=6) (i:=5) B1 (by decide) (by decide)) rfl rfl rfl .nil))))))) ?_
 refine Gt (BC VT N6 rfl (.cons Room.l0 rfl rfl rfl (.cons Room.l2 rfl rfl rfl .nil))) ?_
 refine Xr (cs:=B3 (n:=6) Room.enc (Vector.replicate 6 default)) (cs':=B3 (n:=6) Room.enc AG.UB) rfl Tryz.underlying95 RW N6 (by decide) (by decide) (by kernel_rfl) (.cons (AU.arr (n:=6) (i:=0) Room.fl (by decide) (by decide)) rfl rfl rfl (.cons (AU.arr (n:=6) (i:=1) Room.fl (by decide) (by decide)) rfl rfl rfl (.cons (AU.arr (n:=6) (i:=2) Room.fl (by decide) (by decide)) rfl rfl rfl (.cons (AU.arr (n:=6) (i:=3) Room.fl (by decide) (by decide)) rfl rfl rfl (.cons (AU.arr (n:=6) (i:=4) Room.fl (by decide) (by decide)) rfl rfl rfl (.cons (AU.arr (n:=6) (i:=5) Room.fl (by decide) (by decide)) rfl rfl rfl .nil)))))) rfl (fun b3=>?_)
 refine Gt (Ar rfl Tryz.underlying95 rfl) (Gm rfl (Gn (.t5 0 1 20 21 22) (Ae ?_)))
 refine Bl (.t5 22 0 1 20 21) ?_
 refine Bf (.t .h) ?_
 refine Ce (fun(k:Int)=>0≤k∧k≤6) (fun(k:Int)=>(6 - k).toNat) (fun(k:Int)=> [(22, .int .i64 k)]) (fun(k:Int)=> [Ac.box b2 35 (AG.enc (AG.UH k.toNat))]) (0) ?_ rfl rfl (fun k hI1=>?_)
 · exact⟨Int.le_refl _,by omega⟩
 obtain⟨hI11,hI12⟩:=hI1
 refine Gs (Gt (A8 rfl rfl) (AQ (AA (Ap ?_))))
 refine Gc (fun c1=>?_) (fun c1=>?_)
 ·
  have c1p:=kz c1
  dsimp only at c1p
  refine Aa ?_
  refine AB (.t5 0 1 20 21 22) ?_
  refine AA (Ap (Ae (Gs (Gm rfl ?_))))
  refine Gt (Bp fK (by decide) (Kn.own .m1) rfl rfl (by omega) (by dsimp only;omega)) ?_
  refine Gt (MX rfl N7 (by decide) Room.fl (Kn.own .m1) (by simp;omega)) ?_
  refine BH rfl N6 rfl (fun b4=>?_)
  refine Ga rfl ?_
  refine AT (AK (AU.id Room.fl.len Room.fl.one) rfl rfl rfl RW rfl .h) ?_
  refine Gn (.t7 0 1 2 3 20 21 22) (AJ (Gm rfl (Gt (AZ rfl N7 .m0 (AU.id Room.fl.len Room.fl.one) rfl) (Gt (Ai G4 rfl) ?_))))
  refine Gt (AS O6 rfl rfl (by omega) (by omega)) ?_
  refine AT (AK (AG.l0.comp (AU.ar (n:=6) Room.fl (by omega))) rfl rfl rfl RW rfl (.t .h)) ?_
  refine AQ (AB (.t5 0 1 20 21 22) ?_)
  refine AW (AA (AJ ?_))
  refine Gt (Av rfl rfl (IntWalk.i64_in _ (by omega))) ?_
  refine Gm rfl ?_
  refine AQ (AB (.t5 0 1 20 21 22) ?_)
  refine B6 (k+1) ?_ ?_ (.t5 22 0 1 20 21) (by rw [AG.Vc (by omega)];exact(.cons _ (.refl _)))
  · exact⟨by omega,by omega⟩
  · omega
 have c1p:=kz c1
 dsimp only at c1p
 obtain rfl:k=6:=by omega
 refine Ba (AV (AV (Af ?_)))
 refine AB (.t2 0 1) ?_
 refine AA (CD (Gt (BC Re Kf rfl (.cons Am.l0 rfl rfl rfl (.cons Am.l1 rfl rfl rfl .nil))) (Gt (BC Re Kf rfl (.cons Am.l0 rfl rfl rfl (.cons Am.l1 rfl rfl rfl (.cons Am.l3 rfl rfl rfl .nil)))) (Gt (BC Re Kf rfl (.cons Am.l0 rfl rfl rfl (.cons Am.l1 rfl rfl rfl .nil))) (Gt (BC Re Kf rfl (.cons Am.l0 rfl rfl rfl (.cons Am.l1 rfl rfl rfl (.cons Am.l3 rfl rfl rfl .nil)))) (Gt (BC Re Kf rfl (.cons Am.l0 rfl rfl rfl (.cons Am.l2 rfl rfl rfl (.cons Am.l3 rfl rfl rfl .nil)))) (Gt (BC Re Kf rfl (.cons Am.l0 rfl rfl rfl (.cons Am.l3 rfl rfl rfl .nil))) ?_)))))))
 refine Gt (BC Re Kf rfl (.cons Am.l0 rfl rfl rfl .nil)) (Gt (BC Re Kf rfl (.cons Am.l0 rfl rfl rfl (.cons Am.l1 rfl rfl rfl (.cons Am.l4 rfl rfl rfl .nil)))) (Gt (BC Re Kf rfl (.cons Am.l0 rfl rfl rfl (.cons Am.l2 rfl rfl rfl (.cons Am.l3 rfl rfl rfl .nil)))) ?_))
 refine Xr (cs:=B3 (n:=9) Am.enc (Vector.replicate 9 default)) (cs':=B3 (n:=9) Am.enc AG.RU) rfl Tryz.underlying96 NT Kf (by decide) (by decide) (by kernel_rfl) (.cons (AU.arr (n:=9) (i:=0) Am.fl (by decide) (by decide)) rfl rfl rfl (.cons (AU.arr (n:=9) (i:=1) Am.fl (by decide) (by decide)) rfl rfl rfl (.cons (AU.arr (n:=9) (i:=2) Am.fl (by decide) (by decide)) rfl rfl rfl (.cons (AU.arr (n:=9) (i:=3) Am.fl (by decide) (by decide)) rfl rfl rfl (.cons (AU.arr (n:=9) (i:=4) Am.fl (by decide) (by decide)) rfl rfl rfl (.cons (AU.arr (n:=9) (i:=5) Am.fl (by decide) (by decide)) rfl rfl rfl (.cons (AU.arr (n:=9) (i:=6) Am.fl (by decide) (by decide)) rfl rfl rfl (.cons (AU.arr (n:=9) (i:=7) Am.fl (by decide) (by decide)) rfl rfl rfl (.cons (AU.arr (n:=9) (i:=8) Am.fl (by decide) (by decide)) rfl rfl rfl .nil))))))))) rfl (fun b5=>?_)
 refine Gt (Ar rfl Tryz.underlying96 rfl) (Gm rfl (Gn (.t5 0 1 41 42 43) (Ae ?_)))
 refine Bl (.t5 43 0 1 41 42) ?_
 refine Bf (.t .h) ?_
 refine Ce (fun(k:Int)=>0≤k∧k≤9) (fun(k:Int)=>(9 - k).toNat) (fun(k:Int)=> [(43, .int .i64 k)]) (fun(k:Int)=> [Ac.box b2 35 (AG.enc (AG.IZ k.toNat))]) (0) ?_ rfl rfl (fun k hI2=>?_)
 · exact⟨Int.le_refl _,by omega⟩
 obtain⟨hI21,hI22⟩:=hI2
 refine Gs (Gt (A8 rfl rfl) (AQ (AA (Ap ?_))))
 refine Gc (fun c2=>?_) (fun c2=>?_)
 ·
  have c2p:=kz c2
  dsimp only at c2p
  refine Aa ?_
  refine AB (.t5 0 1 41 42 43) ?_
  refine AA (Ap (Ae (Gs (Gm rfl ?_))))
  refine Gt (Bp fS (by decide) (Kn.own .m1) rfl rfl (by omega) (by dsimp only;omega)) ?_
  refine Gt (MX rfl M5 (by decide) Am.fl (Kn.own .m1) (by simp;omega)) ?_
  refine BH rfl Kf rfl (fun b6=>?_)
  refine Ga rfl ?_
  refine AT (AK (AU.id Am.fl.len Am.fl.one) rfl rfl rfl NT rfl .h) ?_
  refine Gn (.t7 0 1 4 5 41 42 43) (AJ (Gm rfl (Gt (AZ rfl M5 .m0 (AU.id Am.fl.len Am.fl.one) rfl) (Gt (Ai Cx rfl) ?_))))
  refine Gt (AS GO rfl rfl (by omega) (by omega)) ?_
  refine AT (AK (AG.l1.comp (AU.ar (n:=9) Am.fl (by omega))) rfl rfl rfl NT rfl (.t .h)) ?_
  refine AQ (AB (.t5 0 1 41 42 43) ?_)
  refine AW (AA (AJ ?_))
  refine Gt (Av rfl rfl (IntWalk.i64_in _ (by omega))) ?_
  refine Gm rfl ?_
  refine AQ (AB (.t5 0 1 41 42 43) ?_)
  refine B6 (k+1) ?_ ?_ (.t5 43 0 1 41 42) (by rw [AG.Wz (by omega)];exact(.cons _ (.refl _)))
  · exact⟨by omega,by omega⟩
  · omega
 have c2p:=kz c2
 dsimp only at c2p
 obtain rfl:k=9:=by omega
 refine Ba (AV (AV (Af ?_)))
 refine AB (.t2 0 1) ?_
 refine AA (Gs (Gt (BC Xu ME rfl (.cons Aj.l0 rfl rfl rfl (.cons Aj.l1 rfl rfl rfl (.cons Aj.l2 rfl rfl rfl (.cons Aj.l4 rfl rfl rfl .nil))))) (Gt (Ai Bs rfl) ?_)))
 refine Gt (AS C8 rfl rfl (by decide) (by decide)) ?_
 refine AT (AK (AG.l2.comp (AU.arr (n:=6) Aj.fl (by decide) (by decide))) rfl rfl rfl KZ rfl .h) ?_
 refine Gn (.t2 0 1) (Gs (Gt (BC Xu ME rfl (.cons Aj.l0 rfl rfl rfl (.cons Aj.l1 rfl rfl rfl (.cons Aj.l3 rfl rfl rfl (.cons Aj.l4 rfl rfl rfl .nil))))) (Gt (Ai Bs rfl) ?_)))
 refine Gt (AS C8 rfl rfl (by decide) (by decide)) ?_
 refine AT (AK (AG.l2.comp (AU.arr (n:=6) Aj.fl (by decide) (by decide))) rfl rfl rfl KZ rfl .h) ?_
 refine Gn (.t2 0 1) (Gs (Gt (AZ rfl BZ .m0 (AU.id AG.fl.len AG.fl.one) rfl) ?_))
 refine AT (AK (AU.id AG.fl.len AG.fl.one) rfl rfl rfl EC rfl (.t (.t (.t .h)))) ?_
 refine Gn (.t1 0) (Ab ?_)
 refine AY rfl (.cell rfl .m3 (.inl ⟨(by rw [AG.fl.len];exact BZ),rfl⟩) .n) ?_
 intro w1 hS;refine⟨?_,hS.Ak⟩;rfl
theorem Jp  : Jg Tryz.prog 37 #[] [] (fun v B=>∃(b:Nat) (V:AL) (ls:Vector BG 4) (ev:List Ing.Event),v = .pointer (some ⟨b,0,none⟩)∧A5 V ls ev=AI.new∧B = [Ac.box b 101 (AL.enc V),Ac.D7 (CJ 9 (AL.Ax V) ls),Ac.own (AL.last V) 56 16 ((ev).flatMap Ing.Event.enc)]):=by
 intro w hS0
 refine Al _ _ Tryz.func37 rfl rfl rfl (hS0) ?_
 refine Gs (Ga rfl (Gn (.nil _) (Gs ?_)))
 refine BA rfl ei .n (fun w hS=>Pz w) ?_
 refine Gt (BC ck dm rfl (.cons AL.l0 rfl rfl rfl .nil)) ?_
 refine B5 rfl rfl rfl (fun b1=>?_)
 refine Ga rfl (Gn (.t1 0) (Ab ?_))
 refine AY rfl (.tmp rfl .n) ?_
 intro w1 hS
 have hS:=(hS.perm (Ay.perm (.c .h .n))).A1
 have h2:=(St.Zu hS (l:=CJ 9 Ni Nh) (fun r hr=>Yz 9 w1 r hr)).Cr 56 16
 refine⟨_,⟨b1,⟨AG.new,Ni,0,⟨none,0,0⟩⟩,Nh,[],rfl,rfl,rfl⟩,h2.perm (Zf _ _ _)⟩
theorem Bz {t0:Nat}(h:Hd)(xs:List Ao)(hb:xs.length≤17592186044416):FC Tryz.prog 69 #[h.val] [] (fun w=>Rd w h t0 1 (xs.flatMap A7)) (fun v B=>∃ h':Hd,v=h'.val∧h'.len=xs.length∧B = [Ac.own h' 9 1 (xs.flatMap A7)]):=by
 intro w hS0 hH
 have r0:=hH
 have hl:=r0.LO DO (by decide)
 refine Al _ _ Tryz.func69 rfl rfl rfl (hS0) ?_
 refine Gs (Ga rfl (Gn (.t1 0) (CD (Gm rfl (Gt (Tc Tryz.underlying52 rfl) (Gn (.t2 0 4) ?_))))))
 refine Gc (fun c1=>?_) (fun c1=>?_)
 ·
  refine Gs (Ga rfl (Gn (.t1 2) (Ab (AD ?_))))
  refine AY rfl (.tmp rfl .n) ?_
  intro w1 hS
  have hS:=(hS.perm (Ay.perm .n)).A1
  have hx:xs = []:=by
    rcases xs with _ | ⟨x,xs⟩
    · rfl
    · exfalso
      obtain⟨b,o,C,fz,e1,_⟩:=r0.2 (by simp [A7])
      rw [e1] at c1
      cases c1
  subst hx
  exact⟨_,⟨⟨none,0,0⟩,rfl,rfl,rfl⟩,hS.Cr _ _⟩
 have c1p:=kz c1
 refine Aa ?_
 refine AB (.t1 0) ?_
 refine AA (Gs ?_)
 refine aC A7 rfl Tryz.underlying52 Em (fun b1=>?_)
 refine Gm rfl ?_
 refine K0 (e:=A7) rfl Tryz.underlying52 Em Qw rfl XE (by decide) rfl rfl (fun w hS=>Src.Dq Tryz.underlying52 ((Kn.IX r0) w hS)) rfl rfl (by omega) (fun _=> .h) (fun h1 h1l=>?_)
 refine Ga rfl (Gn (.t1 2) (Ab ?_))
 refine AY rfl (.tmp rfl .n) ?_
 intro w1 hS
 have hS:=(hS.perm (Ay.perm (.c .h .n))).A1
 exact⟨_,⟨_,rfl,by omega,rfl⟩,hS⟩
theorem Ns {t0:Nat}(l:BN)(qs:List Ao)(hb:qs.length≤17592186044416):FC Tryz.prog 91 #[.agg l.enc.toArray] [] (fun w=>Rd w l.queue t0 1 (qs.flatMap A7)∧l.queue.len≤l.queue.cap) (fun v B=>(qs = []∧v = .tuple #[.agg l.enc.toArray,BU [], .bool false]∧B = [])∨(∃ q r,qs=q :: r∧∃ h':Hd,v = .tuple #[.agg (BN.enc ⟨l.now,l.Cy,l.ret,h'⟩).toArray,BU q, .bool true]∧h'.len=r.length∧B = [Ac.own h' 9 1 (r.flatMap A7)])):=by
 intro w hS0 hH
 obtain⟨r0,k0⟩:=hH
 have hl0:=r0.LO DO (by decide)
 refine Al _ _ Tryz.func91 rfl rfl rfl (hS0) ?_
 refine Gs ?_
 refine B5 rfl rfl rfl (fun b1=>?_)
 refine BH rfl ca rfl (fun b2=>?_)
 refine Ga rfl (Ga rfl (Gn (.t2 1 2) (CD (Gt (Ai GP rfl) (Gt (AH rfl F9 .m1 BN.l3 rfl rfl) (Gt (Ar rfl Tryz.underlying52 rfl) (Gt (Ag rfl rfl) ?_)))))))
 refine Gn (.t3 1 2 9) ?_
 refine Gc (fun c1=>?_) (fun c1=>?_)
 ·
  have c1p:=kz c1
  have hq:qs = []:=List.length_eq_zero_iff.1 (by omega)
  refine Gs (Gt (AZ rfl J8 .m1 (AU.id BN.fl.len BN.fl.one) rfl) ?_)
  refine AT (AK (AU.id BN.fl.len BN.fl.one) rfl rfl rfl Nx rfl .h) ?_
  refine Ga rfl (Ga rfl (Gn (.t3 2 3 4) (Ab (AD ?_))))
  refine AY rfl (.cell rfl .m0 (.inl ⟨(by rw [BN.fl.len];exact J8),rfl⟩) (.tmp rfl (.tmp rfl .n))) ?_
  intro w1 hS
  have hS:=(hS.perm (Ay.perm .n)).A1
  exact⟨_, .inl ⟨hq,rfl,rfl⟩,hS⟩
 have c1p:=kz c1
 obtain⟨q,r,rfl⟩:=Bg.U7 (qs:=qs) (by omega)
 rw [List.length_cons] at hl0 hb
 refine Aa ?_
 refine AB (.t2 1 2) ?_
 refine AA (Gs (Gt (Ai GP rfl) (Gt (AH rfl F9 .m1 BN.l3 rfl rfl) ?_)))
 refine Gt (Bp IM (by decide) (Kn.IX r0) rfl rfl (by omega) (by omega)) ?_
 refine Gt (C9 rfl CO (Kn.IX r0) (by simp)) ?_
 refine Ga rfl (Gn (.t3 1 2 5) (Gs (Gt (Ai GP rfl) (Gt (AH rfl F9 .m1 BN.l3 rfl rfl) ?_))))
 refine Gt (R5 Tryz.underlying52 Em rfl rfl (by decide) (by omega)) ?_
 refine BE rfl VN (.c rfl .n) .n (Bz _ r (by omega)) (fun w hS=>by have h:=(Kn.cut (l:=1) (r:=l.queue.len) DO (Kn.IX r0) (by omega) (Nat.le_refl _) (Wn.of k0)) w hS;rw [show(((q :: r).take l.queue.len).drop 1)=r from by rw [List.take_of_length_le (by simp;omega)];rfl] at h;exact h) (fun v2 B hv=>?_)
 obtain⟨y3,rfl,y4,rfl⟩:=hv
 refine Gt (Ai GP rfl) ?_
 refine AT (AK BN.l3 rfl rfl rfl N1 rfl (.t (.t .h))) ?_
 refine Gn (.t3 1 2 5) (Gs (Gt (AZ rfl J8 .m2 (AU.id BN.fl.len BN.fl.one) rfl) (Gm rfl ?_)))
 refine AT (AK (AU.id BN.fl.len BN.fl.one) rfl rfl rfl Nx rfl (.t .h)) ?_
 refine Ga rfl (Ga rfl (Gn (.t3 2 3 4) (Ab ?_)))
 refine AY rfl (.cell rfl .m1 (.inl ⟨(by rw [BN.fl.len];exact J8),rfl⟩) (.tmp rfl (.tmp rfl .n))) ?_
 intro w1 hS
 have hS:=(hS.perm (Ay.perm (.c .h .n))).A1
 exact⟨_, .inr ⟨q,r,rfl,_,rfl,by assumption,rfl⟩,hS⟩
theorem NW (p:Az)(w:World):Ej Tryz.prog 92 #[.agg p.enc.toArray] w fun v w'=>v = .agg (Az.enc ⟨p.wait,0,false,p.ring,p.cut⟩).toArray∧CB w w':=by
 refine Al [] [] Tryz.func92 rfl rfl rfl (St.start w []) ?_
 refine Gs ?_
 refine B5 rfl rfl rfl (fun b1=>?_)
 refine BH rfl Y2 rfl (fun b2=>?_)
 refine Gn (.t2 1 2) (Gs (Gt (Ai Q1 rfl) ?_))
 refine AT (AK Az.l2 rfl rfl rfl Kd rfl (.t .h)) ?_
 refine Gt (Ai MW rfl) ?_
 refine AT (AK Az.l1 rfl rfl rfl DB rfl (.t .h)) ?_
 refine Gn (.t2 1 2) (Gs (Gt (AZ rfl C3 .m1 (AU.id Az.fl.len Az.fl.one) rfl) ?_))
 refine AT (AK (AU.id Az.fl.len Az.fl.one) rfl rfl rfl Fw rfl .h) ?_
 refine Gn (.t1 2) (Ab ?_)
 refine AY rfl (.cell rfl .m0 (.inl ⟨(by rw [Az.fl.len];exact C3),rfl⟩) .n) ?_
 intro w1 hS;refine⟨?_,hS.Ak⟩;rfl
theorem HX (s:Ao)(c:UInt8)(hs:s.length≤10000000)(w:World):Ej Tryz.prog 116 #[BU s, .int .u8 (c.toNat:Int)] w fun v w'=>v=BU (Words.R9 c s)∧CB w w':=by
 refine Al [] [] Tryz.func116 rfl rfl rfl (St.start w []) ?_
 refine Gs (Ga rfl (Gn (.t2 0 1) (Ap (Ae ?_))))
 refine Bl (.t2 0 1) ?_
 refine Ce (fun(r:Ao)=>Words.R9 c s=Words.R9 c r∧r.length≤s.length) (fun(r:Ao)=>r.length) (fun(r:Ao)=> [(0,BU r)]) (fun(r:Ao)=> []) (s) ?_ rfl rfl (fun r hI1=>?_)
 · exact⟨rfl,Nat.le_refl _⟩
 obtain⟨hI11,hI12⟩:=hI1
 refine CD (Gm rfl (Gt (BF rfl Tryz.underlying9 rfl) (Gt (Cn rfl rfl) (Gm rfl (Bo 8 rfl rfl (fun q=>AF rfl) (Bo 8 rfl rfl (fun q=>AF rfl) (Bo 8 rfl rfl (fun q=>BF rfl Tryz.underlying9 (Bj rfl q)) ?_)))))))
 refine Bo 8 rfl rfl (fun q=>by have q1:=q;(try simp at q1);exact FX (Bj rfl q) rfl (IntWalk.i64_in _ (by omega))) ?_
 refine Bo 8 rfl rfl (fun q=>by have q1:=q;(try simp at q1);exact Br Tryz.underlying9 (Bj rfl q) (Bj rfl q) (by omega) (by omega)) ?_
 refine Bo 8 rfl rfl (fun q=>AF rfl) (Bo 8 rfl rfl (fun q=>Ag (Bj rfl q) (Bj rfl q)) (Gt (BK rfl rfl (fun h=>h)) (Gn (.t3 0 1 16) ?_)))
 refine Gc (fun c1=>?_) (fun c1=>?_)
 ·
  have c1p:=kz c1
  have hlt:0 < r.length:=by simp at c1;omega
  refine Aa ?_
  refine AB (.t2 0 1) ?_
  refine AA (Ae (AJ (Gm rfl (Gm rfl (Gt (BF rfl Tryz.underlying9 rfl) ?_)))))
  refine Gt (FX rfl rfl (IntWalk.i64_in _ (by omega))) ?_
  refine Gt (Ix Tryz.underlying9 rfl rfl (by omega) (by omega)) ?_
  refine Ga rfl ?_
  refine AQ (AB (.t2 0 1) ?_)
  refine AW ?_
  refine B6 _ ?_ ?_ (.t2 0 1) (.refl _)
  · exact⟨by rw [hI11,Words.eQ c1]<;>rfl,by first | (simp;done) | (simp;omega)⟩
  · first | (simp;done) | (simp;omega)
 refine Ba (AV (AV (Af ?_)))
 refine AB (.t1 0) ?_
 refine AA (Gs (Gm rfl (Ga rfl (Gn (.t1 4) (Ab ?_)))))
 refine AY rfl (.tmp rfl .n) ?_
 intro w1 hS;refine⟨?_,hS.Ak⟩;rw [hI11,Words.dO c1];rfl
theorem E8 (s:Ao)(c:UInt8)(hs:s.length≤10000000)(w:World):Ej Tryz.prog 115 #[BU s, .int .u8 (c.toNat:Int)] w fun v w'=>v=BU (Words.QZ c s)∧CB w w':=by
 refine Al [] [] Tryz.func115 rfl rfl rfl (St.start w []) ?_
 refine Gs (Ga rfl (Gn (.t2 0 1) (Ap (Ae ?_))))
 refine Bl (.t2 0 1) ?_
 refine Ce (fun(r:Ao)=>Words.QZ c s=Words.QZ c r∧r.length≤s.length) (fun(r:Ao)=>r.length) (fun(r:Ao)=> [(0,BU r)]) (fun(r:Ao)=> []) (s) ?_ rfl rfl (fun r hI1=>?_)
 · exact⟨rfl,Nat.le_refl _⟩
 obtain⟨hI11,hI12⟩:=hI1
 refine CD (Gm rfl (Gt (BF rfl Tryz.underlying9 rfl) (Gt (Cn rfl rfl) (Gm rfl (Bo 8 rfl rfl (fun q=>AF rfl) ?_)))))
 refine Bo 8 rfl rfl (fun q=>by have q1:=q;(try simp at q1);exact Br Tryz.underlying9 (Bj rfl q) rfl (by decide) (by omega)) ?_
 refine Bo 8 rfl rfl (fun q=>AF rfl) (Bo 8 rfl rfl (fun q=>Ag (Bj rfl q) (Bj rfl q)) (Gt (BK rfl rfl (fun h=>h)) (Gn (.t3 0 1 13) ?_)))
 refine Gc (fun c1=>?_) (fun c1=>?_)
 ·
  have c1p:=kz c1
  have hlt:0 < r.length:=by simp at c1;omega
  refine Aa ?_
  refine AB (.t2 0 1) ?_
  refine AA (Ae (AJ (Gm rfl ?_)))
  refine Gt (Gx Tryz.underlying9 rfl rfl (by decide) (by omega)) ?_
  refine Ga rfl ?_
  refine AQ (AB (.t2 0 1) ?_)
  refine AW ?_
  refine B6 _ ?_ ?_ (.t2 0 1) (.refl _)
  · exact⟨by rw [hI11,Words.eI c1]<;>rfl,by first | (simp;done) | (simp;omega)⟩
  · first | (simp;done) | (simp;omega)
 refine Ba (AV (AV (Af ?_)))
 refine AB (.t1 0) ?_
 refine AA (Gs (Gm rfl (Ga rfl (Gn (.t1 4) (Ab ?_)))))
 refine AY rfl (.tmp rfl .n) ?_
 intro w1 hS;refine⟨?_,hS.Ak⟩;rw [hI11,Words.de c1];rfl
theorem H8 (s:Ao)(hs:s.length≤10000000)(w:World):Ej Tryz.prog 94 #[BU s,BU [32]] w fun v w'=>v=BU (Words.QZ 32 (Words.R9 32 s))∧CB w w':=by
 refine Al [] [] Tryz.func94 rfl rfl rfl (St.start w []) ?_
 refine Gs (Ga rfl (Gn (.t2 0 1) (CD (Gm rfl (Gt (Bi rfl rfl) (Gm rfl (Bc 9 rfl rfl (fun q=>AF rfl) ?_)))))))
 refine Bc 9 rfl rfl (fun q=>Bi (cF rfl q) rfl) ?_
 refine Gt (BR rfl rfl (fun h=>by rw [h];rfl)) ?_
 refine Gn (.t3 0 1 12) ?_
 refine Gc (fun c1=>?_) (fun c1=>?_)
 ·
  refine Gs (Gm rfl (Ga rfl (Gn (.t1 4) (Ab (AD ?_)))))
  refine AY rfl (.tmp rfl .n) ?_
  intro w1 hS;refine⟨?_,hS.Ak⟩;have e:s = []:=by simpa using c1
  subst e;rfl
 have c1p:=kz c1
 refine Aa ?_
 refine AB (.t2 0 1) ?_
 refine AA (CD (Gm rfl (Gt (BF rfl Tryz.underlying9 rfl) (Gt (Ag rfl rfl) (Gm rfl (Bo 17 rfl rfl (fun q=>AF rfl) ?_))))))
 refine Bo 17 rfl rfl (fun q=>by have q1:=q;(try simp at q1);exact Br Tryz.underlying9 (Bj rfl q) rfl (by decide) (by(try simp only [List.length_cons,List.length_nil]);omega)) ?_
 refine Bo 17 rfl rfl (fun q=>A8 (Bj rfl q) rfl) (Gt (BK rfl rfl (fun h=>h)) (Gn (.t3 0 1 21) ?_))
 refine HA rfl rfl ?_
 refine Ap ?_
 refine BD (N:=8) [0,0,2,7,0,16,63,127] mix (by kernel_rfl) rfl ?_
 refine Pf 0 rfl (AF rfl) (Pf 1 rfl (AF rfl) ?_)
 refine Pf 2 rfl (Br Tryz.underlying9 rfl rfl (by decide) (by(try simp only [List.length_cons,List.length_nil]);omega)) ?_
 refine Bb 3 rfl rfl (by kernel_rfl) (L9 (K9 (EB dB (.c rfl (.c rfl .n)) (fun w hS=>HX _ 32 hs w)))) ?_
 refine Pf 4 rfl (AF rfl) ?_
 refine Pf 5 rfl (Br Tryz.underlying9 rfl rfl (by decide) (by(try simp only [List.length_cons,List.length_nil]);omega)) ?_
 refine Bb 6 rfl rfl (by kernel_rfl) (L9 (K9 (EB aP (.c rfl (.c rfl .n)) (fun w hS=>E8 _ 32 (by have:=Words.Rc 32 s;omega) w)))) ?_
 refine Pf 7 rfl (A0 rfl) ?_
 refine A3 (by kernel_rfl) ?_
 refine AB (.t1 4) ?_
 refine AA (Ab (AD ?_))
 refine AY rfl (.tmp rfl .n) ?_
 intro w1 hS;refine⟨?_,hS.Ak⟩;rfl
theorem Kh (X:AG)(i:Int)(h0:0≤i)(h9:i < 9)(w:World):Ej Tryz.prog 68 #[.agg X.enc.toArray, .int .i64 i] w fun v w'=>v = .bool (X.Cm i)∧CB w w':=by
 refine Al [] [] Tryz.func68 rfl rfl rfl (St.start w []) ?_
 refine Gs ?_
 refine B5 rfl rfl rfl (fun b1=>?_)
 refine Ga rfl (Gn (.t2 1 2) (Gs (Gm rfl (Gt (Ai Cx rfl) ?_))))
 refine Gt (AS GO rfl rfl (by omega) (by omega)) ?_
 refine Gt (AZ rfl M5 .m0 (AG.l1.comp (AU.ar (n:=9) Am.fl (by omega))) rfl) ?_
 refine BH rfl Kf rfl (fun b2=>?_)
 refine AT (AK (AU.id Am.fl.len Am.fl.one) rfl rfl rfl NT rfl .h) ?_
 refine Gn (.t2 2 5) (CD (Gt (Ai G1 rfl) (Gt (AH rfl A4 .m0 Am.l1 rfl rfl) (Gt (A8 rfl rfl) (Gm rfl (Bc 15 rfl rfl (fun q=>Ai G1 rfl) (Bc 15 rfl rfl (fun q=>AH (cF rfl q) A4 .m0 Am.l1 rfl rfl) ?_)))))))
 refine Bc 15 rfl rfl (fun q=>Cn (cF rfl q) rfl) ?_
 refine Gt (BR rfl rfl (fun h=>by rw [h];rfl)) ?_
 refine Gm rfl (Bc 20 rfl rfl (fun q=>Ai G1 rfl) (Bc 20 rfl rfl (fun q=>AH (cF rfl q) A4 .m0 Am.l1 rfl rfl) (Bc 20 rfl rfl (fun q=>Ag (cF rfl q) rfl) (Bc 20 rfl rfl (fun q=>AF (cF rfl q)) ?_))))
 refine DT (t:=24) rfl rfl rfl (fun qc q=>Ai GN rfl) ?_
 refine DT (t:=24) rfl rfl rfl (fun qc q=>AH (Bj rfl (by rw [qc,q];rfl)) Dr .m0 Am.l4 rfl rfl) ?_
 refine Bc 20 rfl rfl (fun q=>BK (cF rfl q) rfl (fun h=>by rw [q,h];rfl)) ?_
 refine Gt (BR rfl rfl (fun h=>by rw [h];rfl)) ?_
 refine Gm rfl (Bc 29 rfl rfl (fun q=>Ai DM rfl) (Bc 29 rfl rfl (fun q=>AH (cF rfl q) A4 .m0 Am.l3 rfl rfl) (Bc 29 rfl rfl (fun q=>A8 (cF rfl q) rfl) ?_)))
 refine Gt (BR rfl rfl (fun h=>by rw [h];rfl)) ?_
 refine Gn (.t3 2 5 33) ?_
 refine Gc (fun c1=>?_) (fun c1=>?_)
 ·
  refine Gs (Ga rfl (Gn (.t1 4) (Ab (AD ?_))))
  refine AY rfl (.tmp rfl .n) ?_
  intro w1 hS;refine⟨congrArg Value.bool ?_,hS.Ak⟩;simp only [AG.Cm,c1,↓reduceIte,Bool.false_eq_true]
 have c1p:=kz c1
 refine Aa ?_
 refine AB (.t2 2 5) ?_
 refine AA (Gs (Gt (Ai G1 rfl) (Gt (AH rfl A4 .m0 Am.l1 rfl rfl) (Gt (Ag rfl rfl) (Gm rfl (Bo 37 rfl rfl (fun q=>Ai GN rfl) (Bo 37 rfl rfl (fun q=>AH (Bj rfl q) Dr .m0 Am.l4 rfl rfl) ?_)))))))
 refine Gt (BK rfl rfl (fun h=>h)) (Ga rfl (Gn (.t3 2 5 6) (CD (Gt (Ai FY rfl) (Gt (AH rfl A4 .m0 Am.l2 rfl rfl) (Gn (.t4 2 5 6 42) (Ae ?_)))))))
 refine Gs (Gt (Ag rfl rfl) (Ga rfl (Gn (.t5 2 5 6 42 43) ?_)))
 refine Gc (fun c2=>?_) (fun c2=>?_)
 ·
  refine Gs (Gt (Ai DM rfl) (Gt (AH rfl A4 .m0 Am.l3 rfl rfl) (Gt (A8 rfl rfl) (Gm rfl (Bo 48 rfl rfl (fun q=>AF rfl) (Bo 48 rfl rfl (fun q=>BT (Bj rfl q)) (Gt (BK rfl rfl (fun h=>h)) ?_)))))))
  refine Ga rfl (Gn (.t1 4) (Ab (AR (AD ?_))))
  refine AY rfl (.tmp rfl .n) ?_
  intro w1 hS;refine⟨congrArg Value.bool ?_,hS.Ak⟩;simp only [AG.Cm,c1,c2,↓reduceIte,Bool.false_eq_true]
 have c2p:=kz c2
 refine Gs (Gt (Ag rfl rfl) (Ga rfl (Gn (.t5 2 5 6 42 52) ?_)))
 refine Gc (fun c3=>?_) (fun c3=>?_)
 ·
  have c3p:=kz c3
  refine Gs (Gt (Ai DM rfl) (Gt (AH rfl A4 .m0 Am.l3 rfl rfl) (Gt (A8 rfl rfl) (Gm rfl (Bo 57 rfl rfl (fun q=>Ai DM rfl) (Bo 57 rfl rfl (fun q=>AH (Bj rfl q) A4 .m0 Am.l3 rfl rfl) (Bo 57 rfl rfl (fun q=>Ai Bs rfl) ?_)))))))
  refine Bo 57 rfl rfl (fun q=>by have q1:=q;(try simp at q1);exact AS C8 (Bj rfl q) (Bj rfl q) (by omega) (by omega)) ?_
  refine Bo 57 rfl rfl (fun q=>Ai IW (Bj rfl q)) ?_
  refine Bo 57 rfl rfl (fun q=>by have q1:=q;(try simp at q1);exact AH (Bj rfl q) Dr .m1 ((AG.l2.comp (AU.ar (n:=6) Aj.fl (by omega))).comp Aj.l1) rfl rfl) ?_
  refine Gt (BK rfl rfl (fun h=>h)) (Ga rfl (Gn (.t1 4) (Ab (AR (AD ?_)))))
  refine AY rfl (.tmp rfl .n) ?_
  intro w1 hS;refine⟨congrArg Value.bool ?_,hS.Ak⟩;simp only [AG.Cm,c1,c2,c3,↓reduceIte,Bool.false_eq_true]
 have c3p:=kz c3
 refine Gs (Gt (Ag rfl rfl) (Ga rfl (Gn (.t4 2 5 6 65) ?_)))
 refine Gc (fun c4=>?_) (fun c4=>?_)
 ·
  have c4p:=kz c4
  refine CD (Gt (Ai DM rfl) (Gt (AH rfl A4 .m0 Am.l3 rfl rfl) (Gt (CV rfl rfl) (Gm rfl (Bc 70 rfl rfl (fun q=>Ai DM rfl) (Bc 70 rfl rfl (fun q=>AH (cF rfl q) A4 .m0 Am.l3 rfl rfl) (Bc 70 rfl rfl (fun q=>Ai Cx rfl) ?_)))))))
  refine Bc 70 rfl rfl (fun q=>by have q1:=q;(try simp at q1);exact AS GO (cF rfl q) (cF rfl q) (by omega) (by omega)) ?_
  refine Bc 70 rfl rfl (fun q=>Ai G1 (cF rfl q)) ?_
  refine Bc 70 rfl rfl (fun q=>by have q1:=q;(try simp at q1);exact AH (cF rfl q) A4 .m1 ((AG.l1.comp (AU.ar (n:=9) Am.fl (by omega))).comp Am.l1) rfl rfl) ?_
  refine Bc 70 rfl rfl (fun q=>Ca (cF rfl q) rfl) ?_
  refine Gt (BR rfl rfl (fun h=>by rw [h];rfl)) ?_
  refine Gm rfl (Bc 79 rfl rfl (fun q=>AF rfl) ?_)
  refine Gt (BR rfl rfl (fun h=>by rw [h];rfl)) ?_
  refine Gn (.t3 2 5 81) ?_
  refine Gc (fun c5=>?_) (fun c5=>?_)
  ·
   refine Gs (Ga rfl (Gn (.t1 4) (Ab (AD (AR (AD ?_))))))
   refine AY rfl (.tmp rfl .n) ?_
   intro w1 hS;refine⟨congrArg Value.bool ?_,hS.Ak⟩;simp only [AG.Cm,c1,c2,c3,c4,c5,↓reduceIte,Bool.false_eq_true]
  have c5p:=kz c5
  refine Aa ?_
  refine AB (.t2 2 5) ?_
  refine AA (Gs (Gm rfl (AQ (AA (Ae ?_)))))
  refine Bl (.t3 82 2 5) ?_
  refine Fq (fun(k:Int) (t:Am)=>0≤k∧k≤10∧X.Cm i=X.KA (10 - k).toNat t) (fun(k:Int) (t:Am)=>(10 - k).toNat) (fun(k:Int) (t:Am)=> [(82, .int .i64 k)]) (fun(k:Int) (t:Am)=> [Ac.box b2 29 (Am.enc t)]) (0) (X.AO.at i) ?_ rfl rfl (fun k t hI1=>?_)
  · refine⟨Int.le_refl _,by omega,?_⟩;simp only [AG.Cm,c1,c2,c3,c4,c5,↓reduceIte,Bool.false_eq_true];rfl
  obtain⟨hI11,hI12,hI13⟩:=hI1
  refine Gs (Gt (A8 rfl rfl) (AQ (AA (Ap ?_))))
  refine Gc (fun c6=>?_) (fun c6=>?_)
  ·
   have c6p:=kz c6
   rw [show(10 - k).toNat=(10 - (k+1)).toNat+1 from by omega,AG.KA,show decide ((10 - (k+1)).toNat=0)=decide (k=9) from decide_eq_decide.2 ⟨by omega,by omega⟩] at hI13
   refine Aa ?_
   refine AB (.t3 2 5 82) ?_
   refine AA (Ap (Ae (Gs (Gm rfl (Ga rfl (Gn (.t4 2 5 7 82) (CD ?_)))))))
   refine Gt (Ai FY rfl) (Gt (AH rfl A4 .m0 Am.l2 rfl rfl) (Gt (Ca rfl rfl) (Gn (.t5 2 5 7 82 87) ?_)))
   refine Gc (fun c7=>?_) (fun c7=>?_)
   ·
    refine Gs (Ga rfl (Gn (.t1 4) (Ab (AD (AR (AD (AD ?_)))))))
    refine AR (AR (AD ?_))
    refine AY rfl (.tmp rfl .n) ?_
    intro w1 hS;refine⟨congrArg Value.bool ?_,hS.Ak⟩;rw [hI13];simp only [c1,c2,c3,c4,c5,c6,c7,↓reduceIte,Bool.false_eq_true]
   have c7p:=kz c7
   refine Aa ?_
   refine AB (.t4 2 5 7 82) ?_
   refine AA (CD (Gm rfl (Gt (Ag rfl rfl) (Gm rfl (Bc 90 rfl rfl (fun q=>Ai DM rfl) (Bc 90 rfl rfl (fun q=>AH (cF rfl q) A4 .m0 Am.l3 rfl rfl) (Bc 90 rfl rfl (fun q=>A8 (cF rfl q) rfl) ?_)))))))
   refine Gt (BR rfl rfl (fun h=>by rw [h];rfl)) ?_
   refine Gm rfl (Bc 95 rfl rfl (fun q=>Ai DM rfl) (Bc 95 rfl rfl (fun q=>AH (cF rfl q) A4 .m0 Am.l3 rfl rfl) (Bc 95 rfl rfl (fun q=>CV (cF rfl q) rfl) ?_)))
   refine Gt (BR rfl rfl (fun h=>by rw [h];rfl)) ?_
   refine Gn (.t4 2 5 82 99) ?_
   refine Gc (fun c8=>?_) (fun c8=>?_)
   ·
    refine Gs (Ga rfl (Gn (.t1 4) (Ab (AD (AR (AD (AD ?_)))))))
    refine AR (AR (AD ?_))
    refine AY rfl (.tmp rfl .n) ?_
    intro w1 hS;refine⟨congrArg Value.bool ?_,hS.Ak⟩;rw [hI13];simp only [c1,c2,c3,c4,c5,c6,c7,c8,↓reduceIte,Bool.false_eq_true]
   have c8p:=kz c8
   refine Aa ?_
   refine AB (.t3 2 5 82) ?_
   refine AA (AJ (Gt (Ai DM rfl) (Gt (AH rfl A4 .m0 Am.l3 rfl rfl) (Gt (Ai Cx rfl) ?_))))
   refine Gt (AS GO rfl rfl (by omega) (by omega)) ?_
   refine Gt (AZ rfl M5 .m1 (AG.l1.comp (AU.ar (n:=9) Am.fl (by omega))) rfl) ?_
   refine AT (AK (AU.id Am.fl.len Am.fl.one) rfl rfl rfl NT rfl .h) ?_
   refine AQ (AB (.t3 2 5 82) ?_)
   refine AW (AA (AJ ?_))
   refine Gt (Av rfl rfl (IntWalk.i64_in _ (by omega))) ?_
   refine Gm rfl ?_
   refine AQ (AB (.t3 2 5 82) ?_)
   refine C0 (k+1) (X.AO.at t.at_) ?_ ?_ (.t3 82 2 5) (.refl _)
   · exact⟨by omega,by omega,by rw [hI13];simp only [c1,c2,c3,c4,c5,c6,c7,c8,↓reduceIte,Bool.false_eq_true]⟩
   · omega
  have c6p:=kz c6
  obtain rfl:k=10:=by omega
  refine Ba (AV (AV (Af ?_)))
  refine AB (.nil _) ?_
  refine AW (AA (Gs (Ga rfl (AQ (AA (Ab ?_))))))
  refine AY rfl (.tmp rfl .n) ?_
  intro w1 hS;refine⟨congrArg Value.bool ?_,hS.Ak⟩;rw [hI13];rfl
 refine Aa ?_
 refine AB (.nil _) ?_
 refine AW (AA (Gs (Ga rfl (AQ (AA (Ab ?_))))))
 refine AY rfl (.tmp rfl .n) ?_
 intro w1 hS;refine⟨congrArg Value.bool ?_,hS.Ak⟩;simp only [AG.Cm,c1,c2,c3,c4,↓reduceIte,Bool.false_eq_true]
theorem HZ (X:AG)(w:World):Ej Tryz.prog 43 #[.agg X.enc.toArray] w fun v w'=>v = .bool X.Bh∧CB w w':=by
 refine Al [] [] Tryz.func43 rfl rfl rfl (St.start w []) ?_
 refine Gs ?_
 refine B5 rfl rfl rfl (fun b1=>?_)
 refine Ga rfl (Gn (.t1 1) (CD (Gt (Ai G4 rfl) (Gt (AZ rfl dY .m0 AG.l0 rfl) (Gm rfl (Gn (.t3 1 11 12) (Ae ?_)))))))
 refine Bl (.t3 12 1 11) ?_
 refine Ce (fun(k:Int)=>0≤k∧k≤6∧X.Bh=(B8 6 X.MC (6 - k).toNat && (B8 6 (fun k=>!AG.Dm (X.AN.at k)) 6 && B8 9 X.Cm 9))) (fun(k:Int)=>(6 - k).toNat) (fun(k:Int)=> [(12, .int .i64 k)]) (fun(k:Int)=> []) (0) ?_ rfl rfl (fun k hI1=>?_)
 · exact⟨Int.le_refl _,by omega,rfl⟩
 obtain⟨hI11,hI12,hI13⟩:=hI1
 refine Gs (Gt (A8 rfl rfl) (AQ (AA (Ap ?_))))
 refine Gc (fun c1=>?_) (fun c1=>?_)
 ·
  have c1p:=kz c1
  rw [Dd _ (by omega)] at hI13
  refine Aa ?_
  refine AB (.t3 1 11 12) ?_
  refine AA (Ap (Ae (Gs ?_)))
  refine Gt (GJ Room.fl Tryz.underlying27 N7 rfl rfl (by omega) (by omega)) ?_
  refine BH rfl N6 rfl (fun b2=>?_)
  refine AT (AK (AU.id Room.fl.len Room.fl.one) rfl rfl rfl RW rfl .h) ?_
  refine Gn (.t4 1 4 11 12) (Gs (Gt (Ai Mq rfl) (Gt (AZ rfl aY .m0 Room.l2 rfl) (Gm rfl (Gn (.t6 1 4 11 12 16 17) (Ae ?_))))))
  refine Bl (.t6 17 1 4 11 12 16) ?_
  refine Ce (fun(d:Int)=>0≤d∧d≤6∧X.MC k=B8 6 (fun d=>!AG.H6 (X.BS.at k) d) (6 - d).toNat) (fun(d:Int)=>(6 - d).toNat) (fun(d:Int)=> [(17, .int .i64 d)]) (fun(d:Int)=> []) (0) ?_ rfl rfl (fun d hI2=>?_)
  · exact⟨Int.le_refl _,by omega,rfl⟩
  obtain⟨hI21,hI22,hI23⟩:=hI2
  refine Gs (Gt (A8 rfl rfl) (AQ (AA (Ap ?_))))
  refine Gc (fun c2=>?_) (fun c2=>?_)
  ·
   have c2p:=kz c2
   rw [Dd _ (by omega)] at hI23
   refine Aa ?_
   refine AB (.t6 1 4 11 12 16 17) ?_
   refine AA (Ap (Ae (Gs (Gm rfl ?_))))
   refine Gt (KQ B1 Tryz.underlying23 DB A4 rfl rfl (by omega) (by omega) rfl) ?_
   refine Ga rfl (Ga rfl (Gn (.t8 1 4 5 6 11 12 16 17) (Gs (Gm rfl (Gt (A8 rfl rfl) (Gm rfl (Bc 23 rfl rfl (fun q=>AF rfl) ?_)))))))
   refine Bc 23 rfl rfl (fun q=>Cn (cF rfl q) rfl) ?_
   refine Gt (BR rfl rfl (fun h=>by rw [h];rfl)) ?_
   refine Gm rfl (Bc 27 rfl rfl (fun q=>AF rfl) (Bc 27 rfl rfl (fun q=>Ag (cF rfl q) rfl) (Bc 27 rfl rfl (fun q=>AF (cF rfl q)) ?_)))
   refine DT (t:=30) rfl rfl rfl (fun qc q=>AF rfl) ?_
   refine DT (t:=30) rfl rfl rfl (fun qc q=>Ai Ma rfl) ?_
   refine DT (t:=30) rfl rfl rfl (fun qc q=>by have q1:=q;have qc1:=qc;(try simp at q1 qc1);exact AS V9 (Bj rfl (by rw [qc,q];rfl)) (Bj rfl (by rw [qc,q];rfl)) (by omega) (by omega)) ?_
   refine DT (t:=30) rfl rfl rfl (fun qc q=>by have q1:=q;have qc1:=qc;(try simp at q1 qc1);exact AH (Bj rfl (by rw [qc,q];rfl)) Dr .m0 (Room.l3.comp (AU.ar (n:=6) HQ (by omega))) rfl rfl) ?_
   refine Bc 27 rfl rfl (fun q=>BK (cF rfl q) rfl (fun h=>by rw [q,h];rfl)) ?_
   refine Gt (BR rfl rfl (fun h=>by rw [h];rfl)) ?_
   refine Gn (.t7 1 4 11 12 16 17 36) ?_
   refine Gc (fun c3=>?_) (fun c3=>?_)
   ·
    refine Gs (Ga rfl (Gn (.t1 2) (Ab (AR (AD (AD (AR ?_)))))))
    refine AR (AD (AD (AR (AD ?_))))
    refine AY rfl (.tmp rfl .n) ?_
    intro w1 hS;refine⟨congrArg Value.bool ?_,hS.Ak⟩;rw [hI13,hI23,AG.H6,c3];rfl
   have c3p:=kz c3
   refine Aa ?_
   refine AB (.t6 1 4 11 12 16 17) ?_
   refine AW (AA (AJ ?_))
   refine Gt (Av rfl rfl (IntWalk.i64_in _ (by omega))) ?_
   refine Gm rfl ?_
   refine AQ (AB (.t6 1 4 11 12 16 17) ?_)
   refine B6 (d+1) ?_ ?_ (.t6 17 1 4 11 12 16) (.refl _)
   · exact⟨by omega,by omega,by rw [hI23,AG.H6,c3];rfl⟩
   · omega
  have c2p:=kz c2
  obtain rfl:d=6:=by omega
  refine Ba (AV (AV (Af ?_)))
  refine AB (.t3 1 11 12) ?_
  refine AW (AA (AJ ?_))
  refine Gt (Av rfl rfl (IntWalk.i64_in _ (by omega))) ?_
  refine Gm rfl ?_
  refine AQ (AB (.t3 1 11 12) ?_)
  refine B6 (k+1) ?_ ?_ (.t3 12 1 11) (.cons _ (.refl _))
  · exact⟨by omega,by omega,by rw [hI13,hI23];rfl⟩
  · omega
 have c1p:=kz c1
 obtain rfl:k=6:=by omega
 refine Ba (AV (AV (Af ?_)))
 refine AB (.t1 1) ?_
 refine AA (CD (Gt (Ai Bs rfl) (Gt (AZ rfl aR .m0 AG.l2 rfl) (Gm rfl (Gn (.t3 1 40 41) (Ae ?_))))))
 refine Bl (.t3 41 1 40) ?_
 refine Ce (fun(b:Int)=>0≤b∧b≤6∧X.Bh=(B8 6 (fun k=>!AG.Dm (X.AN.at k)) (6 - b).toNat && B8 9 X.Cm 9)) (fun(b:Int)=>(6 - b).toNat) (fun(b:Int)=> [(41, .int .i64 b)]) (fun(b:Int)=> []) (0) ?_ rfl rfl (fun b hI3=>?_)
 · exact⟨Int.le_refl _,by omega,hI13⟩
 obtain⟨hI31,hI32,hI33⟩:=hI3
 refine Gs (Gt (A8 rfl rfl) (AQ (AA (Ap ?_))))
 refine Gc (fun c4=>?_) (fun c4=>?_)
 ·
  have c4p:=kz c4
  rw [Dd _ (by omega)] at hI33
  refine Aa ?_
  refine AB (.t3 1 40 41) ?_
  refine AA (Ap (Ae (Gs ?_)))
  refine Gt (GJ Aj.fl Tryz.underlying33 F6 rfl rfl (by omega) (by omega)) ?_
  refine BH rfl ME rfl (fun b3=>?_)
  refine AT (AK (AU.id Aj.fl.len Aj.fl.one) rfl rfl rfl KZ rfl .h) ?_
  refine Gn (.t4 1 8 40 41) (Gs (Gt (Ai C4 rfl) (Gt (AH rfl A4 .m0 Aj.l3 rfl rfl) (Gt (A8 rfl rfl) (Gm rfl (Bc 47 rfl rfl (fun q=>Ai C4 rfl) (Bc 47 rfl rfl (fun q=>AH (cF rfl q) A4 .m0 Aj.l3 rfl rfl) ?_)))))))
  refine Bc 47 rfl rfl (fun q=>CV (cF rfl q) rfl) ?_
  refine Gt (BR rfl rfl (fun h=>by rw [h];rfl)) ?_
  refine Gm rfl (Bc 52 rfl rfl (fun q=>Ai J2 rfl) (Bc 52 rfl rfl (fun q=>AH (cF rfl q) A4 .m0 Aj.l4 rfl rfl) (Bc 52 rfl rfl (fun q=>A8 (cF rfl q) rfl) ?_)))
  refine Gt (BR rfl rfl (fun h=>by rw [h];rfl)) ?_
  refine Gm rfl (Bc 57 rfl rfl (fun q=>Ai J2 rfl) (Bc 57 rfl rfl (fun q=>AH (cF rfl q) A4 .m0 Aj.l4 rfl rfl) (Bc 57 rfl rfl (fun q=>Cn (cF rfl q) rfl) ?_)))
  refine Gt (BR rfl rfl (fun h=>by rw [h];rfl)) ?_
  refine Gm rfl (Bc 62 rfl rfl (fun q=>Ai GC rfl) (Bc 62 rfl rfl (fun q=>AH (cF rfl q) A4 .m0 Aj.l5 rfl rfl) (Bc 62 rfl rfl (fun q=>A8 (cF rfl q) rfl) ?_)))
  refine Gt (BR rfl rfl (fun h=>by rw [h];rfl)) ?_
  refine Gm rfl (Bc 67 rfl rfl (fun q=>Ai GC rfl) (Bc 67 rfl rfl (fun q=>AH (cF rfl q) A4 .m0 Aj.l5 rfl rfl) (Bc 67 rfl rfl (fun q=>Cn (cF rfl q) rfl) ?_)))
  refine Gt (BR rfl rfl (fun h=>by rw [h];rfl)) ?_
  refine Gm rfl (Bc 72 rfl rfl (fun q=>Ai IW rfl) (Bc 72 rfl rfl (fun q=>AH (cF rfl q) Dr .m0 Aj.l1 rfl rfl) (Bc 72 rfl rfl (fun q=>BT (cF rfl q)) (Bc 72 rfl rfl (fun q=>AF (cF rfl q)) ?_))))
  refine DT (t:=76) rfl rfl rfl (fun qc q=>Ai GC rfl) ?_
  refine DT (t:=76) rfl rfl rfl (fun qc q=>AH (Bj rfl (by rw [qc,q];rfl)) A4 .m0 Aj.l5 rfl rfl) ?_
  refine DT (t:=76) rfl rfl rfl (fun qc q=>Ca (Bj rfl (by rw [qc,q];rfl)) rfl) ?_
  refine Bc 72 rfl rfl (fun q=>BK (cF rfl q) rfl (fun h=>by rw [q,h];rfl)) ?_
  refine Gt (BR rfl rfl (fun h=>by rw [h];rfl)) ?_
  refine Gm rfl (Bc 82 rfl rfl (fun q=>Ai IW rfl) (Bc 82 rfl rfl (fun q=>AH (cF rfl q) Dr .m0 Aj.l1 rfl rfl) (Bc 82 rfl rfl (fun q=>Ai J2 rfl) (Bc 82 rfl rfl (fun q=>AH (cF rfl q) A4 .m0 Aj.l4 rfl rfl) (Bc 82 rfl rfl (fun q=>Cn (cF rfl q) rfl) (Bc 82 rfl rfl (fun q=>J1 Tryz.underlying4 (cF rfl q) (cF rfl q)) ?_))))))
  refine Gt (BR rfl rfl (fun h=>by rw [h];rfl)) ?_
  refine Gn (.t4 1 40 41 89) ?_
  refine Gc (fun c5=>?_) (fun c5=>?_)
  ·
   refine Gs (Ga rfl (Gn (.t1 2) (Ab (AR (AD (AD (AR ?_)))))))
   refine AD ?_
   refine AY rfl (.tmp rfl .n) ?_
   intro w1 hS;refine⟨congrArg Value.bool ?_,hS.Ak⟩;rw [hI33,AG.Dm,c5];rfl
  have c5p:=kz c5
  refine Aa ?_
  refine AB (.t3 1 40 41) ?_
  refine AW (AA (AJ ?_))
  refine Gt (Av rfl rfl (IntWalk.i64_in _ (by omega))) ?_
  refine Gm rfl ?_
  refine AQ (AB (.t3 1 40 41) ?_)
  refine B6 (b+1) ?_ ?_ (.t3 41 1 40) (.cons _ (.refl _))
  · exact⟨by omega,by omega,by rw [hI33,AG.Dm,c5];rfl⟩
  · omega
 have c4p:=kz c4
 obtain rfl:b=6:=by omega
 refine Ba (AV (AV (Af ?_)))
 refine AB (.t1 1) ?_
 refine AA (CD (Gm rfl (AQ (AA (Ae ?_)))))
 refine Bl (.t2 91 1) ?_
 refine Ce (fun(t:Int)=>0≤t∧t≤9∧X.Bh=B8 9 X.Cm (9 - t).toNat) (fun(t:Int)=>(9 - t).toNat) (fun(t:Int)=> [(91, .int .i64 t)]) (fun(t:Int)=> []) (0) ?_ rfl rfl (fun t hI4=>?_)
 · exact⟨Int.le_refl _,by omega,hI33⟩
 obtain⟨hI41,hI42,hI43⟩:=hI4
 refine Gs (Gt (A8 rfl rfl) (AQ (AA (Ap ?_))))
 refine Gc (fun c6=>?_) (fun c6=>?_)
 ·
  have c6p:=kz c6
  rw [Dd _ (by omega)] at hI43
  refine Aa ?_
  refine AB (.t2 1 91) ?_
  refine AA (Ap (Ae (Gs (Gm rfl (Ga rfl (Gn (.t3 1 9 91) (Gs ?_)))))))
  refine Gt (AZ rfl BZ .m0 (AU.id AG.fl.len AG.fl.one) rfl) (Gm rfl ?_)
  refine BA rfl fp (.c rfl (.c rfl .n)) (fun w hS=>Kh X _ (by omega) (by omega) w) ?_
  refine Gt (BT rfl) (Gn (.t3 1 91 97) ?_)
  refine Gc (fun c7=>?_) (fun c7=>?_)
  ·
   refine Gs (Ga rfl (Gn (.t1 2) (Ab (AR (AD (AD (AR ?_)))))))
   refine AD ?_
   refine AY rfl (.tmp rfl .n) ?_
   intro w1 hS;refine⟨congrArg Value.bool ?_,hS.Ak⟩;rw [hI43,show X.Cm t=false by simpa using c7];rfl
  have c7p:=kz c7
  refine Aa ?_
  refine AB (.t2 1 91) ?_
  refine AW (AA (AJ ?_))
  refine Gt (Av rfl rfl (IntWalk.i64_in _ (by omega))) ?_
  refine Gm rfl ?_
  refine AQ (AB (.t2 1 91) ?_)
  refine B6 (t+1) ?_ ?_ (.t2 91 1) (.refl _)
  · exact⟨by omega,by omega,by rw [hI43,show X.Cm t=true by simpa using c7];rfl⟩
  · omega
 have c6p:=kz c6
 obtain rfl:t=9:=by omega
 refine Ba (AV (AV (Af ?_)))
 refine AB (.nil _) ?_
 refine AA (Gs (Ga rfl (AQ (AA (Ab ?_)))))
 refine AY rfl (.tmp rfl .n) ?_
 intro w1 hS;refine⟨congrArg Value.bool ?_,hS.Ak⟩;rw [hI43];rfl
theorem Ml (s:Ao)(hs:s.length≤100000000)(w:World):Ej Tryz.prog 46 #[BU s] w fun v w'=>v = .bool (AE.FR s)∧CB w w':=by
 refine Al [] [] Tryz.func46 rfl rfl rfl (St.start w []) ?_
 refine Gs (Ga rfl (Gn (.t1 0) (CD (Gm rfl (Gt (BF rfl Tryz.underlying9 rfl) (Gm rfl (Gn (.t3 0 5 6) ?_)))))))
 refine Ae ?_
 refine Bl (.t3 6 0 5) ?_
 refine Ce (fun(k:Int)=>0≤k∧k≤(s.length:Int)∧AE.Hv s 0=AE.Hv s k.toNat) (fun(k:Int)=>((s.length:Int) - k).toNat) (fun(k:Int)=> [(6, .int .i64 k)]) (fun(k:Int)=> []) (0) ?_ rfl rfl (fun k hI1=>?_)
 · exact⟨by omega,by omega,rfl⟩
 obtain⟨hI11,hI12,hI13⟩:=hI1
 refine Gs (Gt (A8 rfl rfl) (AQ (AA (Ap ?_))))
 refine Gc (fun c1=>?_) (fun c1=>?_)
 ·
  have c1p:=kz c1
  have hst:=AE.Vb (s:=s) hI11 (by omega)
  refine Aa ?_
  refine AB (.t3 0 5 6) ?_
  refine AA (Ap (Ae (Gs (Gm rfl (Ga rfl (Gn (.t4 0 3 5 6) (Gs ?_)))))))
  refine Gm rfl (Gm rfl ?_)
  refine Gt (Br Tryz.underlying9 rfl rfl (by omega) (by omega)) ?_
  refine Gt (A8 rfl rfl) (Gm rfl (Bc 13 rfl rfl (fun q=>AF rfl) (Bc 13 rfl rfl (fun q=>AF rfl) ?_)))
  refine Bc 13 rfl rfl (fun q=>by have q1:=q;(try simp at q1);exact Br Tryz.underlying9 (cF rfl q) (cF rfl q) (by omega) (by omega)) ?_
  refine Bc 13 rfl rfl (fun q=>Cn (cF rfl q) rfl) ?_
  refine Gt (BR rfl rfl (fun h=>by rw [h];rfl)) ?_
  refine Gn (.t4 0 5 6 18) ?_
  refine Gc (fun c2=>?_) (fun c2=>?_)
  ·
   rw [show AE.low (s.getD k.toNat 0)=true from c2] at hst
   refine Gs (Ga rfl (Gn (.t1 2) (Ab (AR (AD (AD (AR ?_)))))))
   refine AD ?_
   refine AY rfl (.tmp rfl .n) ?_
   intro w1 hS;refine⟨?_,hS.Ak⟩;exact congrArg Value.bool (by rw [AE.FR,hI13,hst];rfl)
  have c2p:=kz c2
  rw [show AE.low (s.getD k.toNat 0)=false from c2] at hst
  refine Aa ?_
  refine AB (.t3 0 5 6) ?_
  refine AW (AA (AJ ?_))
  refine Gt (Av rfl rfl (IntWalk.i64_in _ (by omega))) ?_
  refine Gm rfl ?_
  refine AQ (AB (.t3 0 5 6) ?_)
  refine B6 (k+1) ?_ ?_ (.t3 6 0 5) (.refl _)
  · exact⟨by omega,by omega,by rw [hI13,hst];rfl⟩
  · omega
 have c1p:=kz c1
 obtain rfl:k=(s.length:Int):=by omega
 rw [AE.ZK] at hI13
 refine Ba (AV (AV (Af ?_)))
 refine AB (.t1 0) ?_
 refine AA (Gs (Gm rfl (Gt (BF rfl Tryz.underlying9 rfl) (Gt (CV rfl rfl) (Gm rfl (Bo 23 rfl rfl (fun q=>AF rfl) (Bo 23 rfl rfl (fun q=>BF rfl Tryz.underlying9 (Bj rfl q)) ?_)))))))
 refine Bo 23 rfl rfl (fun q=>IQ (Bj rfl q) rfl) (Gt (BK rfl rfl (fun h=>h)) (Gm rfl (Bo 28 rfl rfl (fun q=>AF rfl) (Bo 28 rfl rfl (fun q=>Dl (Bj rfl q) rfl) (Gt (BK rfl rfl (fun h=>h)) (Gm rfl (Bo 32 rfl rfl (fun q=>AF rfl) ?_)))))))
 refine Bo 32 rfl rfl (fun q=>Dl (Bj rfl q) rfl) (Gt (BK rfl rfl (fun h=>h)) (Ga rfl (Gn (.t1 2) (Ab ?_))))
 refine AY rfl (.tmp rfl .n) ?_
 intro w1 hS;refine⟨?_,hS.Ak⟩;exact congrArg Value.bool (by rw [AE.FR,hI13];simp only [Bool.true_and];rfl)
theorem GD (X:AG)(b:Int)(w:World):Ej Tryz.prog 159 #[.agg X.enc.toArray, .int .i64 b] w fun v w'=>v = .bool (X.Au b)∧CB w w':=by
 refine Al [] [] Tryz.func159 rfl rfl rfl (St.start w []) ?_
 refine Gs ?_
 refine B5 rfl rfl rfl (fun b1=>?_)
 refine Ga rfl (Gn (.t2 1 2) (Gs (Gm rfl (Gt (CV rfl rfl) (Gm rfl (Bo 7 rfl rfl (fun q=>AF rfl) (Bo 7 rfl rfl (fun q=>A8 (Bj rfl q) rfl) ?_)))))))
 refine Gt (BK rfl rfl (fun h=>h)) (Gm rfl (Bo 11 rfl rfl (fun q=>AF rfl) (Bo 11 rfl rfl (fun q=>Ai Bs rfl) ?_)))
 refine Bo 11 rfl rfl (fun q=>by have q1:=q;(try simp at q1);exact AS C8 (Bj rfl q) (Bj rfl q) (by omega) (by omega)) ?_
 refine Bo 11 rfl rfl (fun q=>Ai IW (Bj rfl q)) ?_
 refine Bo 11 rfl rfl (fun q=>by have q1:=q;(try simp at q1);exact AH (Bj rfl q) Dr .m0 ((AG.l2.comp (AU.ar (n:=6) Aj.fl (by omega))).comp Aj.l1) rfl rfl) ?_
 refine Gt (BK rfl rfl (fun h=>h)) (Ga rfl (Gn (.t1 4) (Ab ?_)))
 refine AY rfl (.tmp rfl .n) ?_
 intro w1 hS;refine⟨?_,hS.Ak⟩;rfl
theorem PZ (X:AG)(i:Int)(w:World):Ej Tryz.prog 19 #[.agg X.enc.toArray, .int .i64 i] w fun v w'=>v = .tuple #[.int .i64 (X.room i).1, .bool (X.room i).2]∧CB w w':=by
 refine Al [] [] Tryz.func19 rfl rfl rfl (St.start w []) ?_
 refine Gs ?_
 refine B5 rfl rfl rfl (fun b1=>?_)
 refine Ga rfl (Ga rfl (Gn (.t2 1 2) (Gs (Ga rfl (AQ (AA (CD ?_)))))))
 refine Gm rfl (AQ (AA (Ae ?_)))
 refine Bl (.t4 1 6 8 2) ?_
 refine DX (fun(k:Int) (j:Int) (o:Bool)=>0≤k∧k≤10∧X.room i=X.J6 (10 - k).toNat j o) (fun(k:Int) (j:Int) (o:Bool)=>(10 - k).toNat) (fun(k:Int) (j:Int) (o:Bool)=> [(1, .int .i64 j),(6, .bool o),(8, .int .i64 k)]) (fun(k:Int) (j:Int) (o:Bool)=> []) (0) (i) (true) ?_ rfl rfl (fun k j o hI1=>?_)
 · exact⟨Int.le_refl _,by omega,rfl⟩
 obtain⟨hI11,hI12,hI13⟩:=hI1
 refine Gs (Gt (A8 rfl rfl) (AQ (AA (Ap ?_))))
 refine Gc (fun c1=>?_) (fun c1=>?_)
 ·
  have c1p:=kz c1
  rw [show(10 - k).toNat=(10 - (k+1)).toNat+1 from by omega,AG.J6] at hI13
  refine Aa ?_
  refine AB (.t4 1 2 6 8) ?_
  refine AA (Ap (Ae (CD (Gm rfl (Gt (A8 rfl rfl) (Gm rfl (Bc 12 rfl rfl (fun q=>AF rfl) ?_)))))))
  refine Bc 12 rfl rfl (fun q=>CV (cF rfl q) rfl) ?_
  refine Gt (BR rfl rfl (fun h=>by rw [h];rfl)) ?_
  refine Gn (.t5 1 2 6 8 15) ?_
  refine Gc (fun c2=>?_) (fun c2=>?_)
  ·
   refine Gs (Ga rfl (Ga rfl (Gn (.t2 4 5) (Ab (AD (AR (AD ?_)))))))
   refine AD (AR (AD ?_))
   refine AY rfl (.tmp rfl (.tmp rfl .n)) ?_
   intro w1 hS;refine⟨?_,hS.Ak⟩;rw [hI13];simp only [c1,c2,↓reduceIte,Bool.false_eq_true];rfl
  have c2p:=kz c2
  refine Aa ?_
  refine AB (.t4 1 2 6 8) ?_
  refine AA (Gs (Gm rfl (Gt (Ai Cx rfl) ?_)))
  refine Gt (AS GO rfl rfl (by omega) (by omega)) ?_
  refine Gt (AZ rfl M5 .m0 (AG.l1.comp (AU.ar (n:=9) Am.fl (by omega))) rfl) ?_
  refine BH rfl Kf rfl (fun b2=>?_)
  refine AT (AK (AU.id Am.fl.len Am.fl.one) rfl rfl rfl NT rfl .h) ?_
  refine Gn (.t4 2 6 7 8) (CD (Gt (Ai FY rfl) (Gt (AH rfl A4 .m0 Am.l2 rfl rfl) (Gn (.t5 2 6 7 8 21) (Ae (Gs (Gt (Ag rfl rfl) ?_)))))))
  refine Ga rfl (Gn (.t6 2 6 7 8 21 22) ?_)
  refine Gc (fun c3=>?_) (fun c3=>?_)
  ·
   refine Gs (Gt (Ai DM rfl) (Gt (AH rfl A4 .m0 Am.l3 rfl rfl) (Gm rfl (Ga rfl (Ga rfl (Gn (.t2 4 5) (Ab ?_)))))))
   refine AR (AD (AR (AD (AD (AR (AD ?_))))))
   refine AY rfl (.tmp rfl (.tmp rfl .n)) ?_
   intro w1 hS;refine⟨?_,hS.Ak⟩;rw [hI13];simp only [c1,c2,c3,↓reduceIte,Bool.false_eq_true];rfl
  have c3p:=kz c3
  refine Gs (Gt (Ag rfl rfl) (Ga rfl (Gn (.t6 2 6 7 8 21 27) ?_)))
  refine Gc (fun c4=>?_) (fun c4=>?_)
  ·
   have c4p:=kz c4
   refine CD (Gt (Ai DM rfl) (Gt (AH rfl A4 .m0 Am.l3 rfl rfl) (Gt (A8 rfl rfl) (Gm rfl (Bc 32 rfl rfl (fun q=>Ai DM rfl) (Bc 32 rfl rfl (fun q=>AH (cF rfl q) A4 .m0 Am.l3 rfl rfl) (Bc 32 rfl rfl (fun q=>CV (cF rfl q) rfl) ?_)))))))
   refine Gt (BR rfl rfl (fun h=>by rw [h];rfl)) ?_
   refine Gn (.t4 2 6 7 36) ?_
   refine Gc (fun c5=>?_) (fun c5=>?_)
   ·
    refine Gs (Ga rfl (Ga rfl (Gn (.t2 4 5) (Ab (AD (AR (AD ?_)))))))
    refine AR (AD (AD (AR (AD ?_))))
    refine AY rfl (.tmp rfl (.tmp rfl .n)) ?_
    intro w1 hS;refine⟨?_,hS.Ak⟩;rw [hI13];simp only [c1,c2,c3,c4,c5,↓reduceIte,Bool.false_eq_true];rfl
   have c5p:=kz c5
   refine Aa ?_
   refine AB (.t3 2 6 7) ?_
   refine AA (Gs (Gt (Ai DM rfl) (Gt (AH rfl A4 .m0 Am.l3 rfl rfl) (Gt (Ai Bs rfl) ?_))))
   refine Gt (AS C8 rfl rfl (by omega) (by omega)) ?_
   refine Gt (Ai C4 rfl) ?_
   refine Gt (AH rfl A4 .m1 ((AG.l2.comp (AU.ar (n:=6) Aj.fl (by omega))).comp Aj.l3) rfl rfl) ?_
   refine Gm rfl (Ga rfl (Ga rfl (Gn (.t2 4 5) (Ab (AR (AD (AR ?_)))))))
   refine AD (AD (AR (AD ?_)))
   refine AY rfl (.tmp rfl (.tmp rfl .n)) ?_
   intro w1 hS;refine⟨?_,hS.Ak⟩;rw [hI13];simp only [c1,c2,c3,c4,c5,↓reduceIte,Bool.false_eq_true];rfl
  have c4p:=kz c4
  refine Gs (Gt (Ag rfl rfl) (Ga rfl (Gn (.t5 2 6 7 8 44) ?_)))
  refine Gc (fun c6=>?_) (fun c6=>?_)
  ·
   have c6p:=kz c6
   refine Aa ?_
   refine AB (.t4 2 6 7 8) ?_
   refine AW (AA (Gs (Gt (Ai DM rfl) (Gt (AH rfl A4 .m0 Am.l3 rfl rfl) (Ga rfl (Gn (.t4 1 2 6 8) (Gs ?_)))))))
   refine Gm rfl (Gt (CV rfl rfl) (Gm rfl (Bo 50 rfl rfl (fun q=>AF rfl) (Bo 50 rfl rfl (fun q=>A8 (Bj rfl q) rfl) (Gt (BK rfl rfl (fun h=>h)) (Gm rfl (Bo 54 rfl rfl (fun q=>AF rfl) ?_)))))))
   refine Bo 54 rfl rfl (fun q=>Ai Cx rfl) ?_
   refine Bo 54 rfl rfl (fun q=>by have q1:=q;(try simp at q1);exact AS GO (Bj rfl q) (Bj rfl q) (by omega) (by omega)) ?_
   refine Bo 54 rfl rfl (fun q=>Ai GN (Bj rfl q)) ?_
   refine Bo 54 rfl rfl (fun q=>by have q1:=q;(try simp at q1);exact AH (Bj rfl q) Dr .m1 ((AG.l1.comp (AU.ar (n:=9) Am.fl (by omega))).comp Am.l4) rfl rfl) ?_
   refine Bo 54 rfl rfl (fun q=>BT (Bj rfl q)) (Gt (BK rfl rfl (fun h=>h)) (Gn (.t5 1 2 6 8 61) ?_))
   refine Gc (fun c7=>?_) (fun c7=>?_)
   ·
    have c7p:=kz c7
    refine AJ (Ga rfl ?_)
    refine AQ (AB (.t4 1 2 6 8) ?_)
    refine AW (AA (AJ ?_))
    refine Gt (Av rfl rfl (IntWalk.i64_in _ (by omega))) ?_
    refine Gm rfl ?_
    refine AQ (AB (.t4 1 2 6 8) ?_)
    refine Bt (k+1) ((X.AO.at j).at_) (false) ?_ ?_ (.t4 1 6 8 2) (.cons _ (.refl _))
    · exact⟨by omega,by omega,by rw [hI13];simp only [c1,c2,c3,c4,c6,c7,↓reduceIte,Bool.false_eq_true]⟩
    · omega
   have c7p:=kz c7
   refine Aa ?_
   refine AB (.t4 1 2 6 8) ?_
   refine AW (AA (AJ ?_))
   refine Gt (Av rfl rfl (IntWalk.i64_in _ (by omega))) ?_
   refine Gm rfl ?_
   refine AQ (AB (.t4 1 2 6 8) ?_)
   refine Bt (k+1) ((X.AO.at j).at_) (o) ?_ ?_ (.t4 1 6 8 2) (.cons _ (.refl _))
   · exact⟨by omega,by omega,by rw [hI13];simp only [c1,c2,c3,c4,c6,c7,↓reduceIte,Bool.false_eq_true]⟩
   · omega
  refine Gs (Ga rfl (Ga rfl (Gn (.t2 4 5) (Ab (AR (AD (AR ?_)))))))
  refine AD (AD (AR (AD ?_)))
  refine AY rfl (.tmp rfl (.tmp rfl .n)) ?_
  intro w1 hS;refine⟨?_,hS.Ak⟩;rw [hI13];simp only [c1,c2,c3,c4,c6,↓reduceIte,Bool.false_eq_true];rfl
 have c1p:=kz c1
 obtain rfl:k=10:=by omega
 refine Ba (AV (AV (Af ?_)))
 refine AB (.nil _) ?_
 refine AA (Gs (Ga rfl (Ga rfl (AQ (AA (Ab ?_))))))
 refine AY rfl (.tmp rfl (.tmp rfl .n)) ?_
 intro w1 hS;refine⟨?_,hS.Ak⟩;rw [hI13];rfl
end Go.Proofs.YtoidpggbbfncpaaGreatDoor
