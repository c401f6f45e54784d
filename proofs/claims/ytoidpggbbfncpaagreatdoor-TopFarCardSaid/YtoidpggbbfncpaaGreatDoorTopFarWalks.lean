/- What the functions that the law TopFar reaches compute: walks, part 1. No condition. -/
import Derived.Test.YtoidpggbbfncpaaGreatDoorCards
import Derived.Test.YtoidpggbbfncpaaGreatDoorTie
import Derived.Deep.DeepHandedRow
import Derived.Test.YtoidpggbbfncpaaGreatDoorRows
import Derived.Test.YtoidpggbbfncpaaGreatDoorTopFarEc3
import Derived.Test.YtoidpggbbfncpaaGreatDoorTopFarRa1
import Derived.Test.YtoidpggbbfncpaaGreatDoorTopFarRb1
import Derived.Test.YtoidpggbbfncpaaGreatDoorTopFarRc1
set_option linter.unusedSimpArgs false
set_option linter.unusedVariables false
set_option maxRecDepth 100000
set_option maxHeartbeats 1000000
namespace Go.Proofs.YtoidpggbbfncpaaGreatDoor
open Go Go.Ing Go.RowKit Go.ChangeShapes Go.WideShapes Go.ChangeAt
theorem LU:ZV Tryz.prog 35 (.agg (AH.enc (default:AH)).toArray):=E4 (by kernel_rfl)
theorem Dz:Sz Tryz.prog 35 165:=Ds (by kernel_rfl)
theorem D6:FA Tryz.prog 101 0 0:=Bv Tryz.underlying101 rfl Dz
theorem BW:Nf Tryz.prog 35 165:=E9 Tryz.underlying35 rfl Dz
theorem bl:Sz Tryz.prog 99 88:=Ds (by kernel_rfl)
theorem HH:FA Tryz.prog 101 1 165:=Bv Tryz.underlying101 rfl bl
theorem TP:Sz Tryz.prog 98 22:=Ds (by kernel_rfl)
theorem Qu:IA Tryz.prog 99 4 22:=Ll Tryz.underlying99 TP
theorem C6:Sz Tryz.prog 3 1:=Ds (by kernel_rfl)
theorem I4:FA Tryz.prog 98 0 0:=Bv Tryz.underlying98 rfl C6
theorem A2:RZ Tryz.prog 3:=JG Tryz.underlying3 rfl
theorem mix:Tryz.prog.follows .mixedOrders=true:=by kernel_rfl
theorem IL:FA Tryz.prog 98 1 1:=Bv Tryz.underlying98 rfl C6
theorem Ra:Sz Tryz.prog 53 1:=Ds (by kernel_rfl)
theorem NR:FA Tryz.prog 101 3 254:=Bv Tryz.underlying101 rfl Ra
theorem Di:RZ Tryz.prog 53:=JG Tryz.underlying53 rfl
theorem L6:Sz Tryz.prog 56 16:=Ds (by kernel_rfl)
theorem HZ:ZV Tryz.prog 56 (.agg (Ing.Event.enc (default:Ing.Event)).toArray):=E4 (by kernel_rfl)
theorem VP:BY Tryz.prog 56 160:=Ur (by kernel_rfl)
theorem af:IS Tryz.prog 53 16:=Oc Tryz.underlying53 L6
theorem L4:Nf Tryz.prog 56 16:=E9 Tryz.underlying56 rfl L6
theorem Mj:FA Tryz.prog 56 2 2:=Bv Tryz.underlying56 rfl C6
theorem Mf:FA Tryz.prog 56 0 0:=Bv Tryz.underlying56 rfl C6
theorem dm:CF Tryz.prog 18:=Tryz.call18
theorem cS:CF Tryz.prog 21:=Tryz.call21
theorem bR:Sz Tryz.prog 33 36:=Ds (by kernel_rfl)
theorem Bo:FA Tryz.prog 35 2 129:=Bv Tryz.underlying35 rfl bR
theorem KX:Sz Tryz.prog 32 6:=Ds (by kernel_rfl)
theorem C8:IA Tryz.prog 33 6 6:=Ll Tryz.underlying33 KX
theorem C2:FA Tryz.prog 32 3 3:=Bv Tryz.underlying32 rfl C6
theorem UA:IA Tryz.prog 49 4 1:=Ll Tryz.underlying49 C6
theorem ck:CF Tryz.prog 22:=Tryz.call22
theorem UG:FA Tryz.prog 56 1 1:=Bv Tryz.underlying56 rfl C6
theorem YL:Sz Tryz.prog 23 6:=Ds (by kernel_rfl)
theorem Lk:FA Tryz.prog 56 10 10:=Bv Tryz.underlying56 rfl YL
theorem Qw:IA Tryz.prog 23 6 1:=Ll Tryz.underlying23 C6
theorem eQ:CF Tryz.prog 36:=Tryz.call36
theorem WN:ZV Tryz.prog 23 (.agg (Bx (n:=6) Aq (Vector.replicate 6 default)).toArray):=E4 (by kernel_rfl)
theorem KU:Sz Tryz.prog 4 1:=Ds (by kernel_rfl)
theorem bU:ZV Tryz.prog 24 (.agg (Bx (n:=6) Cc (Vector.replicate 6 default)).toArray):=E4 (by kernel_rfl)
theorem E5:Sz Tryz.prog 9 1:=Ds (by kernel_rfl)
theorem bj:Sz Tryz.prog 24 6:=Ds (by kernel_rfl)
theorem V7:Hj Tryz.prog 26 [(0,1),(1,1),(2,6),(8,6)]:=⟨_,Tryz.underlying26,fun w=>by simp [E5 w,KU w,YL w,bj w]⟩
theorem Nt:ZV Tryz.prog 26 (.agg (Room.enc (default:Room)).toArray):=E4 (by kernel_rfl)
theorem RS:Sz Tryz.prog 26 14:=Ds (by kernel_rfl)
theorem dn:IS Tryz.prog 95 14:=Oc Tryz.underlying95 RS
theorem O7:Nf Tryz.prog 26 14:=E9 Tryz.underlying26 rfl RS
theorem cW:Sz Tryz.prog 27 84:=Ds (by kernel_rfl)
theorem Gz:FA Tryz.prog 35 0 0:=Bv Tryz.underlying35 rfl cW
theorem Oj:IA Tryz.prog 27 6 14:=Ll Tryz.underlying27 RS
theorem Qd:Hj Tryz.prog 29 [(0,1),(1,1),(2,1),(3,1),(4,1)]:=⟨_,Tryz.underlying29,fun w=>by simp [E5 w,C6 w,KU w]⟩
theorem KY:ZV Tryz.prog 29 (.agg (Al.enc (default:Al)).toArray):=E4 (by kernel_rfl)
theorem NL:Sz Tryz.prog 29 5:=Ds (by kernel_rfl)
theorem eO:IS Tryz.prog 96 5:=Oc Tryz.underlying96 NL
theorem M5:Nf Tryz.prog 29 5:=E9 Tryz.underlying29 rfl NL
theorem bE:Sz Tryz.prog 30 45:=Ds (by kernel_rfl)
theorem Cz:FA Tryz.prog 35 1 84:=Bv Tryz.underlying35 rfl bE
theorem F7:IA Tryz.prog 30 9 5:=Ll Tryz.underlying30 NL
theorem Wj:Hj Tryz.prog 32 [(0,1),(1,1),(2,1),(3,1),(4,1),(5,1)]:=⟨_,Tryz.underlying32,fun w=>by simp [E5 w,KU w,C6 w]⟩
theorem Lu:ZV Tryz.prog 32 (.agg (Aj.enc (default:Aj)).toArray):=E4 (by kernel_rfl)
theorem dS:CF Tryz.prog 15:=Tryz.call15
theorem bJ:Hj Tryz.prog 101 [(0,165),(165,88),(253,1),(254,1)]:=⟨_,Tryz.underlying101,fun w=>by simp [Dz w,bl w,C6 w,Ra w]⟩
theorem cN:ZV Tryz.prog 101 (.agg (AM.enc (default:AM)).toArray):=E4 (by kernel_rfl)
theorem Sy:ZV Tryz.prog 9 (BU []):=E4 (by kernel_rfl)
theorem YZ:BY Tryz.prog 9 16:=Ur (by kernel_rfl)
theorem cC:ZV Tryz.prog 75 (.agg (BM.enc ⟨[],false,false,⟨none,0,0⟩⟩).toArray):=E4 (by kernel_rfl)
theorem OZ:Sz Tryz.prog 52 1:=Ds (by kernel_rfl)
theorem F5:FA Tryz.prog 75 3 3:=Bv Tryz.underlying75 rfl OZ
theorem F3:RZ Tryz.prog 52:=JG Tryz.underlying52 rfl
theorem O3:Sz Tryz.prog 75 4:=Ds (by kernel_rfl)
theorem Jc:Nf Tryz.prog 75 4:=E9 Tryz.underlying75 rfl O3
theorem JR:IS Tryz.prog 52 1:=Oc Tryz.underlying52 E5
theorem CX:RZ Tryz.prog 9:=JG Tryz.underlying9 rfl
theorem WV:CF Tryz.prog 69:=Tryz.call69
theorem W9:ZV Tryz.prog 65 (.agg (Az.enc ⟨⟨none,0,0⟩,0,false,[],false⟩).toArray):=E4 (by kernel_rfl)
theorem Qn:FA Tryz.prog 65 2 2:=Bv Tryz.underlying65 rfl KU
theorem Mi:FA Tryz.prog 65 1 1:=Bv Tryz.underlying65 rfl C6
theorem Fz:Sz Tryz.prog 65 5:=Ds (by kernel_rfl)
theorem C5:Nf Tryz.prog 65 5:=E9 Tryz.underlying65 rfl Fz
theorem cc:CF Tryz.prog 116:=Tryz.call116
theorem ZR:CF Tryz.prog 115:=Tryz.call115
theorem G3:FA Tryz.prog 29 1 1:=Bv Tryz.underlying29 rfl C6
theorem GF:FA Tryz.prog 29 4 4:=Bv Tryz.underlying29 rfl KU
theorem Dn:RZ Tryz.prog 4:=JG Tryz.underlying4 rfl
theorem DK:FA Tryz.prog 29 3 3:=Bv Tryz.underlying29 rfl C6
theorem FV:FA Tryz.prog 29 2 2:=Bv Tryz.underlying29 rfl C6
theorem IP:FA Tryz.prog 32 1 1:=Bv Tryz.underlying32 rfl KU
theorem cz:Nf Tryz.prog 27 84:=E9 Tryz.underlying27 rfl cW
theorem Mb:FA Tryz.prog 26 2 2:=Bv Tryz.underlying26 rfl YL
theorem Za:Nf Tryz.prog 23 6:=E9 Tryz.underlying23 rfl YL
theorem MT:FA Tryz.prog 26 3 8:=Bv Tryz.underlying26 rfl bj
theorem VU:IA Tryz.prog 24 6 1:=Ll Tryz.underlying24 KU
theorem ZY:Nf Tryz.prog 33 36:=E9 Tryz.underlying33 rfl bR
theorem Fi:Nf Tryz.prog 32 6:=E9 Tryz.underlying32 rfl KX
theorem JX:FA Tryz.prog 32 4 4:=Bv Tryz.underlying32 rfl C6
theorem GB:FA Tryz.prog 32 5 5:=Bv Tryz.underlying32 rfl C6
theorem eD:CF Tryz.prog 68:=Tryz.call68
theorem ag:FA Tryz.prog 26 1 1:=Bv Tryz.underlying26 rfl KU
theorem XO:Nf Tryz.prog 30 45:=E9 Tryz.underlying30 rfl bE
theorem eH:CF Tryz.prog 19:=Tryz.call19
theorem Xs:CF Tryz.prog 159:=Tryz.call159
theorem Uq:CF Tryz.prog 129:=Tryz.call129
theorem Xc:FA Tryz.prog 32 2 2:=Bv Tryz.underlying32 rfl KU
theorem Zj:CF Tryz.prog 160:=Tryz.call160
theorem Gw:FA Tryz.prog 56 3 3:=Bv Tryz.underlying56 rfl C6
theorem Ot:CF Tryz.prog 130:=Tryz.call130
theorem bm:CF Tryz.prog 173:=Tryz.call173
theorem cq:CF Tryz.prog 157:=Tryz.call157
theorem CO:FA Tryz.prog 163 1 165:=Bv Tryz.underlying163 rfl C6
theorem A9:FA Tryz.prog 163 0 0:=Bv Tryz.underlying163 rfl Dz
theorem K3:FA Tryz.prog 32 0 0:=Bv Tryz.underlying32 rfl E5
theorem X6:FA Tryz.prog 56 6 6:=Bv Tryz.underlying56 rfl E5
theorem Wd:FA Tryz.prog 56 7 7:=Bv Tryz.underlying56 rfl E5
theorem CJ:FA Tryz.prog 163 2 166:=Bv Tryz.underlying163 rfl Ra
theorem Zb:CF Tryz.prog 123:=Tryz.call123
theorem Nn:Hj Tryz.prog 56 [(0,1),(1,1),(2,1),(3,1),(4,1),(5,1),(6,1),(7,1),(8,1),(9,1),(10,6)]:=⟨_,Tryz.underlying56,fun w=>by simp [C6 w,E5 w,YL w]⟩
theorem N0:CF Tryz.prog 96:=Tryz.call96
theorem Xd:IA Tryz.prog 133 21 1:=Ll Tryz.underlying133 E5
theorem ay:ZV Tryz.prog 3 (.int .i64 0):=E4 (by kernel_rfl)
theorem dH:BY Tryz.prog 3 8:=Ur (by kernel_rfl)
theorem Gd:IS Tryz.prog 169 1:=Oc Tryz.underlying169 C6
theorem Ml:FA Tryz.prog 29 0 0:=Bv Tryz.underlying29 rfl E5
theorem ED:CF Tryz.prog 127:=Tryz.call127
theorem Zy:FA Tryz.prog 26 0 0:=Bv Tryz.underlying26 rfl E5
theorem cD:CF Tryz.prog 52:=Tryz.call52
theorem SV:CF Tryz.prog 102:=Tryz.call102
theorem ZQ:CF Tryz.prog 101:=Tryz.call101
theorem aP:CF Tryz.prog 43:=Tryz.call43
theorem dT:CF Tryz.prog 46:=Tryz.call46
theorem UR:Hj Tryz.prog 163 [(0,165),(165,1),(166,1)]:=⟨_,Tryz.underlying163,fun w=>by simp [Dz w,C6 w,Ra w]⟩
theorem UP:ZV Tryz.prog 163 (.agg (Ad.enc (default:Ad)).toArray):=E4 (by kernel_rfl)
theorem Uh:CF Tryz.prog 124:=Tryz.call124
theorem U7:CF Tryz.prog 100:=Tryz.call100
theorem Zl:Sz Tryz.prog 104 1:=Ds (by kernel_rfl)
theorem RN:FA Tryz.prog 107 0 0:=Bv Tryz.underlying107 rfl Zl
theorem Wy:RZ Tryz.prog 104:=JG Tryz.underlying104 rfl
theorem Tr:∃ i,Tryz.prog.info? 107=some i∧i.size≠0:=by
  have h:(Tryz.prog.info? 107).map (·.size)=some 2:=by kernel_rfl
  obtain⟨i,h1,h2⟩:=Option.map_eq_some_iff.1 h
  exact⟨i,h1,by omega⟩
theorem aT:CF Tryz.prog 71:=Tryz.call71
theorem Ua:Sz Tryz.prog 105 1:=Ds (by kernel_rfl)
theorem Ev:FA Tryz.prog 107 1 1:=Bv Tryz.underlying107 rfl Ua
theorem IM:RZ Tryz.prog 105:=JG Tryz.underlying105 rfl
theorem VY:Sz Tryz.prog 5 1:=Ds (by kernel_rfl)
theorem aE:ZV Tryz.prog 5 (.int .u8 0):=E4 (by kernel_rfl)
theorem eJ:BY Tryz.prog 5 1:=Ur (by kernel_rfl)
theorem ep:Tryz.prog.cellsOf 5=1:=by kernel_rfl
theorem eL:CF Tryz.prog 49:=Tryz.call49
theorem Uu:ZV Tryz.prog 107 (.agg (DY.enc ⟨none,⟨none,0,0⟩⟩).toArray):=E4 (by kernel_rfl)
theorem YQ:CF Tryz.prog 50:=Tryz.call50
theorem Pp:CF Tryz.prog 51:=Tryz.call51
theorem aA:FA Tryz.prog 56 8 8:=Bv Tryz.underlying56 rfl E5
theorem aw:FA Tryz.prog 56 4 4:=Bv Tryz.underlying56 rfl C6
theorem Z9:FA Tryz.prog 56 9 9:=Bv Tryz.underlying56 rfl E5
theorem Z8:FA Tryz.prog 56 5 5:=Bv Tryz.underlying56 rfl C6
theorem eB:CF Tryz.prog 53:=Tryz.call53
theorem ZF:CF Tryz.prog 54:=Tryz.call54
theorem Jp:FA Tryz.prog 65 0 0:=Bv Tryz.underlying65 rfl OZ
theorem Jk:FA Tryz.prog 65 3 3:=Bv Tryz.underlying65 rfl E5
theorem av:CF Tryz.prog 44:=Tryz.call44
theorem LD:FA Tryz.prog 65 4 4:=Bv Tryz.underlying65 rfl KU
theorem D2:FA Tryz.prog 98 4 16:=Bv Tryz.underlying98 rfl Fz
theorem eM:CF Tryz.prog 82:=Tryz.call82
theorem Q5:FA Tryz.prog 98 5 21:=Bv Tryz.underlying98 rfl OZ
theorem dh:CF Tryz.prog 23:=Tryz.call23
theorem TV:CF Tryz.prog 64:=Tryz.call64
theorem cE:CF Tryz.prog 114:=Tryz.call114
theorem Vg:CF Tryz.prog 79:=Tryz.call79
theorem L5:ZV Tryz.prog 151 (.agg (Order.enc (default:Order)).toArray):=E4 (by kernel_rfl)
theorem R6:Hj Tryz.prog 151 [(0,1),(1,1),(2,1),(3,1),(4,1),(5,1)]:=⟨_,Tryz.underlying151,fun w=>by simp [C6 w,KU w,E5 w]⟩
theorem D3:Sz Tryz.prog 151 6:=Ds (by kernel_rfl)
theorem CB:Nf Tryz.prog 151 6:=E9 Tryz.underlying151 rfl D3
theorem dj:CF Tryz.prog 87:=Tryz.call87
theorem bM:CF Tryz.prog 76:=Tryz.call76
theorem Zq:CF Tryz.prog 174:=Tryz.call174
theorem XX:CF Tryz.prog 176:=Tryz.call176
theorem cL:CF Tryz.prog 179:=Tryz.call179
theorem Xn:IS Tryz.prog 105 1:=Oc Tryz.underlying105 VY
theorem dD:RZ Tryz.prog 5:=JG Tryz.underlying5 rfl
theorem ba:CF Tryz.prog 167:=Tryz.call167
theorem cm:CF Tryz.prog 168:=Tryz.call168
theorem ZS:CF Tryz.prog 180:=Tryz.call180
theorem ch:Sz Tryz.prog 133 21:=Ds (by kernel_rfl)
theorem aN:Nf Tryz.prog 133 21:=E9 Tryz.underlying133 rfl ch
theorem bk:CF Tryz.prog 169:=Tryz.call169
theorem dO:CF Tryz.prog 59:=Tryz.call59
theorem bQ:CF Tryz.prog 181:=Tryz.call181
theorem cY:CF Tryz.prog 170:=Tryz.call170
theorem Zk:CF Tryz.prog 171:=Tryz.call171
theorem cx:CF Tryz.prog 30:=Tryz.call30
theorem cl:CF Tryz.prog 172:=Tryz.call172
theorem bx:CF Tryz.prog 151:=Tryz.call151
theorem It:CF Tryz.prog 150:=Tryz.call150
theorem ZN:CF Tryz.prog 152:=Tryz.call152
theorem bF:CF Tryz.prog 153:=Tryz.call153
theorem bo:CF Tryz.prog 94:=Tryz.call94
theorem Qg:FA Tryz.prog 151 5 5:=Bv Tryz.underlying151 rfl E5
theorem Fq:FA Tryz.prog 151 3 3:=Bv Tryz.underlying151 rfl E5
theorem GO:FA Tryz.prog 151 1 1:=Bv Tryz.underlying151 rfl C6
theorem VA:CF Tryz.prog 154:=Tryz.call154
theorem HC:FA Tryz.prog 151 2 2:=Bv Tryz.underlying151 rfl KU
theorem ZU:CF Tryz.prog 155:=Tryz.call155
theorem Ze:CF Tryz.prog 156:=Tryz.call156
theorem IC:FA Tryz.prog 151 4 4:=Bv Tryz.underlying151 rfl E5
theorem ZX:CF Tryz.prog 128:=Tryz.call128
theorem UX:CF Tryz.prog 136:=Tryz.call136
theorem Zi:CF Tryz.prog 125:=Tryz.call125
theorem ZP:CF Tryz.prog 131:=Tryz.call131
theorem X9:CF Tryz.prog 132:=Tryz.call132
theorem P3:CF Tryz.prog 134:=Tryz.call134
theorem bc:CF Tryz.prog 161:=Tryz.call161
theorem Zc:CF Tryz.prog 133:=Tryz.call133
theorem PD:CF Tryz.prog 135:=Tryz.call135
theorem DF:FA Tryz.prog 151 0 0:=Bv Tryz.underlying151 rfl C6
theorem cX:CF Tryz.prog 137:=Tryz.call137
theorem dE:CF Tryz.prog 138:=Tryz.call138
theorem bd:CF Tryz.prog 139:=Tryz.call139
theorem Ub:CF Tryz.prog 140:=Tryz.call140
theorem dp:CF Tryz.prog 99:=Tryz.call99
theorem ca:CF Tryz.prog 103:=Tryz.call103
theorem cT:CF Tryz.prog 104:=Tryz.call104
theorem bW:CF Tryz.prog 105:=Tryz.call105
theorem bp:CF Tryz.prog 106:=Tryz.call106
theorem dB:CF Tryz.prog 107:=Tryz.call107
theorem ZI:CF Tryz.prog 84:=Tryz.call84
theorem KT:Sz Tryz.prog 69 10:=Ds (by kernel_rfl)
theorem VM:Hj Tryz.prog 98 [(0,1),(1,1),(2,10),(12,4),(16,5),(21,1)]:=⟨_,Tryz.underlying98,fun w=>by simp [C6 w,KT w,O3 w,Fz w,OZ w]⟩
theorem Vq:ZV Tryz.prog 98 (.agg (A3.enc (default:A3)).toArray):=E4 (by kernel_rfl)
theorem cZ:CF Tryz.prog 122:=Tryz.call122
theorem aD:CF Tryz.prog 67:=Tryz.call67
theorem Mp:FA Tryz.prog 98 3 12:=Bv Tryz.underlying98 rfl O3
theorem dq:CF Tryz.prog 91:=Tryz.call91
theorem db:CF Tryz.prog 92:=Tryz.call92
theorem eC:CF Tryz.prog 93:=Tryz.call93
theorem eI:CF Tryz.prog 95:=Tryz.call95
theorem dt:CF Tryz.prog 97:=Tryz.call97
theorem dC:CF Tryz.prog 186:=Tryz.call186
theorem cn:CF Tryz.prog 175:=Tryz.call175
theorem cu:CF Tryz.prog 158:=Tryz.call158
theorem cV:CF Tryz.prog 126:=Tryz.call126
theorem XW:CF Tryz.prog 62:=Tryz.call62
theorem de:CF Tryz.prog 98:=Tryz.call98
theorem K7:FA Tryz.prog 98 2 2:=Bv Tryz.underlying98 rfl KT
theorem RA:FA Tryz.prog 69 5 9:=Bv Tryz.underlying69 rfl C6
theorem dQ:CF Tryz.prog 83:=Tryz.call83
theorem eP:CF Tryz.prog 77:=Tryz.call77
theorem da:CF Tryz.prog 78:=Tryz.call78
theorem SX:CF Tryz.prog 65:=Tryz.call65
theorem dF:Sz Tryz.prog 67 3:=Ds (by kernel_rfl)
theorem Ks:FA Tryz.prog 69 3 3:=Bv Tryz.underlying69 rfl dF
theorem Kr:IA Tryz.prog 67 3 1:=Ll Tryz.underlying67 C6
theorem Jx:FA Tryz.prog 69 4 6:=Bv Tryz.underlying69 rfl dF
theorem Fm:FA Tryz.prog 69 0 0:=Bv Tryz.underlying69 rfl C6
theorem Ko:FA Tryz.prog 69 1 1:=Bv Tryz.underlying69 rfl C6
theorem G2:FA Tryz.prog 69 2 2:=Bv Tryz.underlying69 rfl E5
theorem aU:ZV Tryz.prog 69 (.agg (AP.enc (default:AP)).toArray):=E4 (by kernel_rfl)
theorem aH:CF Tryz.prog 73:=Tryz.call73
theorem D5:Nf Tryz.prog 69 10:=E9 Tryz.underlying69 rfl KT
theorem aS:CF Tryz.prog 55:=Tryz.call55
theorem SQ:CF Tryz.prog 74:=Tryz.call74
theorem cM:ZV Tryz.prog 145 (.agg (Bx (n:=2) Aq (Vector.replicate 2 default)).toArray):=E4 (by kernel_rfl)
theorem eR:CF Tryz.prog 80:=Tryz.call80
theorem eG:CF Tryz.prog 81:=Tryz.call81
theorem Yj:CF Tryz.prog 75:=Tryz.call75
theorem dy:CF Tryz.prog 56:=Tryz.call56
theorem cj:CF Tryz.prog 57:=Tryz.call57
theorem dU:CF Tryz.prog 58:=Tryz.call58
theorem Jj:FA Tryz.prog 75 0 0:=Bv Tryz.underlying75 rfl E5
theorem Oo:FA Tryz.prog 75 1 1:=Bv Tryz.underlying75 rfl KU
theorem N5:FA Tryz.prog 75 2 2:=Bv Tryz.underlying75 rfl KU
theorem ao:CF Tryz.prog 70:=Tryz.call70
theorem dZ:CF Tryz.prog 45:=Tryz.call45
theorem Ka:ZV Tryz.prog 44 (.agg (Bm.enc (default:Bm)).toArray):=E4 (by kernel_rfl)
theorem RH:FA Tryz.prog 101 2 253:=Bv Tryz.underlying101 rfl C6
theorem bu:Sz Tryz.prog 42 1:=Ds (by kernel_rfl)
theorem NM:Hj Tryz.prog 44 [(0,1),(1,1)]:=⟨_,Tryz.underlying44,fun w=>by simp [bu w,E5 w]⟩
theorem KS:Sz Tryz.prog 44 2:=Ds (by kernel_rfl)
theorem Iv:Nf Tryz.prog 44 2:=E9 Tryz.underlying44 rfl KS
theorem OU:FA Tryz.prog 41 0 0:=Bv Tryz.underlying41 rfl C6
theorem Wo:FA Tryz.prog 41 2 2:=Bv Tryz.underlying41 rfl C6
theorem eF:CF Tryz.prog 60:=Tryz.call60
theorem Ts:FA Tryz.prog 41 1 1:=Bv Tryz.underlying41 rfl C6
theorem dR:CF Tryz.prog 61:=Tryz.call61
theorem aL:FA Tryz.prog 41 3 3:=Bv Tryz.underlying41 rfl E5
theorem eK:CF Tryz.prog 29:=Tryz.call29
theorem dP:CF Tryz.prog 63:=Tryz.call63
theorem eS:CF Tryz.prog 66:=Tryz.call66
theorem cU:CF Tryz.prog 37:=Tryz.call37
theorem au:Hj Tryz.prog 41 [(0,1),(1,1),(2,1),(3,1)]:=⟨_,Tryz.underlying41,fun w=>by simp [C6 w,E5 w]⟩
theorem aX:ZV Tryz.prog 41 (.agg (Bz.enc (default:Bz)).toArray):=E4 (by kernel_rfl)
theorem Y8:CF Tryz.prog 38:=Tryz.call38
theorem Xv:FA Tryz.prog 44 0 0:=Bv Tryz.underlying44 rfl bu
theorem Zo:RZ Tryz.prog 42:=JG Tryz.underlying42 rfl
theorem dz:CF Tryz.prog 24:=Tryz.call24
theorem dx:CF Tryz.prog 33:=Tryz.call33
theorem bH:Sz Tryz.prog 41 4:=Ds (by kernel_rfl)
theorem cG:IS Tryz.prog 22 4:=Oc Tryz.underlying22 bH
theorem Zr:Nf Tryz.prog 41 4:=E9 Tryz.underlying41 rfl bH
theorem du:CF Tryz.prog 35:=Tryz.call35
theorem cH:ZV Tryz.prog 49 (.agg (Bx (n:=4) Aq (Vector.replicate 4 default)).toArray):=E4 (by kernel_rfl)
theorem eN:CF Tryz.prog 16:=Tryz.call16
theorem Qt (b:Nat)(V:AM):JQ Tryz.prog 18 #[.pointer (some ⟨b,0,none⟩)] [Ab.box b 101 (AM.enc V)] (fun v B=>v = .agg (AH.enc V.w).toArray∧B = [Ab.box b 101 (AM.enc V)]):=by
 intro w hS0
 refine Ak _ _ Tryz.func18 rfl rfl rfl (hS0) ?_
 refine Gs ?_
 refine BD rfl LU rfl (fun b1=>?_)
 refine AQ (AA (CG (Gm rfl (Gt (Ei Tryz.underlying37 rfl) (Gn (.t3 0 2 4) ?_)))))
 refine Dr rfl rfl ?_
 refine Aa ?_
 refine AB (.t2 0 2) ?_
 refine AA (Gs (Gm rfl (Gt (BV rfl) (Gt (Ai D6 rfl) (Gt (AZ rfl BW .m1 AM.l0 rfl) ?_)))))
 refine AT (AK (AU.id AH.fl.len AH.fl.one) rfl rfl rfl Dz rfl .h) ?_
 refine Gn (.t1 2) (Ac ?_)
 refine AY rfl (.cell rfl .m0 (.inl ⟨(by rw [AH.fl.len];exact BW),rfl⟩) .n) ?_
 intro w1 hS
 have hS:=(hS.perm (Ax.perm (.c (.t .h) .n))).A1
 exact⟨_,⟨rfl,rfl⟩,hS⟩
theorem Ke (b:Nat)(V:AM)(i:Int)(hi:0≤i∧i < 4):JQ Tryz.prog 21 #[.pointer (some ⟨b,0,none⟩), .int .i64 i] [Ab.box b 101 (AM.enc V)] (fun v B=>v = .tuple #[.int .i64 (CQ (V.Au.at i)).1, .int .i64 (CQ (V.Au.at i)).2]∧B = [Ab.box b 101 (AM.enc V)]):=by
 intro w hS0
 refine Ak _ _ Tryz.func21 rfl rfl rfl (hS0) ?_
 refine Gs (Ga rfl (Ga rfl (Gn (.t2 0 1) (CG (Gm rfl (Gt (Ei Tryz.underlying37 rfl) (Gm rfl ?_)))))))
 refine Dq (t:=8) rfl rfl rfl (AF rfl) ?_
 refine Dq (t:=8) rfl rfl rfl (A7 rfl rfl) ?_
 refine Gt (Da rfl rfl) (Gm rfl (Bg 12 rfl rfl (fun q=>AF rfl) (Bg 12 rfl rfl (fun q=>CK (cF rfl q) rfl) ?_)))
 refine Gt (BS rfl rfl (fun h=>by rw [h];rfl)) ?_
 refine Gm rfl (Bg 16 rfl rfl (fun q=>AF rfl) (Bg 16 rfl rfl (fun q=>AF rfl) (Bg 16 rfl rfl (fun q=>BV (cF rfl q)) (Bg 16 rfl rfl (fun q=>Ai HH (cF rfl q)) ?_))))
 refine Bg 16 rfl rfl (fun q=>by have q1:=q;(try simp at q1);exact AR Qu (cF rfl q) (cF rfl q) (by first | omega | exact hi.1 | exact hi.2) (by first | omega | exact hi.1 | exact hi.2)) ?_
 refine Bg 16 rfl rfl (fun q=>Ai I4 (cF rfl q)) ?_
 refine Bg 16 rfl rfl (fun q=>by have q1:=q;(try simp at q1);exact AG (cF rfl q) A2 .m0 ((AM.l1.comp (AU.ar (n:=4) A3.fl (by first | omega | exact hi))).comp A3.l0) rfl rfl) ?_
 refine Bg 16 rfl rfl (fun q=>Cb (cF rfl q) rfl) ?_
 refine Gt (BS rfl rfl (fun h=>by rw [h];rfl)) ?_
 refine Gn (.t3 0 1 25) ?_
 refine Gc (fun c1=>?_) (fun c1=>?_)
 ·
  have c1p:=kz c1
  refine CG (Gm rfl (Gt (Ei Tryz.underlying37 rfl) (Gm rfl ?_)))
  refine Dq (t:=28) rfl rfl rfl (AF rfl) ?_
  refine Dq (t:=28) rfl rfl rfl (A7 rfl rfl) ?_
  refine Gt (Da rfl rfl) (Gm rfl (Bg 32 rfl rfl (fun q=>AF rfl) (Bg 32 rfl rfl (fun q=>CK (cF rfl q) rfl) ?_)))
  refine Gt (BS rfl rfl (fun h=>by rw [h];rfl)) ?_
  refine Gn (.t3 0 1 35) ?_
  refine Dr rfl (by rw [Bool.or_eq_false_iff,decide_eq_false_iff_not,decide_eq_false_iff_not];omega) ?_
  refine Aa ?_
  refine AB (.t2 0 1) ?_
  refine AA (Gs (Gm rfl (Gm rfl (Gt (BV rfl) (Gt (Ai HH rfl) ?_)))))
  refine Gt (AR Qu rfl rfl (by first | omega | exact hi.1 | exact hi.2) (by first | omega | exact hi.1 | exact hi.2)) ?_
  refine Gt (Ai I4 rfl) ?_
  refine Gt (AG rfl A2 .m0 ((AM.l1.comp (AU.ar (n:=4) A3.fl (by first | omega | exact hi))).comp A3.l0) rfl rfl) ?_
  refine Ga rfl (Ga rfl (Gn (.t2 4 5) (Ac (AD ?_))))
  refine AY rfl (.tmp rfl (.tmp rfl .n)) ?_
  intro w1 hS
  have hS:=(hS.perm (Ax.perm (.c .h .n))).A1
  have hq:CQ (V.Au.at i)=_:=if_neg (by rw [decide_eq_true_eq];rcases c1p with (h | h) | h<;>first | omega | exact h)
  refine⟨_,⟨?gv1,rfl⟩,hS⟩
  case gv1=>rw [hq];rfl
 have c1p:=kz c1
 refine Aa ?_
 refine AB (.t2 0 1) ?_
 refine AA (Ao ?_)
 refine BE (N:=9) [0,0,1,5,15,31,63,0,255] mix (by kernel_rfl) rfl ?_
 refine Pf 0 rfl (AF rfl) (Pf 1 rfl (AF rfl) (Pf 2 rfl (BV rfl) (Pf 3 rfl (Ai HH rfl) ?_)))
 refine Pf 4 rfl (AR Qu rfl rfl (by first | omega | exact hi.1 | exact hi.2) (by first | omega | exact hi.1 | exact hi.2)) ?_
 refine Pf 5 rfl (Ai IL rfl) ?_
 refine Pf 6 rfl (AG rfl A2 .m0 ((AM.l1.comp (AU.ar (n:=4) A3.fl (by first | omega | exact hi))).comp A3.l1) rfl rfl) ?_
 refine Pf 7 rfl (A0 rfl) (Pf 8 rfl (A0 rfl) ?_)
 refine A4 (by kernel_rfl) ?_
 refine AB (.t2 4 5) ?_
 refine AA (Ac ?_)
 refine AY rfl (.tmp rfl (.tmp rfl .n)) ?_
 intro w1 hS
 have hS:=(hS.perm (Ax.perm (.c .h .n))).A1
 have hq:CQ (V.Au.at i)=_:=if_pos (decide_eq_true c1p.2)
 refine⟨_,⟨?gv2,rfl⟩,hS⟩
 case gv2=>rw [hq];rfl
theorem L1 (b:Nat)(V:AM)(ev:List Ing.Event)(hl:ev.length≤1000000):JQ Tryz.prog 22 #[.pointer (some ⟨b,0,none⟩)] [Ab.box b 101 (AM.enc V),Ab.own (AM.last V) 56 16 (ev.flatMap Ing.Event.enc)] (fun v B=>∃ h':Hd,v=h'.val∧h'.len=ev.length∧B = [Ab.box b 101 (AM.enc V),Ab.own (AM.last V) 56 16 (ev.flatMap Ing.Event.enc),Ab.own h' 56 16 (ev.flatMap Ing.Event.enc)]):=by
 intro w hS0
 refine Ak _ _ Tryz.func22 rfl rfl rfl (hS0) ?_
 refine Gs (Ga rfl (Gn (.t1 0) (Ao (Ao ?_))))
 refine XA (fun w hS=>(Kn.own .m1 w hS).La Ing.Event.fl (by decide)) (fun hLl=>?_)
 refine AJ (Gm rfl (Gt (Ei Tryz.underlying37 rfl) (Gn (.t2 0 4) ?_)))
 refine Dr rfl rfl ?_
 refine Aa ?_
 refine AB (.t1 0) ?_
 refine AA (Gs (Gm rfl (Gt (BV rfl) (Gt (Ai NR rfl) (Gt (AG rfl Di .m0 AM.l3 rfl rfl) ?_)))))
 refine Dm Ing.Event.enc 56 16 ?_
 refine K6 (e:=Ing.Event.enc) rfl Tryz.underlying53 L6 HZ rfl VP (by decide) rfl rfl (fun w hS=>Src.D7 Tryz.underlying53 ((Kn.own .m2) w hS)) rfl rfl (by omega) (fun _=> .h) (fun h1 h1l=>?_)
 refine Ga rfl (Gn (.t1 2) (Ac ?_))
 refine AY rfl (.tmp rfl .n) ?_
 intro w1 hS
 have hS:=(hS.perm (Ax.perm (.c (.t .h) (.c (.t .h) (.c .h .n))))).A1
 exact⟨_,⟨_,rfl,by(try simp only [List.length_append,List.length_nil] at *);omega,rfl⟩,hS⟩
theorem Pm {t0:Nat}(f:Hd)(l:List Ing.Event)(z:Int)(hl:l.length≤1000000)(w:World)(r0:Rd w f t0 16 (l.flatMap Ing.Event.enc)):Ed Tryz.prog 36 #[f.val, .int .i64 z] w fun v w'=>v = .bool (G7 l z)∧CA w w':=by
 have hfl:=r0.La Ing.Event.fl (by decide)
 refine Ak [] [] Tryz.func36 rfl rfl rfl (St.start w []) ?_
 refine Gs (Ga rfl (Gn (.t2 0 1) (CG (Gm rfl (Gt (Ar rfl Tryz.underlying53 rfl) (Gm rfl (Gn (.t4 1 7 8 9) ?_)))))))
 refine Ae ?_
 refine Bn (.t4 9 1 7 8) ?_
 refine CY (fun(k:Int)=>0≤k∧k≤(l.length:Int)∧G7 l z=G7 (l.drop k.toNat) z) (fun(k:Int)=>((l.length:Int) - k).toNat) (fun(k:Int)=> [(9, .int .i64 k)]) (fun(k:Int)=> []) (0) ?_ rfl rfl (fun k hI1=>?_)
 · exact⟨by omega,by omega,rfl⟩
 obtain⟨hI11,hI12,hI13⟩:=hI1
 refine Gs (Gt (A7 rfl rfl) (AQ (AA (Ao ?_))))
 refine Gc (fun c1=>?_) (fun c1=>?_)
 ·
  have c1p:=kz c1
  refine Aa ?_
  refine AB (.t4 1 7 8 9) ?_
  refine AA (Ao (Ae (Gs ?_)))
  refine Gt (Bp af (by decide) (Kn.IT r0) rfl rfl (by omega) (by omega)) ?_
  refine Gt (Ku rfl L4 (by decide) Ing.Event.fl (Kn.IT r0) (by omega)) ?_
  refine BD rfl HZ rfl (fun b1=>?_)
  refine AT (AK (AU.id Ing.Event.fl.len Ing.Event.fl.one) rfl rfl rfl L6 rfl .h) ?_
  refine Gn (.t5 1 6 7 8 9) (Gs (Gt (Ai Mj rfl) (Gt (AG rfl A2 .m0 Ing.Event.l2 rfl rfl) (Gm rfl (Gt (Af rfl rfl) (Gm rfl (Bf 17 rfl rfl (fun q=>Ai Mf rfl) ?_)))))))
  refine Bf 17 rfl rfl (fun q=>AG (Bc rfl q) A2 .m0 Ing.Event.l0 rfl rfl) (Bf 17 rfl rfl (fun q=>Af (Bc rfl q) rfl) (Bf 17 rfl rfl (fun q=>AF (Bc rfl q)) ?_))
  refine Cl (t:=21) rfl rfl rfl (fun qc q=>Ai Mf rfl) ?_
  refine Cl (t:=21) rfl rfl rfl (fun qc q=>AG (Bc rfl (by rw [qc,q];rfl)) A2 .m0 Ing.Event.l0 rfl rfl) ?_
  refine Cl (t:=21) rfl rfl rfl (fun qc q=>Af (Bc rfl (by rw [qc,q];rfl)) rfl) ?_
  refine Bf 17 rfl rfl (fun q=>BS (Bc rfl q) rfl (fun h=>by rw [q,h];rfl)) ?_
  refine Bf 17 rfl rfl (fun q=>AF (Bc rfl q)) ?_
  refine Cl (t:=26) rfl rfl rfl (fun qc q=>Ai Mf rfl) ?_
  refine Cl (t:=26) rfl rfl rfl (fun qc q=>AG (Bc rfl (by rw [qc,q];rfl)) A2 .m0 Ing.Event.l0 rfl rfl) ?_
  refine Cl (t:=26) rfl rfl rfl (fun qc q=>Af (Bc rfl (by rw [qc,q];rfl)) rfl) ?_
  refine Bf 17 rfl rfl (fun q=>BS (Bc rfl q) rfl (fun h=>by rw [q,h];rfl)) ?_
  refine Gt (BG rfl rfl (fun h=>h)) (Gn (.t5 1 7 8 9 31) ?_)
  refine Gc (fun c2=>?_) (fun c2=>?_)
  ·
   have c2p:=kz c2
   refine Gs (Ga rfl (Gn (.t1 4) (Ac (AS (AD (AD (AS ?_)))))))
   refine AD ?_
   refine AY rfl (.tmp rfl .n) ?_
   intro w1 hS;refine⟨?_,hS.Am⟩;exact congrArg Value.bool ((aC hI11 (by omega) hI13 c2).symm)
  have c2p:=kz c2
  refine Aa ?_
  refine AB (.t4 1 7 8 9) ?_
  refine AV (AA (AJ ?_))
  refine Gt (Av rfl rfl (IntWalk.i64_in _ (by omega))) ?_
  refine Gm rfl ?_
  refine AQ (AB (.t4 1 7 8 9) ?_)
  refine B2 (k+1) ?_ ?_ (.t4 9 1 7 8) (.cons _ (.refl _))
  · exact⟨by omega,by omega,aa hI11 (by omega) hI13 c2⟩
  · omega
 have c1p:=kz c1
 refine Bb (AW (AW (Ag ?_)))
 refine AB (.nil _) ?_
 refine AA (Gs (Ga rfl (AQ (AA (Ac ?_)))))
 refine AY rfl (.tmp rfl .n) ?_
 intro w1 hS;refine⟨?_,hS.Am⟩;exact congrArg Value.bool (by rw [hI13,List.drop_eq_nil_of_le (by omega)];rfl)
theorem LO (b:Nat)(V:AM)(ls:Vector BJ 4)(ev:List Ing.Event)(a:Bz)(r:Bm)(c d:Nat)(T R:Vector Int 4)(hA:(A5 V ls ev).Live)(hO:Wm V ev T R):JQ Tryz.prog 35 #[.pointer (some ⟨b,0,none⟩), .agg a.enc.toArray, .agg r.enc.toArray, .pointer (some ⟨c,0,none⟩), .pointer (some ⟨d,0,none⟩)] [Ab.box b 101 (AM.enc V),Ab.own (AM.last V) 56 16 (ev.flatMap Ing.Event.enc),Ab.box c 49 (Bx (n:=4) Aq T),Ab.box d 49 (Bx (n:=4) Aq R)] (fun v B=>∃ T' R':Vector Int 4,v = .bool true∧LQ (fun j=>(CQ (V.Au.at j)).2) T T' 4∧LQ (Kb V) R R' 4∧B = [Ab.box b 101 (AM.enc V),Ab.own (AM.last V) 56 16 (ev.flatMap Ing.Event.enc),Ab.box c 49 (Bx (n:=4) Aq T'),Ab.box d 49 (Bx (n:=4) Aq R')]):=by
 intro w hS0
 have hvl:=hA.last
 refine Ak _ _ Tryz.func35 rfl rfl rfl (hS0) ?_
 refine Gs ?_
 refine B6 rfl rfl rfl (fun b1=>?_)
 refine B6 rfl rfl rfl (fun b2=>?_)
 refine Ga rfl (Gn (.t3 0 3 4) (Gs (Gm rfl ?_)))
 refine Ah rfl dm (.c rfl .n) (.c (.t (.t .h)) .n) (Qt _ _) (fun v1 B hv=>?_)
 obtain⟨rfl,rfl⟩:=hv
 refine BD rfl LU rfl (fun b3=>?_)
 refine AT (AK (AU.id AH.fl.len AH.fl.one) rfl rfl rfl Dz rfl .h) ?_
 refine Gn (.t4 0 3 4 9) (CG (Gm rfl (AQ (AA (Ae ?_)))))
 refine Bn (.t5 18 0 3 4 9) ?_
 refine Ba (.t (.t (.t (.t (.t (.t .h)))))) ?_
 refine Ba (.t (.t (.t (.t (.t (.t .h)))))) ?_
 refine Dl (fun(k:Int) (T1:Vector Int 4) (R1:Vector Int 4)=>0≤k∧k≤4∧LQ (fun j=>(CQ (V.Au.at j)).2) T T1 k∧LQ (Kb V) R R1 k) (fun(k:Int) (T1:Vector Int 4) (R1:Vector Int 4)=>(4 - k).toNat) (fun(k:Int) (T1:Vector Int 4) (R1:Vector Int 4)=> [(18, .int .i64 k)]) (fun(k:Int) (T1:Vector Int 4) (R1:Vector Int 4)=> [Ab.box c 49 (Bx (n:=4) Aq T1),Ab.box d 49 (Bx (n:=4) Aq R1)]) (0) (T) (R) ?_ rfl rfl (fun k T1 R1 hI1=>?_)
 · exact⟨by omega,by omega, .start _ T, .start _ R⟩
 obtain⟨hI11,hI12,hI13,hI14⟩:=hI1
 refine Gs (Gt (A7 rfl rfl) (AQ (AA (Ao ?_))))
 refine Gc (fun c1=>?_) (fun c1=>?_)
 ·
  have c1p:=kz c1
  have hk:0≤k∧k < 4:=⟨by omega,by omega⟩
  have hfo:=hO k hk.1 hk.2
  have hlt:=hfo.1
  refine Aa ?_
  refine AB (.t5 0 3 4 9 18) ?_
  refine AA (Ao (Ae (Gs (Gm rfl (Ga rfl (Gn (.t6 0 3 4 9 10 18) (Gs ?_)))))))
  refine Gm rfl (Gm rfl ?_)
  refine Ah rfl cS (.c rfl (.c rfl .n)) (.c (.t (.t (.t .h))) .n) (Ke b V k hk) (fun v2 B hv=>?_)
  obtain⟨rfl,rfl⟩:=hv
  refine Gm rfl (Gt (AN rfl rfl) (Gt (AN rfl rfl) (Ga rfl (Ga rfl (Gn (.t7 0 3 4 9 10 12 18) (Gs (Ga rfl ?_)))))))
  refine AQ (AA ?_)
  refine ZH (Lm:= []) (fun(rm:Int)=>rm=Kb V k) (fun(rm:Int)=> [(13, .int .i64 rm)]) (fun(rm:Int)=> []) (.t7 0 3 4 9 10 12 18) rfl ?_ (fun rm hC=>?_)
  ·
   refine Gs (Gm rfl (Gt (CK rfl rfl) (Gn (.t9 0 3 4 9 10 12 13 18 28) ?_)))
   refine Gc (fun c2=>?_) (fun c2=>?_)
   ·
    have c2p:=kz c2
    have hb0:=c2p
    refine AJ (Gm rfl (Gt (Ai Bo rfl) ?_))
    refine Gt (AR C8 rfl rfl (by first | omega | exact hk.1 | exact hk.2) (by first | omega | exact hk.1 | exact hk.2)) ?_
    refine Gt (Ai C2 rfl) ?_
    refine Gt (AG rfl A2 .m3 ((AH.l2.comp (AU.ar (n:=6) Aj.fl (by first | omega | exact hk))).comp Aj.l3) rfl rfl) ?_
    refine Ga rfl ?_
    refine AQ (AB (.t8 0 3 4 9 10 12 13 18) ?_)
    refine Um _ ?_ (.t8 13 0 3 4 9 10 12 18) (.refl _)
    · exact(if_pos hb0).symm
   have c2p:=kz c2
   have hb0:=c2p
   refine Aa ?_
   refine AB (.t8 0 3 4 9 10 12 13 18) ?_
   refine Um _ ?_ (.t8 13 0 3 4 9 10 12 18) (.refl _)
   · exact(if_neg (by omega)).symm
  have hrm:=hC
  refine CG (Gm rfl (Gt (CK rfl rfl) (Gm rfl (Bf 36 rfl rfl (fun q=>AF rfl) ?_))))
  refine Bf 36 rfl rfl (fun q=>by have q1:=q;(try simp at q1);exact AR UA rfl (Bc rfl q) (by first | omega | exact hk.1 | exact hk.2) (by first | omega | exact hk.1 | exact hk.2)) ?_
  refine Bf 36 rfl rfl (fun q=>by have q1:=q;(try simp at q1);exact AG (Bc rfl q) A2 .m1 ((AU.id (HL Bu).len (HL Bu).one).comp (AU.ar (n:=4) Bu (by first | omega | exact hk))) rfl rfl) ?_
  refine Bf 36 rfl rfl (fun q=>AF rfl) (Bf 36 rfl rfl (fun q=>Af (Bc rfl q) (Bc rfl q)) (Gt (BG rfl rfl (fun h=>h)) (Gm rfl (Bf 43 rfl rfl (fun q=>AF rfl) ?_))))
  refine Bf 43 rfl rfl (fun q=>by have q1:=q;(try simp at q1);exact AR UA rfl (Bc rfl q) (by first | omega | exact hk.1 | exact hk.2) (by first | omega | exact hk.1 | exact hk.2)) ?_
  refine Bf 43 rfl rfl (fun q=>by have q1:=q;(try simp at q1);exact AG (Bc rfl q) A2 .m2 ((AU.id (HL Bu).len (HL Bu).one).comp (AU.ar (n:=4) Bu (by first | omega | exact hk))) rfl rfl) ?_
  refine Bf 43 rfl rfl (fun q=>AF rfl) (Bf 43 rfl rfl (fun q=>Af (Bc rfl q) (Bc rfl q)) (Gt (BG rfl rfl (fun h=>h)) (Gn (.t9 0 3 4 9 10 12 13 18 49) ?_)))
  refine Gc (fun c3=>?_) (fun c3=>?_)
  ·
   have c3p:=kz c3
   have hc3:=c3
   refine Gs (Gm rfl ?_)
   refine Ah rfl ck (.c rfl .n) (.c .h (.c (.t (.t (.t (.t (.t .h))))) .n)) (L1 b V ev hvl) (fun v3 B hv=>?_)
   obtain⟨y4,rfl,y5,rfl⟩:=hv
   refine Gt (Ar rfl Tryz.underlying53 rfl) (Gm rfl (Gn (.t11 0 3 4 9 10 12 13 18 51 52 53) (Ae ?_)))
   refine Bn (.t11 53 0 3 4 9 10 12 13 18 51 52) ?_
   refine CY (fun(m:Int)=>0≤m∧m≤(ev.length:Int)) (fun(m:Int)=>((ev.length:Int) - m).toNat) (fun(m:Int)=> [(53, .int .i64 m)]) (fun(m:Int)=> []) (0) ?_ rfl rfl (fun m hI2=>?_)
   · exact⟨by omega,by omega⟩
   obtain⟨hI21,hI22⟩:=hI2
   refine Gs (Gt (A7 rfl rfl) (AQ (AA (Ao ?_))))
   refine Gc (fun c4=>?_) (fun c4=>?_)
   ·
    have c4p:=kz c4
    refine Aa ?_
    refine AB (.t11 0 3 4 9 10 12 13 18 51 52 53) ?_
    refine AA (Ao (Ae (Gs ?_)))
    refine Gt (Bp af (by decide) (Kn.own .m2) rfl rfl (by omega) (by omega)) ?_
    refine Gt (Ku rfl L4 (by decide) Ing.Event.fl (Kn.own .m2) (by omega)) ?_
    refine BD rfl HZ rfl (fun b4=>?_)
    refine AT (AK (AU.id Ing.Event.fl.len Ing.Event.fl.one) rfl rfl rfl L6 rfl .h) ?_
    refine Gn (.t12 0 3 4 9 10 12 13 15 18 51 52 53) (Gs (Gt (Ai UG rfl) (Gt (AG rfl A2 .m0 Ing.Event.l1 rfl rfl) (Gm rfl (Gt (Cb rfl rfl) (Gm rfl (Bf 61 rfl rfl (fun q=>Ai Mj rfl) ?_)))))))
    refine Bf 61 rfl rfl (fun q=>AG (Bc rfl q) A2 .m0 Ing.Event.l2 rfl rfl) (Bf 61 rfl rfl (fun q=>AF rfl) (Bf 61 rfl rfl (fun q=>Cb (Bc rfl q) (Bc rfl q)) (Gt (BG rfl rfl (fun h=>h)) (Gm rfl (Bf 67 rfl rfl (fun q=>AF rfl) (Bf 67 rfl rfl (fun q=>Ai Lk rfl) ?_))))))
    refine Bf 67 rfl rfl (fun q=>by have q1:=q;(try simp at q1);exact AR Qw (Bc rfl q) (Bc rfl q) (by first | omega | exact hk.1 | exact hk.2) (by first | omega | exact hk.1 | exact hk.2)) ?_
    refine Bf 67 rfl rfl (fun q=>by have q1:=q;(try simp at q1);exact AG (Bc rfl q) A2 .m0 (Ing.Event.l10.comp (AU.ar (n:=6) Bu (by first | omega | exact hk))) rfl rfl) ?_
    refine Bf 67 rfl rfl (fun q=>Cb (Bc rfl q) rfl) (Gt (BG rfl rfl (fun h=>h)) (Gm rfl (Bf 74 rfl rfl (fun q=>AF rfl) ?_)))
    refine UZ 74 rfl (fun c5=>?_) (fun c5=>?_)
    ·
     have c5p:=kz c5
     refine Oe (t:=74) rfl (by first | rfl | exact eV rfl c5) rfl ck (.c (Bc rfl c5) .n) (.c (.t .h) (.c (.t .h) .n)) (L1 b V ev hvl) (fun v7 B hv=>?_)
     obtain⟨y8,rfl,y9,rfl⟩:=hv
     refine Dq (t:=74) rfl rfl rfl (AF rfl) ?_
     refine V6 (t:=74) rfl rfl rfl eQ (.c rfl (.c rfl .n)) (fun w hS=>Pm _ ev _ hvl w ((Kn.own .m2) w hS)) ?_
     refine Dq (t:=74) rfl rfl rfl (BT rfl) ?_
     refine Gt (DE rfl rfl) (Gn (.t12 0 3 4 9 10 12 13 18 51 52 53 80) ?_)
     refine Dr rfl (Wv hk.1 hk.2 hO hrm (hI13.at hk.1 hk.2) (hI14.at hk.1 hk.2) hc3 (MJ (d:=default) (xs:=ev) (i:=m.toNat) (by omega)) c5) ?_
     refine Aa ?_
     refine AB (.t11 0 3 4 9 10 12 13 18 51 52 53) ?_
     refine AV (AA (AJ ?_))
     refine Gt (Av rfl rfl (IntWalk.i64_in _ (by first | omega | exact hk.1 | exact hk.2))) ?_
     refine Gm rfl ?_
     refine AQ (AB (.t11 0 3 4 9 10 12 13 18 51 52 53) ?_)
     refine CE (.c .h (.c .h (.c (.t (.t .h)) (.c (.t (.t .h)) (.c (.t (.t .h)) (.c (.t (.t .h)) (.c (.t (.t .h)) (.c (.t (.t .h)) .n)))))))) ?_
     refine CZ ?_
     refine B2 (m+1) ?_ ?_ (.t11 53 0 3 4 9 10 12 13 18 51 52) (.refl _)
     · exact⟨by omega,by omega⟩
     · omega
    have c5p:=kz c5
    refine Ct (t:=74) rfl rfl rfl rfl ?_
    refine Ct (t:=74) rfl rfl rfl rfl ?_
    refine Ct (t:=74) rfl rfl rfl rfl ?_
    refine Ct (t:=74) rfl rfl rfl rfl ?_
    refine Gt (Da rfl rfl) (Gn (.t12 0 3 4 9 10 12 13 18 51 52 53 80) ?_)
    refine Dr rfl rfl ?_
    refine Aa ?_
    refine AB (.t11 0 3 4 9 10 12 13 18 51 52 53) ?_
    refine AV (AA (AJ ?_))
    refine Gt (Av rfl rfl (IntWalk.i64_in _ (by first | omega | exact hk.1 | exact hk.2))) ?_
    refine Gm rfl ?_
    refine AQ (AB (.t11 0 3 4 9 10 12 13 18 51 52 53) ?_)
    refine B2 (m+1) ?_ ?_ (.t11 53 0 3 4 9 10 12 13 18 51 52) (.cons _ (.refl _))
    · exact⟨by omega,by omega⟩
    · omega
   have c4p:=kz c4
   refine Bb (AW (AW (Ag ?_)))
   refine AB (.t8 0 3 4 9 10 12 13 18) ?_
   refine AA (AJ (Gm rfl (Gm rfl (Gm rfl (Gm rfl ?_)))))
   refine Gt (AR UA rfl rfl (by first | omega | exact hk.1 | exact hk.2) (by first | omega | exact hk.1 | exact hk.2)) ?_
   refine AT (AK ((AU.id (HL Bu).len (HL Bu).one).comp (AU.ar (n:=4) Bu (by first | omega | exact hk))) rfl rfl rfl C6 rfl (.t (.t (.t (.t .h))))) ?_
   refine Gt (AR UA rfl rfl (by first | omega | exact hk.1 | exact hk.2) (by first | omega | exact hk.1 | exact hk.2)) ?_
   refine AT (AK ((AU.id (HL Bu).len (HL Bu).one).comp (AU.ar (n:=4) Bu (by first | omega | exact hk))) rfl rfl rfl C6 rfl (.t (.t (.t .h)))) ?_
   refine AQ (AB (.t5 0 3 4 9 18) ?_)
   refine AV (AA (AJ ?_))
   refine Gt (Av rfl rfl (IntWalk.i64_in _ (by first | omega | exact hk.1 | exact hk.2))) ?_
   refine Gm rfl ?_
   refine AQ (AB (.t5 0 3 4 9 18) ?_)
   refine CE (.c (.t (.t (.t .h))) (.c (.t (.t (.t .h))) (.c (.t (.t (.t .h))) (.c .h (.c (.t (.t .h)) (.c (.t (.t .h)) (.c .h .n))))))) ?_
   refine CZ ?_
   refine Bt (k+1) _ _ ?_ ?_ (.t5 18 0 3 4 9) (.refl _)
   · exact⟨by omega,by omega,hI13.next hk.1 hk.2 rfl,hI14.next hk.1 hk.2 hrm⟩
   · omega
  have c3p:=kz c3
  refine Aa ?_
  refine AB (.t8 0 3 4 9 10 12 13 18) ?_
  refine AA (AJ (Gm rfl (Gm rfl (Gm rfl (Gm rfl ?_)))))
  refine Gt (AR UA rfl rfl (by first | omega | exact hk.1 | exact hk.2) (by first | omega | exact hk.1 | exact hk.2)) ?_
  refine AT (AK ((AU.id (HL Bu).len (HL Bu).one).comp (AU.ar (n:=4) Bu (by first | omega | exact hk))) rfl rfl rfl C6 rfl (.t (.t .h))) ?_
  refine Gt (AR UA rfl rfl (by first | omega | exact hk.1 | exact hk.2) (by first | omega | exact hk.1 | exact hk.2)) ?_
  refine AT (AK ((AU.id (HL Bu).len (HL Bu).one).comp (AU.ar (n:=4) Bu (by first | omega | exact hk))) rfl rfl rfl C6 rfl (.t .h)) ?_
  refine AQ (AB (.t5 0 3 4 9 18) ?_)
  refine AV (AA (AJ ?_))
  refine Gt (Av rfl rfl (IntWalk.i64_in _ (by first | omega | exact hk.1 | exact hk.2))) ?_
  refine Gm rfl ?_
  refine AQ (AB (.t5 0 3 4 9 18) ?_)
  refine CE (.c (.t .h) (.c (.t .h) (.c (.t .h) (.c .h (.c .h (.c .h (.c .h .n))))))) ?_
  refine CZ ?_
  refine Bt (k+1) _ _ ?_ ?_ (.t5 18 0 3 4 9) (.refl _)
  · exact⟨by omega,by omega,hI13.next hk.1 hk.2 rfl,hI14.next hk.1 hk.2 hrm⟩
  · omega
 have c1p:=kz c1
 obtain rfl:k=4:=by omega
 refine Bb (AW (AW (Ag ?_)))
 refine AB (.nil _) ?_
 refine AA (Gs (Ga rfl (AQ (AA (Ac ?_)))))
 refine AY rfl (.tmp rfl .n) ?_
 intro w1 hS
 have hS:=(hS.perm (Ax.perm (.c (.t (.t (.t .h))) (.c (.t (.t (.t (.t (.t .h))))) (.c .h (.c .h .n)))))).A1
 exact⟨_,⟨_,_,rfl,hI13,hI14,rfl⟩,hS⟩
theorem Pn  (w:World):Ed Tryz.prog 15 #[] w fun v w'=>v = .agg AH.new.enc.toArray∧CA w w':=by
 refine Ak [] [] Tryz.func15 rfl rfl rfl (St.start w []) ?_
 refine Gs ?_
 refine BD rfl LU rfl (fun b1=>?_)
 refine AQ (AA (Gs ?_))
 refine BD rfl LU rfl (fun b2=>?_)
 refine AQ (AA (CG ?_))
 refine Gt (Er Tryz.underlying23 C6 WN rfl (.cons (AU.arr (n:=6) (i:=0) Bu (by decide) (by decide)) rfl rfl rfl (.cons (AU.arr (n:=6) (i:=1) Bu (by decide) (by decide)) rfl rfl rfl (.cons (AU.arr (n:=6) (i:=2) Bu (by decide) (by decide)) rfl rfl rfl (.cons (AU.arr (n:=6) (i:=3) Bu (by decide) (by decide)) rfl rfl rfl (.cons (AU.arr (n:=6) (i:=4) Bu (by decide) (by decide)) rfl rfl rfl (.cons (AU.arr (n:=6) (i:=5) Bu (by decide) (by decide)) rfl rfl rfl .nil))))))) ?_
 refine Gt (Er Tryz.underlying24 KU bU rfl (.cons (AU.arr (n:=6) (i:=5) HN (by decide) (by decide)) rfl rfl rfl .nil)) ?_
 refine Gt (BC V7 Nt rfl (.cons Room.l0 rfl rfl rfl (.cons Room.l2 rfl rfl rfl (.cons Room.l3 rfl rfl rfl .nil)))) ?_
 refine Gt (Er Tryz.underlying23 C6 WN rfl (.cons (AU.arr (n:=6) (i:=0) Bu (by decide) (by decide)) rfl rfl rfl (.cons (AU.arr (n:=6) (i:=1) Bu (by decide) (by decide)) rfl rfl rfl (.cons (AU.arr (n:=6) (i:=2) Bu (by decide) (by decide)) rfl rfl rfl (.cons (AU.arr (n:=6) (i:=3) Bu (by decide) (by decide)) rfl rfl rfl (.cons (AU.arr (n:=6) (i:=4) Bu (by decide) (by decide)) rfl rfl rfl (.cons (AU.arr (n:=6) (i:=5) Bu (by decide) (by decide)) rfl rfl rfl .nil))))))) ?_
 refine Gt (BC V7 Nt rfl (.cons Room.l0 rfl rfl rfl (.cons Room.l2 rfl rfl rfl .nil))) ?_
 refine Gt (Er Tryz.underlying23 C6 WN rfl (.cons (AU.arr (n:=6) (i:=0) Bu (by decide) (by decide)) rfl rfl rfl (.cons (AU.arr (n:=6) (i:=1) Bu (by decide) (by decide)) rfl rfl rfl (.cons (AU.arr (n:=6) (i:=2) Bu (by decide) (by decide)) rfl rfl rfl (.cons (AU.arr (n:=6) (i:=3) Bu (by decide) (by decide)) rfl rfl rfl (.cons (AU.arr (n:=6) (i:=4) Bu (by decide) (by decide)) rfl rfl rfl (.cons (AU.arr (n:=6) (i:=5) Bu (by decide) (by decide)) rfl rfl rfl .nil))))))) ?_
 refine Gt (BC V7 Nt rfl (.cons Room.l0 rfl rfl rfl (.cons Room.l2 rfl rfl rfl (.cons Room.l1 rfl rfl rfl .nil)))) ?_
 refine Gt (Er Tryz.underlying23 C6 WN rfl (.cons (AU.arr (n:=6) (i:=0) Bu (by decide) (by decide)) rfl rfl rfl (.cons (AU.arr (n:=6) (i:=1) Bu (by decide) (by decide)) rfl rfl rfl (.cons (AU.arr (n:=6) (i:=2) Bu (by decide) (by decide)) rfl rfl rfl (.cons (AU.arr (n:=6) (i:=3) Bu (by decide) (by decide)) rfl rfl rfl (.cons (AU.arr (n:=6) (i:=4) Bu (by decide) (by decide)) rfl rfl rfl (.cons (AU.arr (n:=6) (i:=5) Bu (by decide) (by decide)) rfl rfl rfl .nil))))))) ?_
 refine Gt (BC V7 Nt rfl (.cons Room.l0 rfl rfl rfl (.cons Room.l2 rfl rfl rfl (.cons Room.l1 rfl rfl rfl .nil)))) ?_
 refine Gt (Er Tryz.underlying23 C6 WN rfl (.cons (AU.arr (n:=6) (i:=0) Bu (by decide) (by decide)) rfl rfl rfl (.cons (AU.arr (n:=6) (i:=1) Bu (by decide) (by decide)) rfl rfl rfl (.cons (AU.arr (n:=6) (i:=2) Bu (by decide) (by decide)) rfl rfl rfl (.cons (AU.arr (n:=6) (i:=3) Bu (by decide) (by decide)) rfl rfl rfl (.cons (AU.arr (n:=6) (i:=4) Bu (by decide) (by decide)) rfl rfl rfl (.cons (AU.arr (n:=6) (i:=5) Bu (by decide) (by decide)) rfl rfl rfl .nil))))))) ?_
 refine Gt (Er Tryz.underlying24 KU bU rfl (.cons (AU.arr (n:=6) (i:=2) HN (by decide) (by decide)) rfl rfl rfl .nil)) ?_
 refine Gt (BC V7 Nt rfl (.cons Room.l0 rfl rfl rfl (.cons Room.l2 rfl rfl rfl (.cons Room.l3 rfl rfl rfl (.cons Room.l1 rfl rfl rfl .nil))))) ?_
 refine Gt (Er Tryz.underlying23 C6 WN rfl (.cons (AU.arr (n:=6) (i:=0) Bu (by decide) (by decide)) rfl rfl rfl (.cons (AU.arr (n:=6) (i:=1) Bu (by decide) (by decide)) rfl rfl rfl (.cons (AU.arr (n:=6) (i:=2) Bu (by decide) (by decide)) rfl rfl rfl (.cons (AU.arr (n:=6) (i:=3) Bu (by decide) (by decide)) rfl rfl rfl (.cons (AU.arr (n:=6) (i:=4) Bu (by decide) (by decide)) rfl rfl rfl (.cons (AU.arr (n:=6) (i:=5) Bu (by decide) (by decide)) rfl rfl rfl .nil))))))) ?_
 refine Gt (BC V7 Nt rfl (.cons Room.l0 rfl rfl rfl (.cons Room.l2 rfl rfl rfl .nil))) ?_
 refine Wa (cs:=Bx (n:=6) Room.enc (Vector.replicate 6 default)) (cs':=Bx (n:=6) Room.enc AH.To) rfl Tryz.underlying95 RS Nt (by decide) (by decide) (by kernel_rfl) (.cons (AU.arr (n:=6) (i:=0) Room.fl (by decide) (by decide)) rfl rfl rfl (.cons (AU.arr (n:=6) (i:=1) Room.fl (by decide) (by decide)) rfl rfl rfl (.cons (AU.arr (n:=6) (i:=2) Room.fl (by decide) (by decide)) rfl rfl rfl (.cons (AU.arr (n:=6) (i:=3) Room.fl (by decide) (by decide)) rfl rfl rfl (.cons (AU.arr (n:=6) (i:=4) Room.fl (by decide) (by decide)) rfl rfl rfl (.cons (AU.arr (n:=6) (i:=5) Room.fl (by decide) (by decide)) rfl rfl rfl .nil)))))) rfl (fun b3=>?_)
 refine Gt (Ar rfl Tryz.underlying95 rfl) (Gm rfl (Gn (.t5 0 1 20 21 22) (Ae ?_)))
 refine Bn (.t5 22 0 1 20 21) ?_
 refine Ba (.t .h) ?_
 refine CY (fun(k:Int)=>0≤k∧k≤6) (fun(k:Int)=>(6 - k).toNat) (fun(k:Int)=> [(22, .int .i64 k)]) (fun(k:Int)=> [Ab.box b2 35 (AH.enc (AH.Tl k.toNat))]) (0) ?_ rfl rfl (fun k hI1=>?_)
 · exact⟨Int.le_refl _,by omega⟩
 obtain⟨hI11,hI12⟩:=hI1
 refine Gs (Gt (A7 rfl rfl) (AQ (AA (Ao ?_))))
 refine Gc (fun c1=>?_) (fun c1=>?_)
 ·
  have c1p:=kz c1
  dsimp only at c1p
  refine Aa ?_
  refine AB (.t5 0 1 20 21 22) ?_
  refine AA (Ao (Ae (Gs (Gm rfl ?_))))
  refine Gt (Bp dn (by decide) (Kn.own .m1) rfl rfl (by omega) (by dsimp only;omega)) ?_
  refine Gt (Ku rfl O7 (by decide) Room.fl (Kn.own .m1) (by simp;omega)) ?_
  refine BD rfl Nt rfl (fun b4=>?_)
  refine Ga rfl ?_
  refine AT (AK (AU.id Room.fl.len Room.fl.one) rfl rfl rfl RS rfl .h) ?_
  refine Gn (.t7 0 1 2 3 20 21 22) (AJ (Gm rfl (Gt (AZ rfl O7 .m0 (AU.id Room.fl.len Room.fl.one) rfl) (Gt (Ai Gz rfl) ?_))))
  refine Gt (AR Oj rfl rfl (by omega) (by omega)) ?_
  refine AT (AK (AH.l0.comp (AU.ar (n:=6) Room.fl (by omega))) rfl rfl rfl RS rfl (.t .h)) ?_
  refine AQ (AB (.t5 0 1 20 21 22) ?_)
  refine AV (AA (AJ ?_))
  refine Gt (Av rfl rfl (IntWalk.i64_in _ (by omega))) ?_
  refine Gm rfl ?_
  refine AQ (AB (.t5 0 1 20 21 22) ?_)
  refine B2 (k+1) ?_ ?_ (.t5 22 0 1 20 21) (by rw [AH.Vp (by omega)];exact(.cons _ (.refl _)))
  · exact⟨by omega,by omega⟩
  · omega
 have c1p:=kz c1
 dsimp only at c1p
 obtain rfl:k=6:=by omega
 refine Bb (AW (AW (Ag ?_)))
 refine AB (.t2 0 1) ?_
 refine AA (CG (Gt (BC Qd KY rfl (.cons Al.l0 rfl rfl rfl (.cons Al.l1 rfl rfl rfl .nil))) (Gt (BC Qd KY rfl (.cons Al.l0 rfl rfl rfl (.cons Al.l1 rfl rfl rfl (.cons Al.l3 rfl rfl rfl .nil)))) (Gt (BC Qd KY rfl (.cons Al.l0 rfl rfl rfl (.cons Al.l1 rfl rfl rfl .nil))) (Gt (BC Qd KY rfl (.cons Al.l0 rfl rfl rfl (.cons Al.l1 rfl rfl rfl (.cons Al.l3 rfl rfl rfl .nil)))) (Gt (BC Qd KY rfl (.cons Al.l0 rfl rfl rfl (.cons Al.l2 rfl rfl rfl (.cons Al.l3 rfl rfl rfl .nil)))) (Gt (BC Qd KY rfl (.cons Al.l0 rfl rfl rfl (.cons Al.l3 rfl rfl rfl .nil))) ?_)))))))
 refine Gt (BC Qd KY rfl (.cons Al.l0 rfl rfl rfl .nil)) (Gt (BC Qd KY rfl (.cons Al.l0 rfl rfl rfl (.cons Al.l1 rfl rfl rfl (.cons Al.l4 rfl rfl rfl .nil)))) (Gt (BC Qd KY rfl (.cons Al.l0 rfl rfl rfl (.cons Al.l2 rfl rfl rfl (.cons Al.l3 rfl rfl rfl .nil)))) ?_))
 refine Wa (cs:=Bx (n:=9) Al.enc (Vector.replicate 9 default)) (cs':=Bx (n:=9) Al.enc AH.RG) rfl Tryz.underlying96 NL KY (by decide) (by decide) (by kernel_rfl) (.cons (AU.arr (n:=9) (i:=0) Al.fl (by decide) (by decide)) rfl rfl rfl (.cons (AU.arr (n:=9) (i:=1) Al.fl (by decide) (by decide)) rfl rfl rfl (.cons (AU.arr (n:=9) (i:=2) Al.fl (by decide) (by decide)) rfl rfl rfl (.cons (AU.arr (n:=9) (i:=3) Al.fl (by decide) (by decide)) rfl rfl rfl (.cons (AU.arr (n:=9) (i:=4) Al.fl (by decide) (by decide)) rfl rfl rfl (.cons (AU.arr (n:=9) (i:=5) Al.fl (by decide) (by decide)) rfl rfl rfl (.cons (AU.arr (n:=9) (i:=6) Al.fl (by decide) (by decide)) rfl rfl rfl (.cons (AU.arr (n:=9) (i:=7) Al.fl (by decide) (by decide)) rfl rfl rfl (.cons (AU.arr (n:=9) (i:=8) Al.fl (by decide) (by decide)) rfl rfl rfl .nil))))))))) rfl (fun b5=>?_)
 refine Gt (Ar rfl Tryz.underlying96 rfl) (Gm rfl (Gn (.t5 0 1 41 42 43) (Ae ?_)))
 refine Bn (.t5 43 0 1 41 42) ?_
 refine Ba (.t .h) ?_
 refine CY (fun(k:Int)=>0≤k∧k≤9) (fun(k:Int)=>(9 - k).toNat) (fun(k:Int)=> [(43, .int .i64 k)]) (fun(k:Int)=> [Ab.box b2 35 (AH.enc (AH.Hx k.toNat))]) (0) ?_ rfl rfl (fun k hI2=>?_)
 · exact⟨Int.le_refl _,by omega⟩
 obtain⟨hI21,hI22⟩:=hI2
 refine Gs (Gt (A7 rfl rfl) (AQ (AA (Ao ?_))))
 refine Gc (fun c2=>?_) (fun c2=>?_)
 ·
  have c2p:=kz c2
  dsimp only at c2p
  refine Aa ?_
  refine AB (.t5 0 1 41 42 43) ?_
  refine AA (Ao (Ae (Gs (Gm rfl ?_))))
  refine Gt (Bp eO (by decide) (Kn.own .m1) rfl rfl (by omega) (by dsimp only;omega)) ?_
  refine Gt (Ku rfl M5 (by decide) Al.fl (Kn.own .m1) (by simp;omega)) ?_
  refine BD rfl KY rfl (fun b6=>?_)
  refine Ga rfl ?_
  refine AT (AK (AU.id Al.fl.len Al.fl.one) rfl rfl rfl NL rfl .h) ?_
  refine Gn (.t7 0 1 4 5 41 42 43) (AJ (Gm rfl (Gt (AZ rfl M5 .m0 (AU.id Al.fl.len Al.fl.one) rfl) (Gt (Ai Cz rfl) ?_))))
  refine Gt (AR F7 rfl rfl (by omega) (by omega)) ?_
  refine AT (AK (AH.l1.comp (AU.ar (n:=9) Al.fl (by omega))) rfl rfl rfl NL rfl (.t .h)) ?_
  refine AQ (AB (.t5 0 1 41 42 43) ?_)
  refine AV (AA (AJ ?_))
  refine Gt (Av rfl rfl (IntWalk.i64_in _ (by omega))) ?_
  refine Gm rfl ?_
  refine AQ (AB (.t5 0 1 41 42 43) ?_)
  refine B2 (k+1) ?_ ?_ (.t5 43 0 1 41 42) (by rw [AH.WE (by omega)];exact(.cons _ (.refl _)))
  · exact⟨by omega,by omega⟩
  · omega
 have c2p:=kz c2
 dsimp only at c2p
 obtain rfl:k=9:=by omega
 refine Bb (AW (AW (Ag ?_)))
 refine AB (.t2 0 1) ?_
 refine AA (Gs (Gt (BC Wj Lu rfl (.cons Aj.l0 rfl rfl rfl (.cons Aj.l1 rfl rfl rfl (.cons Aj.l2 rfl rfl rfl (.cons Aj.l4 rfl rfl rfl .nil))))) (Gt (Ai Bo rfl) ?_)))
 refine Gt (AR C8 rfl rfl (by decide) (by decide)) ?_
 refine AT (AK (AH.l2.comp (AU.arr (n:=6) Aj.fl (by decide) (by decide))) rfl rfl rfl KX rfl .h) ?_
 refine Gn (.t2 0 1) (Gs (Gt (BC Wj Lu rfl (.cons Aj.l0 rfl rfl rfl (.cons Aj.l1 rfl rfl rfl (.cons Aj.l3 rfl rfl rfl (.cons Aj.l4 rfl rfl rfl .nil))))) (Gt (Ai Bo rfl) ?_)))
 refine Gt (AR C8 rfl rfl (by decide) (by decide)) ?_
 refine AT (AK (AH.l2.comp (AU.arr (n:=6) Aj.fl (by decide) (by decide))) rfl rfl rfl KX rfl .h) ?_
 refine Gn (.t2 0 1) (Gs (Gt (AZ rfl BW .m0 (AU.id AH.fl.len AH.fl.one) rfl) ?_))
 refine AT (AK (AU.id AH.fl.len AH.fl.one) rfl rfl rfl Dz rfl (.t (.t (.t .h)))) ?_
 refine Gn (.t1 0) (Ac ?_)
 refine AY rfl (.cell rfl .m3 (.inl ⟨(by rw [AH.fl.len];exact BW),rfl⟩) .n) ?_
 intro w1 hS;refine⟨?_,hS.Am⟩;rfl
theorem Jv  : JQ Tryz.prog 37 #[] [] (fun v B=>∃(b:Nat) (V:AM) (ls:Vector BJ 4) (ev:List Ing.Event),v = .pointer (some ⟨b,0,none⟩)∧A5 V ls ev=AI.new∧B = [Ab.box b 101 (AM.enc V),Ab.EB (CR 9 (AM.Au V) ls),Ab.own (AM.last V) 56 16 ((ev).flatMap Ing.Event.enc)]):=by
 intro w hS0
 refine Ak _ _ Tryz.func37 rfl rfl rfl (hS0) ?_
 refine Gs (Ga rfl (Gn (.nil _) (Gs ?_)))
 refine BA rfl dS .n (fun w hS=>Pn w) ?_
 refine Gt (BC bJ cN rfl (.cons AM.l0 rfl rfl rfl .nil)) ?_
 refine B6 rfl rfl rfl (fun b1=>?_)
 refine Ga rfl (Gn (.t1 0) (Ac ?_))
 refine AY rfl (.tmp rfl .n) ?_
 intro w1 hS
 have hS:=(hS.perm (Ax.perm (.c .h .n))).A1
 have h2:=(St.Yw hS (l:=CR 9 NT NQ) (fun r hr=>YA 9 w1 r hr)).Cs 56 16
 refine⟨_,⟨b1,⟨AH.new,NT,0,⟨none,0,0⟩⟩,NQ,[],rfl,rfl,rfl⟩,h2.perm (Y2 _ _ _)⟩
theorem B0 {t0:Nat}(h:Hd)(xs:List Ap)(hb:xs.length≤17592186044416):FU Tryz.prog 69 #[h.val] [] (fun w=>Rd w h t0 1 (xs.flatMap A8)) (fun v B=>∃ h':Hd,v=h'.val∧h'.len=xs.length∧B = [Ab.own h' 9 1 (xs.flatMap A8)]):=by
 intro w hS0 hH
 have r0:=hH
 have hl:=r0.La DX (by decide)
 refine Ak _ _ Tryz.func69 rfl rfl rfl (hS0) ?_
 refine Gs (Ga rfl (Gn (.t1 0) (CG (Gm rfl (Gt (TQ Tryz.underlying52 rfl) (Gn (.t2 0 4) ?_))))))
 refine Gc (fun c1=>?_) (fun c1=>?_)
 ·
  refine Gs (Ga rfl (Gn (.t1 2) (Ac (AD ?_))))
  refine AY rfl (.tmp rfl .n) ?_
  intro w1 hS
  have hS:=(hS.perm (Ax.perm .n)).A1
  have hx:xs = []:=by
    rcases xs with _ | ⟨x,xs⟩
    · rfl
    · exfalso
      obtain⟨b,o,C,fz,e1,_⟩:=r0.2 (by simp [A8])
      rw [e1] at c1
      cases c1
  subst hx
  exact⟨_,⟨⟨none,0,0⟩,rfl,rfl,rfl⟩,hS.Cs _ _⟩
 have c1p:=kz c1
 refine Aa ?_
 refine AB (.t1 0) ?_
 refine AA (Gs ?_)
 refine Ya A8 rfl Tryz.underlying52 E5 (fun b1=>?_)
 refine Gm rfl ?_
 refine K6 (e:=A8) rfl Tryz.underlying52 E5 Sy rfl YZ (by decide) rfl rfl (fun w hS=>Src.D7 Tryz.underlying52 ((Kn.IT r0) w hS)) rfl rfl (by omega) (fun _=> .h) (fun h1 h1l=>?_)
 refine Ga rfl (Gn (.t1 2) (Ac ?_))
 refine AY rfl (.tmp rfl .n) ?_
 intro w1 hS
 have hS:=(hS.perm (Ax.perm (.c .h .n))).A1
 exact⟨_,⟨_,rfl,by omega,rfl⟩,hS⟩
theorem Ol {t0:Nat}(l:BM)(qs:List Ap)(hb:qs.length≤17592186044416):FU Tryz.prog 91 #[.agg l.enc.toArray] [] (fun w=>Rd w l.queue t0 1 (qs.flatMap A8)∧l.queue.len≤l.queue.cap) (fun v B=>(qs = []∧v = .tuple #[.agg l.enc.toArray,BU [], .bool false]∧B = [])∨(∃ q r,qs=q :: r∧∃ h':Hd,v = .tuple #[.agg (BM.enc ⟨l.now,l.C0,l.ret,h'⟩).toArray,BU q, .bool true]∧h'.len=r.length∧B = [Ab.own h' 9 1 (r.flatMap A8)])):=by
 intro w hS0 hH
 obtain⟨r0,k0⟩:=hH
 have hl0:=r0.La DX (by decide)
 refine Ak _ _ Tryz.func91 rfl rfl rfl (hS0) ?_
 refine Gs ?_
 refine B6 rfl rfl rfl (fun b1=>?_)
 refine BD rfl cC rfl (fun b2=>?_)
 refine Ga rfl (Ga rfl (Gn (.t2 1 2) (CG (Gt (Ai F5 rfl) (Gt (AG rfl F3 .m1 BM.l3 rfl rfl) (Gt (Ar rfl Tryz.underlying52 rfl) (Gt (Af rfl rfl) ?_)))))))
 refine Gn (.t3 1 2 9) ?_
 refine Gc (fun c1=>?_) (fun c1=>?_)
 ·
  have c1p:=kz c1
  have hq:qs = []:=List.length_eq_zero_iff.1 (by omega)
  refine Gs (Gt (AZ rfl Jc .m1 (AU.id BM.fl.len BM.fl.one) rfl) ?_)
  refine AT (AK (AU.id BM.fl.len BM.fl.one) rfl rfl rfl O3 rfl .h) ?_
  refine Ga rfl (Ga rfl (Gn (.t3 2 3 4) (Ac (AD ?_))))
  refine AY rfl (.cell rfl .m0 (.inl ⟨(by rw [BM.fl.len];exact Jc),rfl⟩) (.tmp rfl (.tmp rfl .n))) ?_
  intro w1 hS
  have hS:=(hS.perm (Ax.perm .n)).A1
  exact⟨_, .inl ⟨hq,rfl,rfl⟩,hS⟩
 have c1p:=kz c1
 obtain⟨q,r,rfl⟩:=Bi.UN (qs:=qs) (by omega)
 rw [List.length_cons] at hl0 hb
 refine Aa ?_
 refine AB (.t2 1 2) ?_
 refine AA (Gs (Gt (Ai F5 rfl) (Gt (AG rfl F3 .m1 BM.l3 rfl rfl) ?_)))
 refine Gt (Bp JR (by decide) (Kn.IT r0) rfl rfl (by omega) (by omega)) ?_
 refine Gt (Dj rfl CX (Kn.IT r0) (by simp)) ?_
 refine Ga rfl (Gn (.t3 1 2 5) (Gs (Gt (Ai F5 rfl) (Gt (AG rfl F3 .m1 BM.l3 rfl rfl) ?_))))
 refine Gt (Sp Tryz.underlying52 E5 rfl rfl (by decide) (by omega)) ?_
 refine BF rfl WV (.c rfl .n) .n (B0 _ r (by omega)) (fun w hS=>by have h:=(Kn.cut (l:=1) (r:=l.queue.len) DX (Kn.IT r0) (by omega) (Nat.le_refl _) (VX.of k0)) w hS;rw [show(((q :: r).take l.queue.len).drop 1)=r from by rw [List.take_of_length_le (by simp;omega)];rfl] at h;exact h) (fun v2 B hv=>?_)
 obtain⟨y3,rfl,y4,rfl⟩:=hv
 refine Gt (Ai F5 rfl) ?_
 refine AT (AK BM.l3 rfl rfl rfl OZ rfl (.t (.t .h))) ?_
 refine Gn (.t3 1 2 5) (Gs (Gt (AZ rfl Jc .m2 (AU.id BM.fl.len BM.fl.one) rfl) (Gm rfl ?_)))
 refine AT (AK (AU.id BM.fl.len BM.fl.one) rfl rfl rfl O3 rfl (.t .h)) ?_
 refine Ga rfl (Ga rfl (Gn (.t3 2 3 4) (Ac ?_)))
 refine AY rfl (.cell rfl .m1 (.inl ⟨(by rw [BM.fl.len];exact Jc),rfl⟩) (.tmp rfl (.tmp rfl .n))) ?_
 intro w1 hS
 have hS:=(hS.perm (Ax.perm (.c .h .n))).A1
 exact⟨_, .inr ⟨q,r,rfl,_,rfl,by assumption,rfl⟩,hS⟩
theorem ND (p:Az)(w:World):Ed Tryz.prog 92 #[.agg p.enc.toArray] w fun v w'=>v = .agg (Az.enc ⟨p.wait,0,false,p.ring,p.cut⟩).toArray∧CA w w':=by
 refine Ak [] [] Tryz.func92 rfl rfl rfl (St.start w []) ?_
 refine Gs ?_
 refine B6 rfl rfl rfl (fun b1=>?_)
 refine BD rfl W9 rfl (fun b2=>?_)
 refine Gn (.t2 1 2) (Gs (Gt (Ai Qn rfl) ?_))
 refine AT (AK Az.l2 rfl rfl rfl KU rfl (.t .h)) ?_
 refine Gt (Ai Mi rfl) ?_
 refine AT (AK Az.l1 rfl rfl rfl C6 rfl (.t .h)) ?_
 refine Gn (.t2 1 2) (Gs (Gt (AZ rfl C5 .m1 (AU.id Az.fl.len Az.fl.one) rfl) ?_))
 refine AT (AK (AU.id Az.fl.len Az.fl.one) rfl rfl rfl Fz rfl .h) ?_
 refine Gn (.t1 2) (Ac ?_)
 refine AY rfl (.cell rfl .m0 (.inl ⟨(by rw [Az.fl.len];exact C5),rfl⟩) .n) ?_
 intro w1 hS;refine⟨?_,hS.Am⟩;rfl
theorem Hk (s:Ap)(c:UInt8)(hs:s.length≤10000000)(w:World):Ed Tryz.prog 116 #[BU s, .int .u8 (c.toNat:Int)] w fun v w'=>v=BU (Words.Sv c s)∧CA w w':=by
 refine Ak [] [] Tryz.func116 rfl rfl rfl (St.start w []) ?_
 refine Gs (Ga rfl (Gn (.t2 0 1) (Ao (Ae ?_))))
 refine Bn (.t2 0 1) ?_
 refine CY (fun(r:Ap)=>Words.Sv c s=Words.Sv c r∧r.length≤s.length) (fun(r:Ap)=>r.length) (fun(r:Ap)=> [(0,BU r)]) (fun(r:Ap)=> []) (s) ?_ rfl rfl (fun r hI1=>?_)
 · exact⟨rfl,Nat.le_refl _⟩
 obtain⟨hI11,hI12⟩:=hI1
 refine CG (Gm rfl (Gt (BI rfl Tryz.underlying9 rfl) (Gt (Cn rfl rfl) (Gm rfl (Bf 8 rfl rfl (fun q=>AF rfl) (Bf 8 rfl rfl (fun q=>AF rfl) (Bf 8 rfl rfl (fun q=>BI rfl Tryz.underlying9 (Bc rfl q)) ?_)))))))
 refine Bf 8 rfl rfl (fun q=>by have q1:=q;(try simp at q1);exact FR (Bc rfl q) rfl (IntWalk.i64_in _ (by omega))) ?_
 refine Bf 8 rfl rfl (fun q=>by have q1:=q;(try simp at q1);exact Bl Tryz.underlying9 (Bc rfl q) (Bc rfl q) (by omega) (by omega)) ?_
 refine Bf 8 rfl rfl (fun q=>AF rfl) (Bf 8 rfl rfl (fun q=>Af (Bc rfl q) (Bc rfl q)) (Gt (BG rfl rfl (fun h=>h)) (Gn (.t3 0 1 16) ?_)))
 refine Gc (fun c1=>?_) (fun c1=>?_)
 ·
  have c1p:=kz c1
  have hlt:0 < r.length:=by simp at c1;omega
  refine Aa ?_
  refine AB (.t2 0 1) ?_
  refine AA (Ae (AJ (Gm rfl (Gm rfl (Gt (BI rfl Tryz.underlying9 rfl) ?_)))))
  refine Gt (FR rfl rfl (IntWalk.i64_in _ (by omega))) ?_
  refine Gt (Ic Tryz.underlying9 rfl rfl (by omega) (by omega)) ?_
  refine Ga rfl ?_
  refine AQ (AB (.t2 0 1) ?_)
  refine AV ?_
  refine B2 _ ?_ ?_ (.t2 0 1) (.refl _)
  · exact⟨by rw [hI11,Words.cg c1]<;>rfl,by first | (simp;done) | (simp;omega)⟩
  · first | (simp;done) | (simp;omega)
 refine Bb (AW (AW (Ag ?_)))
 refine AB (.t1 0) ?_
 refine AA (Gs (Gm rfl (Ga rfl (Gn (.t1 4) (Ac ?_)))))
 refine AY rfl (.tmp rfl .n) ?_
 intro w1 hS;refine⟨?_,hS.Am⟩;rw [hI11,Words.bY c1];rfl
theorem E3 (s:Ap)(c:UInt8)(hs:s.length≤10000000)(w:World):Ed Tryz.prog 115 #[BU s, .int .u8 (c.toNat:Int)] w fun v w'=>v=BU (Words.P7 c s)∧CA w w':=by
 refine Ak [] [] Tryz.func115 rfl rfl rfl (St.start w []) ?_
 refine Gs (Ga rfl (Gn (.t2 0 1) (Ao (Ae ?_))))
 refine Bn (.t2 0 1) ?_
 refine CY (fun(r:Ap)=>Words.P7 c s=Words.P7 c r∧r.length≤s.length) (fun(r:Ap)=>r.length) (fun(r:Ap)=> [(0,BU r)]) (fun(r:Ap)=> []) (s) ?_ rfl rfl (fun r hI1=>?_)
 · exact⟨rfl,Nat.le_refl _⟩
 obtain⟨hI11,hI12⟩:=hI1
 refine CG (Gm rfl (Gt (BI rfl Tryz.underlying9 rfl) (Gt (Cn rfl rfl) (Gm rfl (Bf 8 rfl rfl (fun q=>AF rfl) ?_)))))
 refine Bf 8 rfl rfl (fun q=>by have q1:=q;(try simp at q1);exact Bl Tryz.underlying9 (Bc rfl q) rfl (by decide) (by omega)) ?_
 refine Bf 8 rfl rfl (fun q=>AF rfl) (Bf 8 rfl rfl (fun q=>Af (Bc rfl q) (Bc rfl q)) (Gt (BG rfl rfl (fun h=>h)) (Gn (.t3 0 1 13) ?_)))
 refine Gc (fun c1=>?_) (fun c1=>?_)
 ·
  have c1p:=kz c1
  have hlt:0 < r.length:=by simp at c1;omega
  refine Aa ?_
  refine AB (.t2 0 1) ?_
  refine AA (Ae (AJ (Gm rfl ?_)))
  refine Gt (GY Tryz.underlying9 rfl rfl (by decide) (by omega)) ?_
  refine Ga rfl ?_
  refine AQ (AB (.t2 0 1) ?_)
  refine AV ?_
  refine B2 _ ?_ ?_ (.t2 0 1) (.refl _)
  · exact⟨by rw [hI11,Words.cB c1]<;>rfl,by first | (simp;done) | (simp;omega)⟩
  · first | (simp;done) | (simp;omega)
 refine Bb (AW (AW (Ag ?_)))
 refine AB (.t1 0) ?_
 refine AA (Gs (Gm rfl (Ga rfl (Gn (.t1 4) (Ac ?_)))))
 refine AY rfl (.tmp rfl .n) ?_
 intro w1 hS;refine⟨?_,hS.Am⟩;rw [hI11,Words.dA c1];rfl
theorem H3 (s:Ap)(hs:s.length≤10000000)(w:World):Ed Tryz.prog 94 #[BU s,BU [32]] w fun v w'=>v=BU (Words.P7 32 (Words.Sv 32 s))∧CA w w':=by
 refine Ak [] [] Tryz.func94 rfl rfl rfl (St.start w []) ?_
 refine Gs (Ga rfl (Gn (.t2 0 1) (CG (Gm rfl (Gt (Bw rfl rfl) (Gm rfl (Bg 9 rfl rfl (fun q=>AF rfl) ?_)))))))
 refine Bg 9 rfl rfl (fun q=>Bw (cF rfl q) rfl) ?_
 refine Gt (BS rfl rfl (fun h=>by rw [h];rfl)) ?_
 refine Gn (.t3 0 1 12) ?_
 refine Gc (fun c1=>?_) (fun c1=>?_)
 ·
  refine Gs (Gm rfl (Ga rfl (Gn (.t1 4) (Ac (AD ?_)))))
  refine AY rfl (.tmp rfl .n) ?_
  intro w1 hS;refine⟨?_,hS.Am⟩;have e:s = []:=by simpa using c1
  subst e;rfl
 have c1p:=kz c1
 refine Aa ?_
 refine AB (.t2 0 1) ?_
 refine AA (CG (Gm rfl (Gt (BI rfl Tryz.underlying9 rfl) (Gt (Af rfl rfl) (Gm rfl (Bf 17 rfl rfl (fun q=>AF rfl) ?_))))))
 refine Bf 17 rfl rfl (fun q=>by have q1:=q;(try simp at q1);exact Bl Tryz.underlying9 (Bc rfl q) rfl (by decide) (by(try simp only [List.length_cons,List.length_nil]);omega)) ?_
 refine Bf 17 rfl rfl (fun q=>A7 (Bc rfl q) rfl) (Gt (BG rfl rfl (fun h=>h)) (Gn (.t3 0 1 21) ?_))
 refine G1 rfl rfl ?_
 refine Ao ?_
 refine BE (N:=8) [0,0,2,7,0,16,63,127] mix (by kernel_rfl) rfl ?_
 refine Pf 0 rfl (AF rfl) (Pf 1 rfl (AF rfl) ?_)
 refine Pf 2 rfl (Bl Tryz.underlying9 rfl rfl (by decide) (by(try simp only [List.length_cons,List.length_nil]);omega)) ?_
 refine BX 3 rfl rfl (by kernel_rfl) (MD (LJ (D9 cc (.c rfl (.c rfl .n)) (fun w hS=>Hk _ 32 hs w)))) ?_
 refine Pf 4 rfl (AF rfl) ?_
 refine Pf 5 rfl (Bl Tryz.underlying9 rfl rfl (by decide) (by(try simp only [List.length_cons,List.length_nil]);omega)) ?_
 refine BX 6 rfl rfl (by kernel_rfl) (MD (LJ (D9 ZR (.c rfl (.c rfl .n)) (fun w hS=>E3 _ 32 (by have:=Words.Qj 32 s;omega) w)))) ?_
 refine Pf 7 rfl (A0 rfl) ?_
 refine A4 (by kernel_rfl) ?_
 refine AB (.t1 4) ?_
 refine AA (Ac (AD ?_))
 refine AY rfl (.tmp rfl .n) ?_
 intro w1 hS;refine⟨?_,hS.Am⟩;rfl
theorem KZ (X:AH)(i:Int)(h0:0≤i)(h9:i < 9)(w:World):Ed Tryz.prog 68 #[.agg X.enc.toArray, .int .i64 i] w fun v w'=>v = .bool (X.Cj i)∧CA w w':=by
 refine Ak [] [] Tryz.func68 rfl rfl rfl (St.start w []) ?_
 refine Gs ?_
 refine B6 rfl rfl rfl (fun b1=>?_)
 refine Ga rfl (Gn (.t2 1 2) (Gs (Gm rfl (Gt (Ai Cz rfl) ?_))))
 refine Gt (AR F7 rfl rfl (by omega) (by omega)) ?_
 refine Gt (AZ rfl M5 .m0 (AH.l1.comp (AU.ar (n:=9) Al.fl (by omega))) rfl) ?_
 refine BD rfl KY rfl (fun b2=>?_)
 refine AT (AK (AU.id Al.fl.len Al.fl.one) rfl rfl rfl NL rfl .h) ?_
 refine Gn (.t2 2 5) (CG (Gt (Ai G3 rfl) (Gt (AG rfl A2 .m0 Al.l1 rfl rfl) (Gt (A7 rfl rfl) (Gm rfl (Bg 15 rfl rfl (fun q=>Ai G3 rfl) (Bg 15 rfl rfl (fun q=>AG (cF rfl q) A2 .m0 Al.l1 rfl rfl) ?_)))))))
 refine Bg 15 rfl rfl (fun q=>Cn (cF rfl q) rfl) ?_
 refine Gt (BS rfl rfl (fun h=>by rw [h];rfl)) ?_
 refine Gm rfl (Bg 20 rfl rfl (fun q=>Ai G3 rfl) (Bg 20 rfl rfl (fun q=>AG (cF rfl q) A2 .m0 Al.l1 rfl rfl) (Bg 20 rfl rfl (fun q=>Af (cF rfl q) rfl) (Bg 20 rfl rfl (fun q=>AF (cF rfl q)) ?_))))
 refine DR (t:=24) rfl rfl rfl (fun qc q=>Ai GF rfl) ?_
 refine DR (t:=24) rfl rfl rfl (fun qc q=>AG (Bc rfl (by rw [qc,q];rfl)) Dn .m0 Al.l4 rfl rfl) ?_
 refine Bg 20 rfl rfl (fun q=>BG (cF rfl q) rfl (fun h=>by rw [q,h];rfl)) ?_
 refine Gt (BS rfl rfl (fun h=>by rw [h];rfl)) ?_
 refine Gm rfl (Bg 29 rfl rfl (fun q=>Ai DK rfl) (Bg 29 rfl rfl (fun q=>AG (cF rfl q) A2 .m0 Al.l3 rfl rfl) (Bg 29 rfl rfl (fun q=>A7 (cF rfl q) rfl) ?_)))
 refine Gt (BS rfl rfl (fun h=>by rw [h];rfl)) ?_
 refine Gn (.t3 2 5 33) ?_
 refine Gc (fun c1=>?_) (fun c1=>?_)
 ·
  refine Gs (Ga rfl (Gn (.t1 4) (Ac (AD ?_))))
  refine AY rfl (.tmp rfl .n) ?_
  intro w1 hS;refine⟨congrArg Value.bool ?_,hS.Am⟩;simp only [AH.Cj,c1,↓reduceIte,Bool.false_eq_true]
 have c1p:=kz c1
 refine Aa ?_
 refine AB (.t2 2 5) ?_
 refine AA (Gs (Gt (Ai G3 rfl) (Gt (AG rfl A2 .m0 Al.l1 rfl rfl) (Gt (Af rfl rfl) (Gm rfl (Bf 37 rfl rfl (fun q=>Ai GF rfl) (Bf 37 rfl rfl (fun q=>AG (Bc rfl q) Dn .m0 Al.l4 rfl rfl) ?_)))))))
 refine Gt (BG rfl rfl (fun h=>h)) (Ga rfl (Gn (.t3 2 5 6) (CG (Gt (Ai FV rfl) (Gt (AG rfl A2 .m0 Al.l2 rfl rfl) (Gn (.t4 2 5 6 42) (Ae ?_)))))))
 refine Gs (Gt (Af rfl rfl) (Ga rfl (Gn (.t5 2 5 6 42 43) ?_)))
 refine Gc (fun c2=>?_) (fun c2=>?_)
 ·
  refine Gs (Gt (Ai DK rfl) (Gt (AG rfl A2 .m0 Al.l3 rfl rfl) (Gt (A7 rfl rfl) (Gm rfl (Bf 48 rfl rfl (fun q=>AF rfl) (Bf 48 rfl rfl (fun q=>BT (Bc rfl q)) (Gt (BG rfl rfl (fun h=>h)) ?_)))))))
  refine Ga rfl (Gn (.t1 4) (Ac (AS (AD ?_))))
  refine AY rfl (.tmp rfl .n) ?_
  intro w1 hS;refine⟨congrArg Value.bool ?_,hS.Am⟩;simp only [AH.Cj,c1,c2,↓reduceIte,Bool.false_eq_true]
 have c2p:=kz c2
 refine Gs (Gt (Af rfl rfl) (Ga rfl (Gn (.t5 2 5 6 42 52) ?_)))
 refine Gc (fun c3=>?_) (fun c3=>?_)
 ·
  have c3p:=kz c3
  refine Gs (Gt (Ai DK rfl) (Gt (AG rfl A2 .m0 Al.l3 rfl rfl) (Gt (A7 rfl rfl) (Gm rfl (Bf 57 rfl rfl (fun q=>Ai DK rfl) (Bf 57 rfl rfl (fun q=>AG (Bc rfl q) A2 .m0 Al.l3 rfl rfl) (Bf 57 rfl rfl (fun q=>Ai Bo rfl) ?_)))))))
  refine Bf 57 rfl rfl (fun q=>by have q1:=q;(try simp at q1);exact AR C8 (Bc rfl q) (Bc rfl q) (by omega) (by omega)) ?_
  refine Bf 57 rfl rfl (fun q=>Ai IP (Bc rfl q)) ?_
  refine Bf 57 rfl rfl (fun q=>by have q1:=q;(try simp at q1);exact AG (Bc rfl q) Dn .m1 ((AH.l2.comp (AU.ar (n:=6) Aj.fl (by omega))).comp Aj.l1) rfl rfl) ?_
  refine Gt (BG rfl rfl (fun h=>h)) (Ga rfl (Gn (.t1 4) (Ac (AS (AD ?_)))))
  refine AY rfl (.tmp rfl .n) ?_
  intro w1 hS;refine⟨congrArg Value.bool ?_,hS.Am⟩;simp only [AH.Cj,c1,c2,c3,↓reduceIte,Bool.false_eq_true]
 have c3p:=kz c3
 refine Gs (Gt (Af rfl rfl) (Ga rfl (Gn (.t4 2 5 6 65) ?_)))
 refine Gc (fun c4=>?_) (fun c4=>?_)
 ·
  have c4p:=kz c4
  refine CG (Gt (Ai DK rfl) (Gt (AG rfl A2 .m0 Al.l3 rfl rfl) (Gt (CK rfl rfl) (Gm rfl (Bg 70 rfl rfl (fun q=>Ai DK rfl) (Bg 70 rfl rfl (fun q=>AG (cF rfl q) A2 .m0 Al.l3 rfl rfl) (Bg 70 rfl rfl (fun q=>Ai Cz rfl) ?_)))))))
  refine Bg 70 rfl rfl (fun q=>by have q1:=q;(try simp at q1);exact AR F7 (cF rfl q) (cF rfl q) (by omega) (by omega)) ?_
  refine Bg 70 rfl rfl (fun q=>Ai G3 (cF rfl q)) ?_
  refine Bg 70 rfl rfl (fun q=>by have q1:=q;(try simp at q1);exact AG (cF rfl q) A2 .m1 ((AH.l1.comp (AU.ar (n:=9) Al.fl (by omega))).comp Al.l1) rfl rfl) ?_
  refine Bg 70 rfl rfl (fun q=>Cb (cF rfl q) rfl) ?_
  refine Gt (BS rfl rfl (fun h=>by rw [h];rfl)) ?_
  refine Gm rfl (Bg 79 rfl rfl (fun q=>AF rfl) ?_)
  refine Gt (BS rfl rfl (fun h=>by rw [h];rfl)) ?_
  refine Gn (.t3 2 5 81) ?_
  refine Gc (fun c5=>?_) (fun c5=>?_)
  ·
   refine Gs (Ga rfl (Gn (.t1 4) (Ac (AD (AS (AD ?_))))))
   refine AY rfl (.tmp rfl .n) ?_
   intro w1 hS;refine⟨congrArg Value.bool ?_,hS.Am⟩;simp only [AH.Cj,c1,c2,c3,c4,c5,↓reduceIte,Bool.false_eq_true]
  have c5p:=kz c5
  refine Aa ?_
  refine AB (.t2 2 5) ?_
  refine AA (Gs (Gm rfl (AQ (AA (Ae ?_)))))
  refine Bn (.t3 82 2 5) ?_
  refine Gg (fun(k:Int) (t:Al)=>0≤k∧k≤10∧X.Cj i=X.Jd (10 - k).toNat t) (fun(k:Int) (t:Al)=>(10 - k).toNat) (fun(k:Int) (t:Al)=> [(82, .int .i64 k)]) (fun(k:Int) (t:Al)=> [Ab.box b2 29 (Al.enc t)]) (0) (X.AO.at i) ?_ rfl rfl (fun k t hI1=>?_)
  · refine⟨Int.le_refl _,by omega,?_⟩;simp only [AH.Cj,c1,c2,c3,c4,c5,↓reduceIte,Bool.false_eq_true];rfl
  obtain⟨hI11,hI12,hI13⟩:=hI1
  refine Gs (Gt (A7 rfl rfl) (AQ (AA (Ao ?_))))
  refine Gc (fun c6=>?_) (fun c6=>?_)
  ·
   have c6p:=kz c6
   rw [show(10 - k).toNat=(10 - (k+1)).toNat+1 from by omega,AH.Jd,show decide ((10 - (k+1)).toNat=0)=decide (k=9) from decide_eq_decide.2 ⟨by omega,by omega⟩] at hI13
   refine Aa ?_
   refine AB (.t3 2 5 82) ?_
   refine AA (Ao (Ae (Gs (Gm rfl (Ga rfl (Gn (.t4 2 5 7 82) (CG ?_)))))))
   refine Gt (Ai FV rfl) (Gt (AG rfl A2 .m0 Al.l2 rfl rfl) (Gt (Cb rfl rfl) (Gn (.t5 2 5 7 82 87) ?_)))
   refine Gc (fun c7=>?_) (fun c7=>?_)
   ·
    refine Gs (Ga rfl (Gn (.t1 4) (Ac (AD (AS (AD (AD ?_)))))))
    refine AS (AS (AD ?_))
    refine AY rfl (.tmp rfl .n) ?_
    intro w1 hS;refine⟨congrArg Value.bool ?_,hS.Am⟩;rw [hI13];simp only [c1,c2,c3,c4,c5,c6,c7,↓reduceIte,Bool.false_eq_true]
   have c7p:=kz c7
   refine Aa ?_
   refine AB (.t4 2 5 7 82) ?_
   refine AA (CG (Gm rfl (Gt (Af rfl rfl) (Gm rfl (Bg 90 rfl rfl (fun q=>Ai DK rfl) (Bg 90 rfl rfl (fun q=>AG (cF rfl q) A2 .m0 Al.l3 rfl rfl) (Bg 90 rfl rfl (fun q=>A7 (cF rfl q) rfl) ?_)))))))
   refine Gt (BS rfl rfl (fun h=>by rw [h];rfl)) ?_
   refine Gm rfl (Bg 95 rfl rfl (fun q=>Ai DK rfl) (Bg 95 rfl rfl (fun q=>AG (cF rfl q) A2 .m0 Al.l3 rfl rfl) (Bg 95 rfl rfl (fun q=>CK (cF rfl q) rfl) ?_)))
   refine Gt (BS rfl rfl (fun h=>by rw [h];rfl)) ?_
   refine Gn (.t4 2 5 82 99) ?_
   refine Gc (fun c8=>?_) (fun c8=>?_)
   ·
    refine Gs (Ga rfl (Gn (.t1 4) (Ac (AD (AS (AD (AD ?_)))))))
    refine AS (AS (AD ?_))
    refine AY rfl (.tmp rfl .n) ?_
    intro w1 hS;refine⟨congrArg Value.bool ?_,hS.Am⟩;rw [hI13];simp only [c1,c2,c3,c4,c5,c6,c7,c8,↓reduceIte,Bool.false_eq_true]
   have c8p:=kz c8
   refine Aa ?_
   refine AB (.t3 2 5 82) ?_
   refine AA (AJ (Gt (Ai DK rfl) (Gt (AG rfl A2 .m0 Al.l3 rfl rfl) (Gt (Ai Cz rfl) ?_))))
   refine Gt (AR F7 rfl rfl (by omega) (by omega)) ?_
   refine Gt (AZ rfl M5 .m1 (AH.l1.comp (AU.ar (n:=9) Al.fl (by omega))) rfl) ?_
   refine AT (AK (AU.id Al.fl.len Al.fl.one) rfl rfl rfl NL rfl .h) ?_
   refine AQ (AB (.t3 2 5 82) ?_)
   refine AV (AA (AJ ?_))
   refine Gt (Av rfl rfl (IntWalk.i64_in _ (by omega))) ?_
   refine Gm rfl ?_
   refine AQ (AB (.t3 2 5 82) ?_)
   refine DO (k+1) (X.AO.at t.at_) ?_ ?_ (.t3 82 2 5) (.refl _)
   · exact⟨by omega,by omega,by rw [hI13];simp only [c1,c2,c3,c4,c5,c6,c7,c8,↓reduceIte,Bool.false_eq_true]⟩
   · omega
  have c6p:=kz c6
  obtain rfl:k=10:=by omega
  refine Bb (AW (AW (Ag ?_)))
  refine AB (.nil _) ?_
  refine AV (AA (Gs (Ga rfl (AQ (AA (Ac ?_))))))
  refine AY rfl (.tmp rfl .n) ?_
  intro w1 hS;refine⟨congrArg Value.bool ?_,hS.Am⟩;rw [hI13];rfl
 refine Aa ?_
 refine AB (.nil _) ?_
 refine AV (AA (Gs (Ga rfl (AQ (AA (Ac ?_))))))
 refine AY rfl (.tmp rfl .n) ?_
 intro w1 hS;refine⟨congrArg Value.bool ?_,hS.Am⟩;simp only [AH.Cj,c1,c2,c3,c4,↓reduceIte,Bool.false_eq_true]
theorem HV (X:AH)(w:World):Ed Tryz.prog 43 #[.agg X.enc.toArray] w fun v w'=>v = .bool X.Bh∧CA w w':=by
 refine Ak [] [] Tryz.func43 rfl rfl rfl (St.start w []) ?_
 refine Gs ?_
 refine B6 rfl rfl rfl (fun b1=>?_)
 refine Ga rfl (Gn (.t1 1) (CG (Gt (Ai Gz rfl) (Gt (AZ rfl cz .m0 AH.l0 rfl) (Gm rfl (Gn (.t3 1 11 12) (Ae ?_)))))))
 refine Bn (.t3 12 1 11) ?_
 refine CY (fun(k:Int)=>0≤k∧k≤6∧X.Bh=(B8 6 X.Lb (6 - k).toNat && (B8 6 (fun k=>!AH.Dk (X.AL.at k)) 6 && B8 9 X.Cj 9))) (fun(k:Int)=>(6 - k).toNat) (fun(k:Int)=> [(12, .int .i64 k)]) (fun(k:Int)=> []) (0) ?_ rfl rfl (fun k hI1=>?_)
 · exact⟨Int.le_refl _,by omega,rfl⟩
 obtain⟨hI11,hI12,hI13⟩:=hI1
 refine Gs (Gt (A7 rfl rfl) (AQ (AA (Ao ?_))))
 refine Gc (fun c1=>?_) (fun c1=>?_)
 ·
  have c1p:=kz c1
  rw [DZ _ (by omega)] at hI13
  refine Aa ?_
  refine AB (.t3 1 11 12) ?_
  refine AA (Ao (Ae (Gs ?_)))
  refine Gt (GI Room.fl Tryz.underlying27 O7 rfl rfl (by omega) (by omega)) ?_
  refine BD rfl Nt rfl (fun b2=>?_)
  refine AT (AK (AU.id Room.fl.len Room.fl.one) rfl rfl rfl RS rfl .h) ?_
  refine Gn (.t4 1 4 11 12) (Gs (Gt (Ai Mb rfl) (Gt (AZ rfl Za .m0 Room.l2 rfl) (Gm rfl (Gn (.t6 1 4 11 12 16 17) (Ae ?_))))))
  refine Bn (.t6 17 1 4 11 12 16) ?_
  refine CY (fun(d:Int)=>0≤d∧d≤6∧X.Lb k=B8 6 (fun d=>!AH.ID (X.BQ.at k) d) (6 - d).toNat) (fun(d:Int)=>(6 - d).toNat) (fun(d:Int)=> [(17, .int .i64 d)]) (fun(d:Int)=> []) (0) ?_ rfl rfl (fun d hI2=>?_)
  · exact⟨Int.le_refl _,by omega,rfl⟩
  obtain⟨hI21,hI22,hI23⟩:=hI2
  refine Gs (Gt (A7 rfl rfl) (AQ (AA (Ao ?_))))
  refine Gc (fun c2=>?_) (fun c2=>?_)
  ·
   have c2p:=kz c2
   rw [DZ _ (by omega)] at hI23
   refine Aa ?_
   refine AB (.t6 1 4 11 12 16 17) ?_
   refine AA (Ao (Ae (Gs (Gm rfl ?_))))
   refine Gt (KK Bu Tryz.underlying23 C6 A2 rfl rfl (by omega) (by omega) rfl) ?_
   refine Ga rfl (Ga rfl (Gn (.t8 1 4 5 6 11 12 16 17) (Gs (Gm rfl (Gt (A7 rfl rfl) (Gm rfl (Bg 23 rfl rfl (fun q=>AF rfl) ?_)))))))
   refine Bg 23 rfl rfl (fun q=>Cn (cF rfl q) rfl) ?_
   refine Gt (BS rfl rfl (fun h=>by rw [h];rfl)) ?_
   refine Gm rfl (Bg 27 rfl rfl (fun q=>AF rfl) (Bg 27 rfl rfl (fun q=>Af (cF rfl q) rfl) (Bg 27 rfl rfl (fun q=>AF (cF rfl q)) ?_)))
   refine DR (t:=30) rfl rfl rfl (fun qc q=>AF rfl) ?_
   refine DR (t:=30) rfl rfl rfl (fun qc q=>Ai MT rfl) ?_
   refine DR (t:=30) rfl rfl rfl (fun qc q=>by have q1:=q;have qc1:=qc;(try simp at q1 qc1);exact AR VU (Bc rfl (by rw [qc,q];rfl)) (Bc rfl (by rw [qc,q];rfl)) (by omega) (by omega)) ?_
   refine DR (t:=30) rfl rfl rfl (fun qc q=>by have q1:=q;have qc1:=qc;(try simp at q1 qc1);exact AG (Bc rfl (by rw [qc,q];rfl)) Dn .m0 (Room.l3.comp (AU.ar (n:=6) HN (by omega))) rfl rfl) ?_
   refine Bg 27 rfl rfl (fun q=>BG (cF rfl q) rfl (fun h=>by rw [q,h];rfl)) ?_
   refine Gt (BS rfl rfl (fun h=>by rw [h];rfl)) ?_
   refine Gn (.t7 1 4 11 12 16 17 36) ?_
   refine Gc (fun c3=>?_) (fun c3=>?_)
   ·
    refine Gs (Ga rfl (Gn (.t1 2) (Ac (AS (AD (AD (AS ?_)))))))
    refine AS (AD (AD (AS (AD ?_))))
    refine AY rfl (.tmp rfl .n) ?_
    intro w1 hS;refine⟨congrArg Value.bool ?_,hS.Am⟩;rw [hI13,hI23,AH.ID,c3];rfl
   have c3p:=kz c3
   refine Aa ?_
   refine AB (.t6 1 4 11 12 16 17) ?_
   refine AV (AA (AJ ?_))
   refine Gt (Av rfl rfl (IntWalk.i64_in _ (by omega))) ?_
   refine Gm rfl ?_
   refine AQ (AB (.t6 1 4 11 12 16 17) ?_)
   refine B2 (d+1) ?_ ?_ (.t6 17 1 4 11 12 16) (.refl _)
   · exact⟨by omega,by omega,by rw [hI23,AH.ID,c3];rfl⟩
   · omega
  have c2p:=kz c2
  obtain rfl:d=6:=by omega
  refine Bb (AW (AW (Ag ?_)))
  refine AB (.t3 1 11 12) ?_
  refine AV (AA (AJ ?_))
  refine Gt (Av rfl rfl (IntWalk.i64_in _ (by omega))) ?_
  refine Gm rfl ?_
  refine AQ (AB (.t3 1 11 12) ?_)
  refine B2 (k+1) ?_ ?_ (.t3 12 1 11) (.cons _ (.refl _))
  · exact⟨by omega,by omega,by rw [hI13,hI23];rfl⟩
  · omega
 have c1p:=kz c1
 obtain rfl:k=6:=by omega
 refine Bb (AW (AW (Ag ?_)))
 refine AB (.t1 1) ?_
 refine AA (CG (Gt (Ai Bo rfl) (Gt (AZ rfl ZY .m0 AH.l2 rfl) (Gm rfl (Gn (.t3 1 40 41) (Ae ?_))))))
 refine Bn (.t3 41 1 40) ?_
 refine CY (fun(b:Int)=>0≤b∧b≤6∧X.Bh=(B8 6 (fun k=>!AH.Dk (X.AL.at k)) (6 - b).toNat && B8 9 X.Cj 9)) (fun(b:Int)=>(6 - b).toNat) (fun(b:Int)=> [(41, .int .i64 b)]) (fun(b:Int)=> []) (0) ?_ rfl rfl (fun b hI3=>?_)
 · exact⟨Int.le_refl _,by omega,hI13⟩
 obtain⟨hI31,hI32,hI33⟩:=hI3
 refine Gs (Gt (A7 rfl rfl) (AQ (AA (Ao ?_))))
 refine Gc (fun c4=>?_) (fun c4=>?_)
 ·
  have c4p:=kz c4
  rw [DZ _ (by omega)] at hI33
  refine Aa ?_
  refine AB (.t3 1 40 41) ?_
  refine AA (Ao (Ae (Gs ?_)))
  refine Gt (GI Aj.fl Tryz.underlying33 Fi rfl rfl (by omega) (by omega)) ?_
  refine BD rfl Lu rfl (fun b3=>?_)
  refine AT (AK (AU.id Aj.fl.len Aj.fl.one) rfl rfl rfl KX rfl .h) ?_
  refine Gn (.t4 1 8 40 41) (Gs (Gt (Ai C2 rfl) (Gt (AG rfl A2 .m0 Aj.l3 rfl rfl) (Gt (A7 rfl rfl) (Gm rfl (Bg 47 rfl rfl (fun q=>Ai C2 rfl) (Bg 47 rfl rfl (fun q=>AG (cF rfl q) A2 .m0 Aj.l3 rfl rfl) ?_)))))))
  refine Bg 47 rfl rfl (fun q=>CK (cF rfl q) rfl) ?_
  refine Gt (BS rfl rfl (fun h=>by rw [h];rfl)) ?_
  refine Gm rfl (Bg 52 rfl rfl (fun q=>Ai JX rfl) (Bg 52 rfl rfl (fun q=>AG (cF rfl q) A2 .m0 Aj.l4 rfl rfl) (Bg 52 rfl rfl (fun q=>A7 (cF rfl q) rfl) ?_)))
  refine Gt (BS rfl rfl (fun h=>by rw [h];rfl)) ?_
  refine Gm rfl (Bg 57 rfl rfl (fun q=>Ai JX rfl) (Bg 57 rfl rfl (fun q=>AG (cF rfl q) A2 .m0 Aj.l4 rfl rfl) (Bg 57 rfl rfl (fun q=>Cn (cF rfl q) rfl) ?_)))
  refine Gt (BS rfl rfl (fun h=>by rw [h];rfl)) ?_
  refine Gm rfl (Bg 62 rfl rfl (fun q=>Ai GB rfl) (Bg 62 rfl rfl (fun q=>AG (cF rfl q) A2 .m0 Aj.l5 rfl rfl) (Bg 62 rfl rfl (fun q=>A7 (cF rfl q) rfl) ?_)))
  refine Gt (BS rfl rfl (fun h=>by rw [h];rfl)) ?_
  refine Gm rfl (Bg 67 rfl rfl (fun q=>Ai GB rfl) (Bg 67 rfl rfl (fun q=>AG (cF rfl q) A2 .m0 Aj.l5 rfl rfl) (Bg 67 rfl rfl (fun q=>Cn (cF rfl q) rfl) ?_)))
  refine Gt (BS rfl rfl (fun h=>by rw [h];rfl)) ?_
  refine Gm rfl (Bg 72 rfl rfl (fun q=>Ai IP rfl) (Bg 72 rfl rfl (fun q=>AG (cF rfl q) Dn .m0 Aj.l1 rfl rfl) (Bg 72 rfl rfl (fun q=>BT (cF rfl q)) (Bg 72 rfl rfl (fun q=>AF (cF rfl q)) ?_))))
  refine DR (t:=76) rfl rfl rfl (fun qc q=>Ai GB rfl) ?_
  refine DR (t:=76) rfl rfl rfl (fun qc q=>AG (Bc rfl (by rw [qc,q];rfl)) A2 .m0 Aj.l5 rfl rfl) ?_
  refine DR (t:=76) rfl rfl rfl (fun qc q=>Cb (Bc rfl (by rw [qc,q];rfl)) rfl) ?_
  refine Bg 72 rfl rfl (fun q=>BG (cF rfl q) rfl (fun h=>by rw [q,h];rfl)) ?_
  refine Gt (BS rfl rfl (fun h=>by rw [h];rfl)) ?_
  refine Gm rfl (Bg 82 rfl rfl (fun q=>Ai IP rfl) (Bg 82 rfl rfl (fun q=>AG (cF rfl q) Dn .m0 Aj.l1 rfl rfl) (Bg 82 rfl rfl (fun q=>Ai JX rfl) (Bg 82 rfl rfl (fun q=>AG (cF rfl q) A2 .m0 Aj.l4 rfl rfl) (Bg 82 rfl rfl (fun q=>Cn (cF rfl q) rfl) (Bg 82 rfl rfl (fun q=>JW Tryz.underlying4 (cF rfl q) (cF rfl q)) ?_))))))
  refine Gt (BS rfl rfl (fun h=>by rw [h];rfl)) ?_
  refine Gn (.t4 1 40 41 89) ?_
  refine Gc (fun c5=>?_) (fun c5=>?_)
  ·
   refine Gs (Ga rfl (Gn (.t1 2) (Ac (AS (AD (AD (AS ?_)))))))
   refine AD ?_
   refine AY rfl (.tmp rfl .n) ?_
   intro w1 hS;refine⟨congrArg Value.bool ?_,hS.Am⟩;rw [hI33,AH.Dk,c5];rfl
  have c5p:=kz c5
  refine Aa ?_
  refine AB (.t3 1 40 41) ?_
  refine AV (AA (AJ ?_))
  refine Gt (Av rfl rfl (IntWalk.i64_in _ (by omega))) ?_
  refine Gm rfl ?_
  refine AQ (AB (.t3 1 40 41) ?_)
  refine B2 (b+1) ?_ ?_ (.t3 41 1 40) (.cons _ (.refl _))
  · exact⟨by omega,by omega,by rw [hI33,AH.Dk,c5];rfl⟩
  · omega
 have c4p:=kz c4
 obtain rfl:b=6:=by omega
 refine Bb (AW (AW (Ag ?_)))
 refine AB (.t1 1) ?_
 refine AA (CG (Gm rfl (AQ (AA (Ae ?_)))))
 refine Bn (.t2 91 1) ?_
 refine CY (fun(t:Int)=>0≤t∧t≤9∧X.Bh=B8 9 X.Cj (9 - t).toNat) (fun(t:Int)=>(9 - t).toNat) (fun(t:Int)=> [(91, .int .i64 t)]) (fun(t:Int)=> []) (0) ?_ rfl rfl (fun t hI4=>?_)
 · exact⟨Int.le_refl _,by omega,hI33⟩
 obtain⟨hI41,hI42,hI43⟩:=hI4
 refine Gs (Gt (A7 rfl rfl) (AQ (AA (Ao ?_))))
 refine Gc (fun c6=>?_) (fun c6=>?_)
 ·
  have c6p:=kz c6
  rw [DZ _ (by omega)] at hI43
  refine Aa ?_
  refine AB (.t2 1 91) ?_
  refine AA (Ao (Ae (Gs (Gm rfl (Ga rfl (Gn (.t3 1 9 91) (Gs ?_)))))))
  refine Gt (AZ rfl BW .m0 (AU.id AH.fl.len AH.fl.one) rfl) (Gm rfl ?_)
  refine BA rfl eD (.c rfl (.c rfl .n)) (fun w hS=>KZ X _ (by omega) (by omega) w) ?_
  refine Gt (BT rfl) (Gn (.t3 1 91 97) ?_)
  refine Gc (fun c7=>?_) (fun c7=>?_)
  ·
   refine Gs (Ga rfl (Gn (.t1 2) (Ac (AS (AD (AD (AS ?_)))))))
   refine AD ?_
   refine AY rfl (.tmp rfl .n) ?_
   intro w1 hS;refine⟨congrArg Value.bool ?_,hS.Am⟩;rw [hI43,show X.Cj t=false by simpa using c7];rfl
  have c7p:=kz c7
  refine Aa ?_
  refine AB (.t2 1 91) ?_
  refine AV (AA (AJ ?_))
  refine Gt (Av rfl rfl (IntWalk.i64_in _ (by omega))) ?_
  refine Gm rfl ?_
  refine AQ (AB (.t2 1 91) ?_)
  refine B2 (t+1) ?_ ?_ (.t2 91 1) (.refl _)
  · exact⟨by omega,by omega,by rw [hI43,show X.Cj t=true by simpa using c7];rfl⟩
  · omega
 have c6p:=kz c6
 obtain rfl:t=9:=by omega
 refine Bb (AW (AW (Ag ?_)))
 refine AB (.nil _) ?_
 refine AA (Gs (Ga rfl (AQ (AA (Ac ?_)))))
 refine AY rfl (.tmp rfl .n) ?_
 intro w1 hS;refine⟨congrArg Value.bool ?_,hS.Am⟩;rw [hI43];rfl
theorem MH (s:Ap)(hs:s.length≤100000000)(w:World):Ed Tryz.prog 46 #[BU s] w fun v w'=>v = .bool (AE.FJ s)∧CA w w':=by
 refine Ak [] [] Tryz.func46 rfl rfl rfl (St.start w []) ?_
 refine Gs (Ga rfl (Gn (.t1 0) (CG (Gm rfl (Gt (BI rfl Tryz.underlying9 rfl) (Gm rfl (Gn (.t3 0 5 6) ?_)))))))
 refine Ae ?_
 refine Bn (.t3 6 0 5) ?_
 refine CY (fun(k:Int)=>0≤k∧k≤(s.length:Int)∧AE.Hu s 0=AE.Hu s k.toNat) (fun(k:Int)=>((s.length:Int) - k).toNat) (fun(k:Int)=> [(6, .int .i64 k)]) (fun(k:Int)=> []) (0) ?_ rfl rfl (fun k hI1=>?_)
 · exact⟨by omega,by omega,rfl⟩
 obtain⟨hI11,hI12,hI13⟩:=hI1
 refine Gs (Gt (A7 rfl rfl) (AQ (AA (Ao ?_))))
 refine Gc (fun c1=>?_) (fun c1=>?_)
 ·
  have c1p:=kz c1
  have hst:=AE.Vj (s:=s) hI11 (by omega)
  refine Aa ?_
  refine AB (.t3 0 5 6) ?_
  refine AA (Ao (Ae (Gs (Gm rfl (Ga rfl (Gn (.t4 0 3 5 6) (Gs ?_)))))))
  refine Gm rfl (Gm rfl ?_)
  refine Gt (Bl Tryz.underlying9 rfl rfl (by omega) (by omega)) ?_
  refine Gt (A7 rfl rfl) (Gm rfl (Bg 13 rfl rfl (fun q=>AF rfl) (Bg 13 rfl rfl (fun q=>AF rfl) ?_)))
  refine Bg 13 rfl rfl (fun q=>by have q1:=q;(try simp at q1);exact Bl Tryz.underlying9 (cF rfl q) (cF rfl q) (by omega) (by omega)) ?_
  refine Bg 13 rfl rfl (fun q=>Cn (cF rfl q) rfl) ?_
  refine Gt (BS rfl rfl (fun h=>by rw [h];rfl)) ?_
  refine Gn (.t4 0 5 6 18) ?_
  refine Gc (fun c2=>?_) (fun c2=>?_)
  ·
   rw [show AE.low (s.getD k.toNat 0)=true from c2] at hst
   refine Gs (Ga rfl (Gn (.t1 2) (Ac (AS (AD (AD (AS ?_)))))))
   refine AD ?_
   refine AY rfl (.tmp rfl .n) ?_
   intro w1 hS;refine⟨?_,hS.Am⟩;exact congrArg Value.bool (by rw [AE.FJ,hI13,hst];rfl)
  have c2p:=kz c2
  rw [show AE.low (s.getD k.toNat 0)=false from c2] at hst
  refine Aa ?_
  refine AB (.t3 0 5 6) ?_
  refine AV (AA (AJ ?_))
  refine Gt (Av rfl rfl (IntWalk.i64_in _ (by omega))) ?_
  refine Gm rfl ?_
  refine AQ (AB (.t3 0 5 6) ?_)
  refine B2 (k+1) ?_ ?_ (.t3 6 0 5) (.refl _)
  · exact⟨by omega,by omega,by rw [hI13,hst];rfl⟩
  · omega
 have c1p:=kz c1
 obtain rfl:k=(s.length:Int):=by omega
 rw [AE.XE] at hI13
 refine Bb (AW (AW (Ag ?_)))
 refine AB (.t1 0) ?_
 refine AA (Gs (Gm rfl (Gt (BI rfl Tryz.underlying9 rfl) (Gt (CK rfl rfl) (Gm rfl (Bf 23 rfl rfl (fun q=>AF rfl) (Bf 23 rfl rfl (fun q=>BI rfl Tryz.underlying9 (Bc rfl q)) ?_)))))))
 refine Bf 23 rfl rfl (fun q=>IG (Bc rfl q) rfl) (Gt (BG rfl rfl (fun h=>h)) (Gm rfl (Bf 28 rfl rfl (fun q=>AF rfl) (Bf 28 rfl rfl (fun q=>D1 (Bc rfl q) rfl) (Gt (BG rfl rfl (fun h=>h)) (Gm rfl (Bf 32 rfl rfl (fun q=>AF rfl) ?_)))))))
 refine Bf 32 rfl rfl (fun q=>D1 (Bc rfl q) rfl) (Gt (BG rfl rfl (fun h=>h)) (Ga rfl (Gn (.t1 2) (Ac ?_))))
 refine AY rfl (.tmp rfl .n) ?_
 intro w1 hS;refine⟨?_,hS.Am⟩;exact congrArg Value.bool (by rw [AE.FJ,hI13];simp only [Bool.true_and];rfl)
theorem F8 (X:AH)(b:Int)(w:World):Ed Tryz.prog 159 #[.agg X.enc.toArray, .int .i64 b] w fun v w'=>v = .bool (X.Ay b)∧CA w w':=by
 refine Ak [] [] Tryz.func159 rfl rfl rfl (St.start w []) ?_
 refine Gs ?_
 refine B6 rfl rfl rfl (fun b1=>?_)
 refine Ga rfl (Gn (.t2 1 2) (Gs (Gm rfl (Gt (CK rfl rfl) (Gm rfl (Bf 7 rfl rfl (fun q=>AF rfl) (Bf 7 rfl rfl (fun q=>A7 (Bc rfl q) rfl) ?_)))))))
 refine Gt (BG rfl rfl (fun h=>h)) (Gm rfl (Bf 11 rfl rfl (fun q=>AF rfl) (Bf 11 rfl rfl (fun q=>Ai Bo rfl) ?_)))
 refine Bf 11 rfl rfl (fun q=>by have q1:=q;(try simp at q1);exact AR C8 (Bc rfl q) (Bc rfl q) (by omega) (by omega)) ?_
 refine Bf 11 rfl rfl (fun q=>Ai IP (Bc rfl q)) ?_
 refine Bf 11 rfl rfl (fun q=>by have q1:=q;(try simp at q1);exact AG (Bc rfl q) Dn .m0 ((AH.l2.comp (AU.ar (n:=6) Aj.fl (by omega))).comp Aj.l1) rfl rfl) ?_
 refine Gt (BG rfl rfl (fun h=>h)) (Ga rfl (Gn (.t1 4) (Ac ?_)))
 refine AY rfl (.tmp rfl .n) ?_
 intro w1 hS;refine⟨?_,hS.Am⟩;rfl
theorem Nj (X:AH)(i:Int)(w:World):Ed Tryz.prog 19 #[.agg X.enc.toArray, .int .i64 i] w fun v w'=>v = .tuple #[.int .i64 (X.room i).1, .bool (X.room i).2]∧CA w w':=by
 refine Ak [] [] Tryz.func19 rfl rfl rfl (St.start w []) ?_
 refine Gs ?_
 refine B6 rfl rfl rfl (fun b1=>?_)
 refine Ga rfl (Ga rfl (Gn (.t2 1 2) (Gs (Ga rfl (AQ (AA (CG ?_)))))))
 refine Gm rfl (AQ (AA (Ae ?_)))
 refine Bn (.t4 1 6 8 2) ?_
 refine Dl (fun(k:Int) (j:Int) (o:Bool)=>0≤k∧k≤10∧X.room i=X.J4 (10 - k).toNat j o) (fun(k:Int) (j:Int) (o:Bool)=>(10 - k).toNat) (fun(k:Int) (j:Int) (o:Bool)=> [(1, .int .i64 j),(6, .bool o),(8, .int .i64 k)]) (fun(k:Int) (j:Int) (o:Bool)=> []) (0) (i) (true) ?_ rfl rfl (fun k j o hI1=>?_)
 · exact⟨Int.le_refl _,by omega,rfl⟩
 obtain⟨hI11,hI12,hI13⟩:=hI1
 refine Gs (Gt (A7 rfl rfl) (AQ (AA (Ao ?_))))
 refine Gc (fun c1=>?_) (fun c1=>?_)
 ·
  have c1p:=kz c1
  rw [show(10 - k).toNat=(10 - (k+1)).toNat+1 from by omega,AH.J4] at hI13
  refine Aa ?_
  refine AB (.t4 1 2 6 8) ?_
  refine AA (Ao (Ae (CG (Gm rfl (Gt (A7 rfl rfl) (Gm rfl (Bg 12 rfl rfl (fun q=>AF rfl) ?_)))))))
  refine Bg 12 rfl rfl (fun q=>CK (cF rfl q) rfl) ?_
  refine Gt (BS rfl rfl (fun h=>by rw [h];rfl)) ?_
  refine Gn (.t5 1 2 6 8 15) ?_
  refine Gc (fun c2=>?_) (fun c2=>?_)
  ·
   refine Gs (Ga rfl (Ga rfl (Gn (.t2 4 5) (Ac (AD (AS (AD ?_)))))))
   refine AD (AS (AD ?_))
   refine AY rfl (.tmp rfl (.tmp rfl .n)) ?_
   intro w1 hS;refine⟨?_,hS.Am⟩;rw [hI13];simp only [c1,c2,↓reduceIte,Bool.false_eq_true];rfl
  have c2p:=kz c2
  refine Aa ?_
  refine AB (.t4 1 2 6 8) ?_
  refine AA (Gs (Gm rfl (Gt (Ai Cz rfl) ?_)))
  refine Gt (AR F7 rfl rfl (by omega) (by omega)) ?_
  refine Gt (AZ rfl M5 .m0 (AH.l1.comp (AU.ar (n:=9) Al.fl (by omega))) rfl) ?_
  refine BD rfl KY rfl (fun b2=>?_)
  refine AT (AK (AU.id Al.fl.len Al.fl.one) rfl rfl rfl NL rfl .h) ?_
  refine Gn (.t4 2 6 7 8) (CG (Gt (Ai FV rfl) (Gt (AG rfl A2 .m0 Al.l2 rfl rfl) (Gn (.t5 2 6 7 8 21) (Ae (Gs (Gt (Af rfl rfl) ?_)))))))
  refine Ga rfl (Gn (.t6 2 6 7 8 21 22) ?_)
  refine Gc (fun c3=>?_) (fun c3=>?_)
  ·
   refine Gs (Gt (Ai DK rfl) (Gt (AG rfl A2 .m0 Al.l3 rfl rfl) (Gm rfl (Ga rfl (Ga rfl (Gn (.t2 4 5) (Ac ?_)))))))
   refine AS (AD (AS (AD (AD (AS (AD ?_))))))
   refine AY rfl (.tmp rfl (.tmp rfl .n)) ?_
   intro w1 hS;refine⟨?_,hS.Am⟩;rw [hI13];simp only [c1,c2,c3,↓reduceIte,Bool.false_eq_true];rfl
  have c3p:=kz c3
  refine Gs (Gt (Af rfl rfl) (Ga rfl (Gn (.t6 2 6 7 8 21 27) ?_)))
  refine Gc (fun c4=>?_) (fun c4=>?_)
  ·
   have c4p:=kz c4
   refine CG (Gt (Ai DK rfl) (Gt (AG rfl A2 .m0 Al.l3 rfl rfl) (Gt (A7 rfl rfl) (Gm rfl (Bg 32 rfl rfl (fun q=>Ai DK rfl) (Bg 32 rfl rfl (fun q=>AG (cF rfl q) A2 .m0 Al.l3 rfl rfl) (Bg 32 rfl rfl (fun q=>CK (cF rfl q) rfl) ?_)))))))
   refine Gt (BS rfl rfl (fun h=>by rw [h];rfl)) ?_
   refine Gn (.t4 2 6 7 36) ?_
   refine Gc (fun c5=>?_) (fun c5=>?_)
   ·
    refine Gs (Ga rfl (Ga rfl (Gn (.t2 4 5) (Ac (AD (AS (AD ?_)))))))
    refine AS (AD (AD (AS (AD ?_))))
    refine AY rfl (.tmp rfl (.tmp rfl .n)) ?_
    intro w1 hS;refine⟨?_,hS.Am⟩;rw [hI13];simp only [c1,c2,c3,c4,c5,↓reduceIte,Bool.false_eq_true];rfl
   have c5p:=kz c5
   refine Aa ?_
   refine AB (.t3 2 6 7) ?_
   refine AA (Gs (Gt (Ai DK rfl) (Gt (AG rfl A2 .m0 Al.l3 rfl rfl) (Gt (Ai Bo rfl) ?_))))
   refine Gt (AR C8 rfl rfl (by omega) (by omega)) ?_
   refine Gt (Ai C2 rfl) ?_
   refine Gt (AG rfl A2 .m1 ((AH.l2.comp (AU.ar (n:=6) Aj.fl (by omega))).comp Aj.l3) rfl rfl) ?_
   refine Gm rfl (Ga rfl (Ga rfl (Gn (.t2 4 5) (Ac (AS (AD (AS ?_)))))))
   refine AD (AD (AS (AD ?_)))
   refine AY rfl (.tmp rfl (.tmp rfl .n)) ?_
   intro w1 hS;refine⟨?_,hS.Am⟩;rw [hI13];simp only [c1,c2,c3,c4,c5,↓reduceIte,Bool.false_eq_true];rfl
  have c4p:=kz c4
  refine Gs (Gt (Af rfl rfl) (Ga rfl (Gn (.t5 2 6 7 8 44) ?_)))
  refine Gc (fun c6=>?_) (fun c6=>?_)
  ·
   have c6p:=kz c6
   refine Aa ?_
   refine AB (.t4 2 6 7 8) ?_
   refine AV (AA (Gs (Gt (Ai DK rfl) (Gt (AG rfl A2 .m0 Al.l3 rfl rfl) (Ga rfl (Gn (.t4 1 2 6 8) (Gs ?_)))))))
   refine Gm rfl (Gt (CK rfl rfl) (Gm rfl (Bf 50 rfl rfl (fun q=>AF rfl) (Bf 50 rfl rfl (fun q=>A7 (Bc rfl q) rfl) (Gt (BG rfl rfl (fun h=>h)) (Gm rfl (Bf 54 rfl rfl (fun q=>AF rfl) ?_)))))))
   refine Bf 54 rfl rfl (fun q=>Ai Cz rfl) ?_
   refine Bf 54 rfl rfl (fun q=>by have q1:=q;(try simp at q1);exact AR F7 (Bc rfl q) (Bc rfl q) (by omega) (by omega)) ?_
   refine Bf 54 rfl rfl (fun q=>Ai GF (Bc rfl q)) ?_
   refine Bf 54 rfl rfl (fun q=>by have q1:=q;(try simp at q1);exact AG (Bc rfl q) Dn .m1 ((AH.l1.comp (AU.ar (n:=9) Al.fl (by omega))).comp Al.l4) rfl rfl) ?_
   refine Bf 54 rfl rfl (fun q=>BT (Bc rfl q)) (Gt (BG rfl rfl (fun h=>h)) (Gn (.t5 1 2 6 8 61) ?_))
   refine Gc (fun c7=>?_) (fun c7=>?_)
   ·
    have c7p:=kz c7
    refine AJ (Ga rfl ?_)
    refine AQ (AB (.t4 1 2 6 8) ?_)
    refine AV (AA (AJ ?_))
    refine Gt (Av rfl rfl (IntWalk.i64_in _ (by omega))) ?_
    refine Gm rfl ?_
    refine AQ (AB (.t4 1 2 6 8) ?_)
    refine Bt (k+1) ((X.AO.at j).at_) (false) ?_ ?_ (.t4 1 6 8 2) (.cons _ (.refl _))
    · exact⟨by omega,by omega,by rw [hI13];simp only [c1,c2,c3,c4,c6,c7,↓reduceIte,Bool.false_eq_true]⟩
    · omega
   have c7p:=kz c7
   refine Aa ?_
   refine AB (.t4 1 2 6 8) ?_
   refine AV (AA (AJ ?_))
   refine Gt (Av rfl rfl (IntWalk.i64_in _ (by omega))) ?_
   refine Gm rfl ?_
   refine AQ (AB (.t4 1 2 6 8) ?_)
   refine Bt (k+1) ((X.AO.at j).at_) (o) ?_ ?_ (.t4 1 6 8 2) (.cons _ (.refl _))
   · exact⟨by omega,by omega,by rw [hI13];simp only [c1,c2,c3,c4,c6,c7,↓reduceIte,Bool.false_eq_true]⟩
   · omega
  refine Gs (Ga rfl (Ga rfl (Gn (.t2 4 5) (Ac (AS (AD (AS ?_)))))))
  refine AD (AD (AS (AD ?_)))
  refine AY rfl (.tmp rfl (.tmp rfl .n)) ?_
  intro w1 hS;refine⟨?_,hS.Am⟩;rw [hI13];simp only [c1,c2,c3,c4,c6,↓reduceIte,Bool.false_eq_true];rfl
 have c1p:=kz c1
 obtain rfl:k=10:=by omega
 refine Bb (AW (AW (Ag ?_)))
 refine AB (.nil _) ?_
 refine AA (Gs (Ga rfl (Ga rfl (AQ (AA (Ac ?_))))))
 refine AY rfl (.tmp rfl (.tmp rfl .n)) ?_
 intro w1 hS;refine⟨?_,hS.Am⟩;rw [hI13];rfl
theorem Ea (X:AH)(r:Int)(w:World):Ed Tryz.prog 129 #[.agg X.enc.toArray, .int .i64 r] w fun v w'=>v = .bool (X.HS r)∧CA w w':=by
 refine Ak [] [] Tryz.func129 rfl rfl rfl (St.start w []) ?_
 refine Gs ?_
 refine B6 rfl rfl rfl (fun b1=>?_)
 refine Ga rfl (Gn (.t2 1 2) (CG (Gm rfl (Gt (A7 rfl rfl) (Gm rfl (Bg 11 rfl rfl (fun q=>AF rfl) (Bg 11 rfl rfl (fun q=>CK (cF rfl q) rfl) ?_)))))))
 refine Gt (BS rfl rfl (fun h=>by rw [h];rfl)) ?_
 refine Gn (.t3 1 2 14) ?_
 refine Gc (fun c1=>?_) (fun c1=>?_)
 ·
  refine Gs (Ga rfl (Gn (.t1 4) (Ac (AD ?_))))
  refine AY rfl (.tmp rfl .n) ?_
  intro w1 hS;refine⟨congrArg Value.bool ?_,hS.Am⟩;rw [show X.HS r=_ from BB c1]
 have c1p:=kz c1
 have hr:0≤r∧r < 6:=by simp at c1;omega
 refine Aa ?_
 refine AB (.t2 1 2) ?_
 refine AA (CG (Gm rfl (Gt (Ai Gz rfl) ?_)))
 refine Gt (AR Oj rfl rfl (by omega) (by omega)) ?_
 refine Gt (Ai ag rfl) ?_
 refine Gt (AG rfl Dn .m0 ((AH.l0.comp (AU.ar (n:=6) Room.fl (by omega))).comp Room.l1) rfl rfl) ?_
 refine Gt (BT rfl) (Gn (.t3 1 2 20) ?_)
 refine Gc (fun c2=>?_) (fun c2=>?_)
 ·
  refine Gs (Ga rfl (Gn (.t1 4) (Ac (AD ?_))))
  refine AY rfl (.tmp rfl .n) ?_
  intro w1 hS;refine⟨congrArg Value.bool ?_,hS.Am⟩;rw [show X.HS r=_ from(AX c1).trans (BB c2)]
 have c2p:=kz c2
 refine Aa ?_
 refine AB (.t2 1 2) ?_
 refine AA (CG (Gt (Ai Cz rfl) (Gt (AZ rfl XO .m0 AH.l1 rfl) (Gm rfl (Gn (.t4 1 2 22 23) (Ae ?_))))))
 refine Bn (.t4 23 1 2 22) ?_
 refine CY (fun(k:Int)=>0≤k∧k≤9∧B8 9 (fun i=>!X.lit r i) 9=B8 9 (fun i=>!X.lit r i) (9 - k).toNat) (fun(k:Int)=>(9 - k).toNat) (fun(k:Int)=> [(23, .int .i64 k)]) (fun(k:Int)=> []) (0) ?_ rfl rfl (fun k hI1=>?_)
 · exact⟨by omega,by omega,rfl⟩
 obtain⟨hI11,hI12,hI13⟩:=hI1
 refine Gs (Gt (A7 rfl rfl) (AQ (AA (Ao ?_))))
 refine Gc (fun c3=>?_) (fun c3=>?_)
 ·
  have c3p:=kz c3
  rw [DZ _ (by omega)] at hI13
  refine Aa ?_
  refine AB (.t4 1 2 22 23) ?_
  refine AA (Ao (Ae (Gs (Gm rfl ?_))))
  refine Gt (GI Al.fl Tryz.underlying30 M5 rfl rfl (by omega) (by omega)) ?_
  refine BD rfl KY rfl (fun b2=>?_)
  refine Ga rfl ?_
  refine AT (AK (AU.id Al.fl.len Al.fl.one) rfl rfl rfl NL rfl .h) ?_
  refine Gn (.t6 1 2 5 6 22 23) (CG (Gt (Ai G3 rfl) (Gt (AG rfl A2 .m0 Al.l1 rfl rfl) (Gt (Cb rfl rfl) (Gm rfl (Bg 30 rfl rfl (fun q=>Ai GF rfl) (Bg 30 rfl rfl (fun q=>AG (cF rfl q) Dn .m0 Al.l4 rfl rfl) ?_)))))))
  refine Bg 30 rfl rfl (fun q=>BT (cF rfl q)) ?_
  refine Gt (BS rfl rfl (fun h=>by rw [h];rfl)) ?_
  refine Gn (.t6 1 2 5 22 23 34) ?_
  refine Gc (fun c4=>?_) (fun c4=>?_)
  ·
   have c4p:=kz c4
   refine Bb (AW (Ag ?_))
   refine AB (.t4 1 2 22 23) ?_
   refine AA (AJ ?_)
   refine Gt (Av rfl rfl (IntWalk.i64_in _ (by omega))) ?_
   refine Gm rfl ?_
   refine AQ (AB (.t4 1 2 22 23) ?_)
   refine B2 (k+1) ?_ ?_ (.t4 23 1 2 22) (.cons _ (.refl _))
   · exact⟨by omega,by omega,by rw [hI13,show X.lit r k=false from by rw [AH.lit,c4];first | rfl | exact Bool.and_false _];rfl⟩
   · omega
  have c4p:=kz c4
  refine Aa ?_
  refine AB (.t5 1 2 5 22 23) ?_
  refine AA (Gs (Gt (AZ rfl BW .m1 (AU.id AH.fl.len AH.fl.one) rfl) (Gm rfl ?_)))
  refine BA rfl eH (.c rfl (.c rfl .n)) (fun w hS=>Nj _ _ w) ?_
  refine Gm rfl (Gt (AN rfl rfl) (Gt (AN rfl rfl) (Ga rfl (Ga rfl (Gn (.t6 1 2 7 8 22 23) (Gs (Gm rfl ?_)))))))
  refine Gm rfl (Gt (Af rfl rfl) (Gm rfl (Bf 44 rfl rfl (fun q=>AF rfl) (Gt (BG rfl rfl (fun h=>h)) (Gn (.t5 1 2 22 23 46) ?_)))))
  refine Gc (fun c5=>?_) (fun c5=>?_)
  ·
   refine Gs (Ga rfl (Gn (.t1 4) (Ac (AS (AD (AD (AS ?_)))))))
   refine AD ?_
   refine AY rfl (.tmp rfl .n) ?_
   intro w1 hS;refine⟨congrArg Value.bool ?_,hS.Am⟩;rw [show X.HS r=_ from(AX c1).trans (AX c2),hI13,show X.lit r k=true from by rw [AH.lit,c4,c5];rfl];rfl
  have c5p:=kz c5
  refine Aa ?_
  refine AB (.t4 1 2 22 23) ?_
  refine AV (AA (AJ ?_))
  refine Gt (Av rfl rfl (IntWalk.i64_in _ (by omega))) ?_
  refine Gm rfl ?_
  refine AQ (AB (.t4 1 2 22 23) ?_)
  refine B2 (k+1) ?_ ?_ (.t4 23 1 2 22) (.cons _ (.refl _))
  · exact⟨by omega,by omega,by rw [hI13,show X.lit r k=false from by rw [AH.lit,c5];first | rfl | exact Bool.and_false _];rfl⟩
  · omega
 have c3p:=kz c3
 obtain rfl:k=9:=by omega
 refine Bb (AW (AW (Ag ?_)))
 refine AB (.nil _) ?_
 refine AA (Gs (Ga rfl (AQ (AA (Ac ?_)))))
 refine AY rfl (.tmp rfl .n) ?_
 intro w1 hS;refine⟨congrArg Value.bool ?_,hS.Am⟩;rw [show X.HS r=_ from(AX c1).trans (AX c2),hI13];rfl
theorem H2 (X:AH)(b:Int)(w:World):Ed Tryz.prog 160 #[.agg X.enc.toArray, .int .i64 b] w fun v w'=>v = .bool (X.hidden b)∧CA w w':=by
 refine Ak [] [] Tryz.func160 rfl rfl rfl (St.start w []) ?_
 refine Gs ?_
 refine B6 rfl rfl rfl (fun b1=>?_)
 refine Ga rfl (Gn (.t2 1 2) (CG (Gt (Ai Cz rfl) (Gt (AZ rfl XO .m0 AH.l1 rfl) (Gm rfl (Gn (.t3 1 8 9) (Ae ?_)))))))
 refine Bn (.t3 9 1 8) ?_
 refine CY (fun(k:Int)=>0≤k∧k≤9∧B8 9 (fun i=>!X.Lt b i) 9=B8 9 (fun i=>!X.Lt b i) (9 - k).toNat) (fun(k:Int)=>(9 - k).toNat) (fun(k:Int)=> [(9, .int .i64 k)]) (fun(k:Int)=> []) (0) ?_ rfl rfl (fun k hI1=>?_)
 · exact⟨by omega,by omega,rfl⟩
 obtain⟨hI11,hI12,hI13⟩:=hI1
 refine Gs (Gt (A7 rfl rfl) (AQ (AA (Ao ?_))))
 refine Gc (fun c1=>?_) (fun c1=>?_)
 ·
  have c1p:=kz c1
  rw [DZ _ (by omega)] at hI13
  refine Aa ?_
  refine AB (.t3 1 8 9) ?_
  refine AA (Ao (Ae (Gs ?_)))
  refine Gt (GI Al.fl Tryz.underlying30 M5 rfl rfl (by omega) (by omega)) ?_
  refine BD rfl KY rfl (fun b2=>?_)
  refine AT (AK (AU.id Al.fl.len Al.fl.one) rfl rfl rfl NL rfl .h) ?_
  refine Gn (.t4 1 6 8 9) (Gs (Gt (Ai G3 rfl) (Gt (AG rfl A2 .m0 Al.l1 rfl rfl) (Gt (Af rfl rfl) (Gm rfl (Bf 15 rfl rfl (fun q=>Ai GF rfl) (Bf 15 rfl rfl (fun q=>AG (Bc rfl q) Dn .m0 Al.l4 rfl rfl) ?_)))))))
  refine Gt (BG rfl rfl (fun h=>h)) (Gm rfl (Bf 19 rfl rfl (fun q=>Ai FV rfl) (Bf 19 rfl rfl (fun q=>AG (Bc rfl q) A2 .m0 Al.l2 rfl rfl) (Bf 19 rfl rfl (fun q=>Af (Bc rfl q) rfl) (Gt (BG rfl rfl (fun h=>h)) (Gm rfl (Bf 24 rfl rfl (fun q=>Ai DK rfl) ?_)))))))
  refine Bf 24 rfl rfl (fun q=>AG (Bc rfl q) A2 .m0 Al.l3 rfl rfl) (Bf 24 rfl rfl (fun q=>AF rfl) (Bf 24 rfl rfl (fun q=>Af (Bc rfl q) (Bc rfl q)) (Gt (BG rfl rfl (fun h=>h)) (Gn (.t4 1 8 9 29) ?_))))
  refine Gc (fun c2=>?_) (fun c2=>?_)
  ·
   refine Gs (Ga rfl (Gn (.t1 4) (Ac (AS (AD (AD (AS ?_)))))))
   refine AD ?_
   refine AY rfl (.tmp rfl .n) ?_
   intro w1 hS;refine⟨congrArg Value.bool ?_,hS.Am⟩;rw [AH.hidden,hI13,show X.Lt b k=true from c2];rfl
  have c2p:=kz c2
  refine Aa ?_
  refine AB (.t3 1 8 9) ?_
  refine AV (AA (AJ ?_))
  refine Gt (Av rfl rfl (IntWalk.i64_in _ (by omega))) ?_
  refine Gm rfl ?_
  refine AQ (AB (.t3 1 8 9) ?_)
  refine B2 (k+1) ?_ ?_ (.t3 9 1 8) (.cons _ (.refl _))
  · exact⟨by omega,by omega,by rw [hI13,show X.Lt b k=false from c2];rfl⟩
  · omega
 have c1p:=kz c1
 obtain rfl:k=9:=by omega
 refine Bb (AW (AW (Ag ?_)))
 refine AB (.nil _) ?_
 refine AA (Gs (Ga rfl (AQ (AA (Ac ?_)))))
 refine AY rfl (.tmp rfl .n) ?_
 intro w1 hS;refine⟨congrArg Value.bool ?_,hS.Am⟩;rw [AH.hidden,hI13];rfl
theorem DQ (X:AH)(a b:Int)(w:World):Ed Tryz.prog 130 #[.agg X.enc.toArray, .int .i64 a, .int .i64 b] w fun v w'=>v = .bool (X.Hs a b)∧CA w w':=by
 refine Ak [] [] Tryz.func130 rfl rfl rfl (St.start w []) ?_
 refine Gs ?_
 refine B6 rfl rfl rfl (fun b1=>?_)
 refine Ga rfl (Gn (.t3 1 2 3) (CG (Gt (AZ rfl BW .m0 (AU.id AH.fl.len AH.fl.one) rfl) (Gm rfl ?_))))
 refine BA rfl Xs (.c rfl (.c rfl .n)) (fun w hS=>F8 _ _ w) ?_
 refine Gt (BT rfl) (Gm rfl (Bg 13 rfl rfl (fun q=>AZ rfl BW .m0 (AU.id AH.fl.len AH.fl.one) rfl) (Bg 13 rfl rfl (fun q=>AF rfl) ?_)))
 refine Qi (t:=13) rfl rfl rfl (fun q=>by have q1:=q;(try simp at q1);exact D9 Xs (.c (cF rfl q) (.c (cF rfl q) .n)) (fun w hS=>F8 _ _ w)) ?_
 refine Bg 13 rfl rfl (fun q=>BT (cF rfl q)) ?_
 refine Gt (BS rfl rfl (fun h=>by rw [h];rfl)) ?_
 refine Gn (.t4 1 2 3 18) ?_
 refine Gc (fun c1=>?_) (fun c1=>?_)
 ·
  refine Gs (Ga rfl (Gn (.t1 6) (Ac (AD ?_))))
  refine AY rfl (.tmp rfl .n) ?_
  intro w1 hS;refine⟨congrArg Value.bool ?_,hS.Am⟩;rw [show X.Hs a b=_ from(BB c1)]
 have c1p:=kz c1
 have hr:(0≤a∧a < 6)∧0≤b∧b < 6:=by simp at c1;have h1:=AH.HO c1.1;have h2:=AH.HO c1.2;omega
 refine Aa ?_
 refine AB (.t3 1 2 3) ?_
 refine AA (CG (Gm rfl (Gm rfl (Gt (Af rfl rfl) (Gn (.t4 1 2 3 21) ?_)))))
 refine Gc (fun c2=>?_) (fun c2=>?_)
 ·
  refine Gs (Ga rfl (Gn (.t1 6) (Ac (AD ?_))))
  refine AY rfl (.tmp rfl .n) ?_
  intro w1 hS;refine⟨congrArg Value.bool ?_,hS.Am⟩;rw [show X.Hs a b=_ from((AX c1).trans (BB c2))]
 have c2p:=kz c2
 refine Aa ?_
 refine AB (.t3 1 2 3) ?_
 refine AA (Ao ?_)
 refine BE (N:=12) [0,0,3,7,0,0,48,112,0,0,783,2047] mix (by kernel_rfl) rfl ?_
 refine Pf 0 rfl (AF rfl) (Pf 1 rfl (Ai Bo rfl) ?_)
 refine Pf 2 rfl (AR C8 rfl rfl (by omega) (by omega)) ?_
 refine Pf 3 rfl (AZ rfl Fi .m0 (AH.l2.comp (AU.ar (n:=6) Aj.fl (by omega))) rfl) ?_
 refine Pf 4 rfl (AF rfl) (Pf 5 rfl (Ai Bo rfl) ?_)
 refine Pf 6 rfl (AR C8 rfl rfl (by omega) (by omega)) ?_
 refine Pf 7 rfl (AZ rfl Fi .m0 (AH.l2.comp (AU.ar (n:=6) Aj.fl (by omega))) rfl) ?_
 refine Jo 8 9 rfl rfl (by kernel_rfl) ?_ ?_
 ·
  refine BD rfl Lu rfl (fun b2=>?_)
  refine Bq rfl ⟨?_,?_⟩
  · exact(Po rfl (AZ rfl Fi .m1 (AH.l2.comp (AU.ar (n:=6) Aj.fl (by omega))) rfl) rfl rfl (Po rfl (AR C8 rfl rfl (by omega) (by omega)) rfl rfl (Po rfl (Ai Bo rfl) rfl rfl (Po rfl (AF rfl) rfl rfl (Po rfl (AZ rfl Fi .m1 (AH.l2.comp (AU.ar (n:=6) Aj.fl (by omega))) rfl) rfl rfl (Po rfl (AR C8 rfl rfl (by omega) (by omega)) rfl rfl (Po rfl (Ai Bo rfl) rfl rfl (Po rfl (AF rfl) rfl rfl As))))))))
  refine An 9 rfl (by kernel_rfl) ?_
  refine BD rfl Lu rfl (fun b3=>?_)
  refine Bq rfl ⟨?_,?_⟩
  · exact(Po rfl (AZ rfl Fi .m2 (AH.l2.comp (AU.ar (n:=6) Aj.fl (by omega))) rfl) rfl rfl (Po rfl (AR C8 rfl rfl (by omega) (by omega)) rfl rfl (Po rfl (Ai Bo rfl) rfl rfl (Po rfl (AF rfl) rfl rfl (Po rfl (AZ rfl Fi .m2 (AH.l2.comp (AU.ar (n:=6) Aj.fl (by omega))) rfl) rfl rfl (Po rfl (AR C8 rfl rfl (by omega) (by omega)) rfl rfl (Po rfl (Ai Bo rfl) rfl rfl (Po rfl (AF rfl) rfl rfl As))))))))
  refine An 10 rfl (by kernel_rfl) ?_
  refine AT (AK (AU.id Aj.fl.len Aj.fl.one) rfl rfl rfl KX rfl (.t .h)) ?_
  refine BN rfl ⟨?_,?_⟩
  · exact(Po rfl (AZ rfl Fi .m2 (AH.l2.comp (AU.ar (n:=6) Aj.fl (by omega))) rfl) rfl rfl (Po rfl (AR C8 rfl rfl (by omega) (by omega)) rfl rfl (Po rfl (Ai Bo rfl) rfl rfl (Po rfl (AF rfl) rfl rfl (Pk (Pk (Pk (Pk As))))))))
  refine An 11 rfl (by kernel_rfl) ?_
  refine AT (AK (AU.id Aj.fl.len Aj.fl.one) rfl rfl rfl KX rfl .h) ?_
  refine BN rfl ⟨?_,?_⟩
  · exact(Pk (Pk (Pk (Pk (Pk (Pk (Pk (Pk As))))))))
  refine A4 (by kernel_rfl) ?_
  refine AB (.t4 2 3 7 8) ?_
  refine AA (Gs (Gt (Ai C2 rfl) (Gt (AG rfl A2 .m1 Aj.l3 rfl rfl) (Gt (Ai C2 rfl) (Gt (AG rfl A2 .m0 Aj.l3 rfl rfl) (Gt (Af rfl rfl) (Gm rfl ?_)))))))
  refine Bf 35 rfl rfl (fun q=>AZ rfl BW .m2 (AU.id AH.fl.len AH.fl.one) rfl) (Bf 35 rfl rfl (fun q=>Ai C2 rfl) (Bf 35 rfl rfl (fun q=>AG (Bc rfl q) A2 .m1 Aj.l3 rfl rfl) ?_))
  refine Mm (t:=35) rfl rfl rfl (fun q=>D9 Uq (.c (Bc rfl q) (.c (Bc rfl q) .n)) (fun w hS=>Ea _ _ w)) ?_
  refine Gt (BG rfl rfl (fun h=>h)) (Gm rfl (Bf 41 rfl rfl (fun q=>Ai Xc rfl) (Bf 41 rfl rfl (fun q=>AG (Bc rfl q) Dn .m1 Aj.l2 rfl rfl) (Bf 41 rfl rfl (fun q=>AF (Bc rfl q)) ?_))))
  refine Cl (t:=44) rfl rfl rfl (fun qc q=>AZ rfl BW .m2 (AU.id AH.fl.len AH.fl.one) rfl) ?_
  refine Cl (t:=44) rfl rfl rfl (fun qc q=>AF rfl) ?_
  refine U1 (t:=44) rfl rfl rfl (fun qc q=>by have q1:=q;have qc1:=qc;(try simp at q1 qc1);exact D9 Zj (.c (Bc rfl (by rw [qc,q];rfl)) (.c (Bc rfl (by rw [qc,q];rfl)) .n)) (fun w hS=>H2 _ _ w)) ?_
  refine Cl (t:=44) rfl rfl rfl (fun qc q=>BT (Bc rfl (by rw [qc,q];rfl))) ?_
  refine Bf 41 rfl rfl (fun q=>BS (Bc rfl q) rfl (fun h=>by rw [q,h];rfl)) ?_
  refine Gt (BG rfl rfl (fun h=>h)) (Ga rfl (Gn (.t1 6) (Ac ?_)))
  refine AY rfl (.tmp rfl .n) ?_
  intro w1 hS;refine⟨congrArg Value.bool ?_,hS.Am⟩;rw [show X.Hs a b=_ from((AX c1).trans (AX c2))]
 ·
  refine BD rfl Lu rfl (fun b4=>?_)
  refine Bq rfl ⟨?_,?_⟩
  · exact(Po rfl (AZ rfl Fi .m1 (AH.l2.comp (AU.ar (n:=6) Aj.fl (by omega))) rfl) rfl rfl (Po rfl (AR C8 rfl rfl (by omega) (by omega)) rfl rfl (Po rfl (Ai Bo rfl) rfl rfl (Po rfl (AF rfl) rfl rfl (Po rfl (AZ rfl Fi .m1 (AH.l2.comp (AU.ar (n:=6) Aj.fl (by omega))) rfl) rfl rfl (Po rfl (AR C8 rfl rfl (by omega) (by omega)) rfl rfl (Po rfl (Ai Bo rfl) rfl rfl (Po rfl (AF rfl) rfl rfl As))))))))
  refine An 8 rfl (by kernel_rfl) ?_
  refine BD rfl Lu rfl (fun b5=>?_)
  refine Bq rfl ⟨?_,?_⟩
  · exact(Po rfl (AZ rfl Fi .m2 (AH.l2.comp (AU.ar (n:=6) Aj.fl (by omega))) rfl) rfl rfl (Po rfl (AR C8 rfl rfl (by omega) (by omega)) rfl rfl (Po rfl (Ai Bo rfl) rfl rfl (Po rfl (AF rfl) rfl rfl (Po rfl (AZ rfl Fi .m2 (AH.l2.comp (AU.ar (n:=6) Aj.fl (by omega))) rfl) rfl rfl (Po rfl (AR C8 rfl rfl (by omega) (by omega)) rfl rfl (Po rfl (Ai Bo rfl) rfl rfl (Po rfl (AF rfl) rfl rfl As))))))))
  refine An 10 rfl (by kernel_rfl) ?_
  refine AT (AK (AU.id Aj.fl.len Aj.fl.one) rfl rfl rfl KX rfl .h) ?_
  refine BN rfl ⟨?_,?_⟩
  · exact(Po rfl (AZ rfl Fi .m2 (AH.l2.comp (AU.ar (n:=6) Aj.fl (by omega))) rfl) rfl rfl (Po rfl (AR C8 rfl rfl (by omega) (by omega)) rfl rfl (Po rfl (Ai Bo rfl) rfl rfl (Po rfl (AF rfl) rfl rfl (Pk (Pk (Pk (Pk As))))))))
  refine An 11 rfl (by kernel_rfl) ?_
  refine AT (AK (AU.id Aj.fl.len Aj.fl.one) rfl rfl rfl KX rfl (.t .h)) ?_
  refine BN rfl ⟨?_,?_⟩
  · exact(Pk (Pk (Pk (Pk (Pk (Pk (Pk (Pk As))))))))
  refine A4 (by kernel_rfl) ?_
  refine AB (.t4 2 3 7 8) ?_
  refine AA (Gs (Gt (Ai C2 rfl) (Gt (AG rfl A2 .m0 Aj.l3 rfl rfl) (Gt (Ai C2 rfl) (Gt (AG rfl A2 .m1 Aj.l3 rfl rfl) (Gt (Af rfl rfl) (Gm rfl ?_)))))))
  refine Bf 35 rfl rfl (fun q=>AZ rfl BW .m2 (AU.id AH.fl.len AH.fl.one) rfl) (Bf 35 rfl rfl (fun q=>Ai C2 rfl) (Bf 35 rfl rfl (fun q=>AG (Bc rfl q) A2 .m0 Aj.l3 rfl rfl) ?_))
  refine Mm (t:=35) rfl rfl rfl (fun q=>D9 Uq (.c (Bc rfl q) (.c (Bc rfl q) .n)) (fun w hS=>Ea _ _ w)) ?_
  refine Gt (BG rfl rfl (fun h=>h)) (Gm rfl (Bf 41 rfl rfl (fun q=>Ai Xc rfl) (Bf 41 rfl rfl (fun q=>AG (Bc rfl q) Dn .m0 Aj.l2 rfl rfl) (Bf 41 rfl rfl (fun q=>AF (Bc rfl q)) ?_))))
  refine Cl (t:=44) rfl rfl rfl (fun qc q=>AZ rfl BW .m2 (AU.id AH.fl.len AH.fl.one) rfl) ?_
  refine Cl (t:=44) rfl rfl rfl (fun qc q=>AF rfl) ?_
  refine U1 (t:=44) rfl rfl rfl (fun qc q=>by have q1:=q;have qc1:=qc;(try simp at q1 qc1);exact D9 Zj (.c (Bc rfl (by rw [qc,q];rfl)) (.c (Bc rfl (by rw [qc,q];rfl)) .n)) (fun w hS=>H2 _ _ w)) ?_
  refine Cl (t:=44) rfl rfl rfl (fun qc q=>BT (Bc rfl (by rw [qc,q];rfl))) ?_
  refine Bf 41 rfl rfl (fun q=>BS (Bc rfl q) rfl (fun h=>by rw [q,h];rfl)) ?_
  refine Gt (BG rfl rfl (fun h=>h)) (Ga rfl (Gn (.t1 6) (Ac ?_)))
  refine AY rfl (.tmp rfl .n) ?_
  intro w1 hS;refine⟨congrArg Value.bool ?_,hS.Am⟩;rw [show X.Hs a b=_ from((AX c1).trans (AX c2))]
theorem NJ (k:Int)(w:World):Ed Tryz.prog 173 #[.int .i64 k] w fun v w'=>v = .bool (AH.aJ k)∧CA w w':=by
 refine Ak [] [] Tryz.func173 rfl rfl rfl (St.start w []) ?_
 refine Gs (Ga rfl (Gn (.t1 0) (Gs (Gm rfl (Gt (Af rfl rfl) (Gm rfl (Bg 5 rfl rfl (fun q=>AF rfl) ?_)))))))
 refine Bg 5 rfl rfl (fun q=>Af (cF rfl q) rfl) ?_
 refine Gt (BS rfl rfl (fun h=>by rw [h];rfl)) ?_
 refine Gm rfl (Bg 9 rfl rfl (fun q=>AF rfl) (Bg 9 rfl rfl (fun q=>Af (cF rfl q) rfl) ?_))
 refine Gt (BS rfl rfl (fun h=>by rw [h];rfl)) ?_
 refine Ga rfl (Gn (.t1 2) (Ac ?_))
 refine AY rfl (.tmp rfl .n) ?_
 intro w1 hS;refine⟨?_,hS.Am⟩;rfl
theorem Jh (X:AH)(b:Int)(e:Ing.Event)(w:World):Ed Tryz.prog 157 #[.agg X.enc.toArray, .int .i64 b, .agg e.enc.toArray] w fun v w'=>v = .int .i64 (X.B4 b e)∧CA w w':=by
 refine Ak [] [] Tryz.func157 rfl rfl rfl (St.start w []) ?_
 refine Gs ?_
 refine B6 rfl rfl rfl (fun b1=>?_)
 refine B6 rfl rfl rfl (fun b2=>?_)
 refine Ga rfl (Gn (.t3 1 3 5) (Ao (Ae (Gs (Gt (AZ rfl BW .m1 (AU.id AH.fl.len AH.fl.one) rfl) (Gm rfl ?_))))))
 refine BA rfl Xs (.c rfl (.c rfl .n)) (fun w hS=>F8 _ _ w) ?_
 refine Gt (BT rfl) (Ga rfl (Gn (.t4 1 3 5 8) ?_))
 refine Gc (fun c1=>?_) (fun c1=>?_)
 ·
  refine Gs (Ga rfl (Gn (.t1 6) (Ac (AS (AD ?_)))))
  refine AY rfl (.tmp rfl .n) ?_
  intro w1 hS;refine⟨?_,hS.Am⟩;rw [show X.B4 b e=_ from(BB c1)];rfl
 have c1p:=kz c1
 have hr:0≤b∧b < 6:=by simp at c1;have h1:=AH.HO c1;omega
 refine Gs (Gm rfl (Gt (Ai Mj rfl) (Gt (AG rfl A2 .m0 Ing.Event.l2 rfl rfl) (Gt (Af rfl rfl) (Ga rfl (Gn (.t4 1 3 5 13) ?_))))))
 refine Gc (fun c2=>?_) (fun c2=>?_)
 ·
  refine CG (Gt (Ai Gw rfl) (Gt (AG rfl A2 .m0 Ing.Event.l3 rfl rfl) (Gt (A7 rfl rfl) (Gm rfl (Bg 21 rfl rfl (fun q=>Ai Gw rfl) (Bg 21 rfl rfl (fun q=>AG (cF rfl q) A2 .m0 Ing.Event.l3 rfl rfl) (Bg 21 rfl rfl (fun q=>CK (cF rfl q) rfl) ?_)))))))
  refine Gt (BS rfl rfl (fun h=>by rw [h];rfl)) ?_
  refine Gm rfl (Bg 26 rfl rfl (fun q=>AZ rfl BW .m1 (AU.id AH.fl.len AH.fl.one) rfl) (Bg 26 rfl rfl (fun q=>AF rfl) (Bg 26 rfl rfl (fun q=>Ai Gw rfl) (Bg 26 rfl rfl (fun q=>AG (cF rfl q) A2 .m0 Ing.Event.l3 rfl rfl) ?_))))
  refine Qi (t:=26) rfl rfl rfl (fun q=>by have q1:=q;(try simp at q1);exact D9 Ot (.c (cF rfl q) (.c (cF rfl q) (.c (cF rfl q) .n))) (fun w hS=>DQ _ _ _ w)) ?_
  refine Gt (BS rfl rfl (fun h=>by rw [h];rfl)) ?_
  refine Gn (.t1 32) ?_
  refine Gc (fun c3=>?_) (fun c3=>?_)
  ·
   refine Gs (Ga rfl (Gn (.t1 6) (Ac (AD (AS (AD ?_))))))
   refine AY rfl (.tmp rfl .n) ?_
   intro w1 hS;refine⟨?_,hS.Am⟩;rw [show X.B4 b e=_ from((AX c1).trans ((BB c2).trans (BB c3)))];rfl
  refine Aa ?_
  refine AB (.nil _) ?_
  refine AA (Gs (Ga rfl (AQ (AA (Ac (AS (AD ?_)))))))
  refine AY rfl (.tmp rfl .n) ?_
  intro w1 hS;refine⟨?_,hS.Am⟩;rw [show X.B4 b e=_ from((AX c1).trans ((BB c2).trans (AX c3)))];rfl
 have c2p:=kz c2
 refine Ao ?_
 refine BE (N:=14) [0,1,3,7,15,15,63,127,255,15,527,2047,4095,8191] mix (by kernel_rfl) rfl ?_
 refine Pf 0 rfl (Ai Mf rfl) (Pf 1 rfl (AG rfl A2 .m0 Ing.Event.l0 rfl rfl) (Pf 2 rfl (Af rfl rfl) (Pf 3 rfl (AF rfl) (Ho 4 37 rfl rfl rfl (fun q=>AF rfl) (Ho 5 37 rfl rfl rfl (fun q=>Ai Bo rfl) ?_)))))
 refine BX 6 rfl rfl (by kernel_rfl) (G9 (t:=37) rfl rfl (fun q=>by have q1:=q;(try simp at q1);exact Is (AR C8 (cF rfl q) (cF rfl q) (by omega) (by omega)))) ?_
 refine Ho 7 37 rfl rfl rfl (fun q=>Ai C2 (cF rfl q)) ?_
 refine BX 8 rfl rfl (by kernel_rfl) (G9 (t:=37) rfl rfl (fun q=>by have q1:=q;(try simp at q1);exact Is (AG (cF rfl q) A2 .m1 ((AH.l2.comp (AU.ar (n:=6) Aj.fl (by omega))).comp Aj.l3) rfl rfl))) ?_
 refine Ho 9 37 rfl rfl rfl (fun q=>Ai UG rfl) (Ho 10 37 rfl rfl rfl (fun q=>AG (cF rfl q) A2 .m0 Ing.Event.l1 rfl rfl) (Ho 11 37 rfl rfl rfl (fun q=>Cb (cF rfl q) (cF rfl q)) ?_))
 refine Pf 12 rfl (BS rfl rfl (fun h=>by rw [h];rfl)) ?_
 refine Pf 13 rfl (A0 rfl) ?_
 refine A4 (by kernel_rfl) ?_
 refine AB (.t4 1 3 5 33) ?_
 refine AA ?_
 refine Gc (fun c4=>?_) (fun c4=>?_)
 ·
  refine Gs (Ga rfl (Gn (.t1 6) (Ac (AS (AD ?_)))))
  refine AY rfl (.tmp rfl .n) ?_
  intro w1 hS;refine⟨?_,hS.Am⟩;rw [show X.B4 b e=_ from((AX c1).trans ((AX c2).trans (BB c4)))];rfl
 have c4p:=kz c4
 refine Aa ?_
 refine AB (.t3 1 3 5) ?_
 refine AV (AA (Gs (Ga rfl (AQ (AA (CG (Gt (AZ rfl BW .m1 (AU.id AH.fl.len AH.fl.one) rfl) ?_)))))))
 refine Gm rfl (Gt (Ai Mj rfl) (Gt (AG rfl A2 .m0 Ing.Event.l2 rfl rfl) ?_))
 refine BA rfl Ot (.c rfl (.c rfl (.c rfl .n))) (fun w hS=>DQ _ _ _ w) ?_
 refine Gt (BT rfl) (Gn (.t5 1 3 5 7 52) ?_)
 refine Gc (fun c5=>?_) (fun c5=>?_)
 ·
  have c5p:=kz c5
  refine CG (Gt (Ai Mf rfl) (Gt (AG rfl A2 .m0 Ing.Event.l0 rfl rfl) ?_))
  refine BA rfl bm (.c rfl .n) (fun w hS=>NJ _ w) ?_
  refine Gt (BT rfl) (Gn (.t5 1 3 5 7 56) ?_)
  refine Gc (fun c6=>?_) (fun c6=>?_)
  ·
   refine Gs (Ga rfl (Gn (.t1 6) (Ac (AD (AD ?_)))))
   refine AY rfl (.tmp rfl .n) ?_
   intro w1 hS;refine⟨?_,hS.Am⟩;rw [show X.B4 b e=_ from((AX c1).trans ((AX c2).trans ((AX c4).trans ((BB c5).trans (BB c6)))))];rfl
  have c6p:=kz c6
  refine Aa ?_
  refine AB (.t4 1 3 5 7) ?_
  refine AA (AJ (Gm rfl ?_))
  refine Gt (Av rfl rfl (IntWalk.i64_in _ (by omega))) ?_
  refine Ga rfl (Gn (.t4 1 3 5 7) (CG (Gt (Ai Gw rfl) (Gt (AG rfl A2 .m0 Ing.Event.l3 rfl rfl) (Gt (CK rfl rfl) (Gm rfl (Bf 62 rfl rfl (fun q=>Ai Gw rfl) ?_)))))))
  refine Bf 62 rfl rfl (fun q=>AG (Bc rfl q) A2 .m0 Ing.Event.l3 rfl rfl) (Bf 62 rfl rfl (fun q=>A7 (Bc rfl q) rfl) (Gt (BG rfl rfl (fun h=>h)) (Gm rfl (Bf 67 rfl rfl (fun q=>AZ rfl BW .m1 (AU.id AH.fl.len AH.fl.one) rfl) (Bf 67 rfl rfl (fun q=>AF rfl) (Bf 67 rfl rfl (fun q=>Ai Gw rfl) (Bf 67 rfl rfl (fun q=>AG (Bc rfl q) A2 .m0 Ing.Event.l3 rfl rfl) ?_)))))))
  refine Mm (t:=67) rfl rfl rfl (fun q=>D9 Ot (.c (Bc rfl q) (.c (Bc rfl q) (.c (Bc rfl q) .n))) (fun w hS=>DQ _ _ _ w)) ?_
  refine Bf 67 rfl rfl (fun q=>BT (Bc rfl q)) (Gt (BG rfl rfl (fun h=>h)) (Gn (.t2 7 74) ?_))
  refine Gc (fun c7=>?_) (fun c7=>?_)
  ·
   have c7p:=kz c7
   refine AJ (Gm rfl ?_)
   refine Gt (Av rfl rfl (IntWalk.i64_in _ (by omega))) ?_
   refine Ga rfl (Gn (.t1 7) (Gs (Gm rfl (Ga rfl (Gn (.t1 6) (Ac ?_))))))
   refine AY rfl (.tmp rfl .n) ?_
   intro w1 hS;refine⟨?_,hS.Am⟩;rw [show X.B4 b e=_ from((AX c1).trans ((AX c2).trans ((AX c4).trans ((BB c5).trans ((AX c6).trans (BB c7))))))];rfl
  refine Aa ?_
  refine AB (.t1 7) ?_
  refine AA (Gs (Gm rfl (Ga rfl (Gn (.t1 6) (Ac ?_)))))
  refine AY rfl (.tmp rfl .n) ?_
  intro w1 hS;refine⟨?_,hS.Am⟩;rw [show X.B4 b e=_ from((AX c1).trans ((AX c2).trans ((AX c4).trans ((BB c5).trans ((AX c6).trans (AX c7))))))];rfl
 have c5p:=kz c5
 refine Aa ?_
 refine AB (.t4 1 3 5 7) ?_
 refine AA (CG (Gt (Ai Gw rfl) (Gt (AG rfl A2 .m0 Ing.Event.l3 rfl rfl) (Gt (CK rfl rfl) (Gm rfl (Bf 62 rfl rfl (fun q=>Ai Gw rfl) (Bf 62 rfl rfl (fun q=>AG (Bc rfl q) A2 .m0 Ing.Event.l3 rfl rfl) ?_)))))))
 refine Bf 62 rfl rfl (fun q=>A7 (Bc rfl q) rfl) (Gt (BG rfl rfl (fun h=>h)) (Gm rfl (Bf 67 rfl rfl (fun q=>AZ rfl BW .m1 (AU.id AH.fl.len AH.fl.one) rfl) (Bf 67 rfl rfl (fun q=>AF rfl) (Bf 67 rfl rfl (fun q=>Ai Gw rfl) (Bf 67 rfl rfl (fun q=>AG (Bc rfl q) A2 .m0 Ing.Event.l3 rfl rfl) ?_))))))
 refine Mm (t:=67) rfl rfl rfl (fun q=>D9 Ot (.c (Bc rfl q) (.c (Bc rfl q) (.c (Bc rfl q) .n))) (fun w hS=>DQ _ _ _ w)) ?_
 refine Bf 67 rfl rfl (fun q=>BT (Bc rfl q)) (Gt (BG rfl rfl (fun h=>h)) (Gn (.t2 7 74) ?_))
 refine Gc (fun c8=>?_) (fun c8=>?_)
 ·
  have c8p:=kz c8
  refine AJ (Gm rfl ?_)
  refine Gt (Av rfl rfl (IntWalk.i64_in _ (by omega))) ?_
  refine Ga rfl (Gn (.t1 7) (Gs (Gm rfl (Ga rfl (Gn (.t1 6) (Ac ?_))))))
  refine AY rfl (.tmp rfl .n) ?_
  intro w1 hS;refine⟨?_,hS.Am⟩;rw [show X.B4 b e=_ from((AX c1).trans ((AX c2).trans ((AX c4).trans ((AX c5).trans (BB c8)))))];rfl
 refine Aa ?_
 refine AB (.t1 7) ?_
 refine AA (Gs (Gm rfl (Ga rfl (Gn (.t1 6) (Ac ?_)))))
 refine AY rfl (.tmp rfl .n) ?_
 intro w1 hS;refine⟨?_,hS.Am⟩;rw [show X.B4 b e=_ from((AX c1).trans ((AX c2).trans ((AX c4).trans ((AX c5).trans (AX c8)))))];rfl
theorem JV (X:AH)(e:Ing.Event)(w:World):Ed Tryz.prog 123 #[.agg X.enc.toArray, .agg e.enc.toArray] w fun v w'=>v = .agg (X.G0 e 6).enc.toArray∧CA w w':=by
 refine Ak [] [] Tryz.func123 rfl rfl rfl (St.start w []) ?_
 refine Gs ?_
 refine B6 rfl rfl rfl (fun b1=>?_)
 refine B6 rfl rfl rfl (fun b2=>?_)
 refine BD rfl HZ rfl (fun b3=>?_)
 refine Gn (.t3 2 3 4) (CG (Gm rfl (AQ (AA (Ae ?_)))))
 refine Bn (.t4 6 2 3 4) ?_
 refine Ba (.t .h) ?_
 refine CY (fun(k:Int)=>0≤k∧k≤6) (fun(k:Int)=>(6 - k).toNat) (fun(k:Int)=> [(6, .int .i64 k)]) (fun(k:Int)=> [Ab.box b2 56 (Ing.Event.enc (X.G0 e k.toNat))]) (0) ?_ rfl rfl (fun k hI1=>?_)
 · exact⟨Int.le_refl _,by omega⟩
 obtain⟨hI11,hI12⟩:=hI1
 refine Gs (Gt (A7 rfl rfl) (AQ (AA (Ao ?_))))
 refine Gc (fun c1=>?_) (fun c1=>?_)
 ·
  have c1p:=kz c1
  refine Aa ?_
  refine AB (.t4 2 3 4 6) ?_
  refine AA (Ao (Ae (Gs (Gm rfl (Ga rfl (Gn (.t5 2 3 4 5 6) (AJ ?_)))))))
  refine Gm rfl (Gt (AZ rfl BW .m2 (AU.id AH.fl.len AH.fl.one) rfl) (Gm rfl (Gt (AZ rfl L4 .m0 (AU.id Ing.Event.fl.len Ing.Event.fl.one) rfl) ?_)))
  refine BA rfl cq (.c rfl (.c rfl (.c rfl .n))) (fun w hS=>Jh _ _ _ w) ?_
  refine Gt (Ai Lk rfl) ?_
  refine Gt (AR Qw rfl rfl (by omega) (by omega)) ?_
  refine AT (AK (Ing.Event.l10.comp (AU.ar (n:=6) Bu (by omega))) rfl rfl rfl C6 rfl .h) ?_
  refine AQ (AB (.t4 2 3 4 6) ?_)
  refine AV (AA (AJ ?_))
  refine Gt (Av rfl rfl (IntWalk.i64_in _ (by omega))) ?_
  refine Gm rfl ?_
  refine AQ (AB (.t4 2 3 4 6) ?_)
  refine B2 (k+1) ?_ ?_ (.t4 6 2 3 4) (by rw [AH.VK (by omega)];exact(.refl _))
  · exact⟨by omega,by omega⟩
  · omega
 have c1p:=kz c1
 obtain rfl:k=6:=by omega
 refine Bb (AW (AW (Ag ?_)))
 refine AB (.t2 3 4) ?_
 refine AA (Gs (Gt (AZ rfl L4 .m0 (AU.id Ing.Event.fl.len Ing.Event.fl.one) rfl) ?_))
 refine AT (AK (AU.id Ing.Event.fl.len Ing.Event.fl.one) rfl rfl rfl L6 rfl (.t .h)) ?_
 refine Gn (.t1 4) (Ac ?_)
 refine AY rfl (.cell rfl .m1 (.inl ⟨(by rw [Ing.Event.fl.len];exact L4),rfl⟩) .n) ?_
 intro w1 hS;refine⟨?_,hS.Am⟩;rfl
theorem CN (b:Nat)(T:AE)(g:Hd)(e:Ing.Event)(hg:g.len=T.out.length)(hb:0≤T.b∧T.b < 6)(ho:e.other < 6)(hn:T.out.length≤100000):JQ Tryz.prog 96 #[.pointer (some ⟨b,0,none⟩), .agg e.enc.toArray] [Ab.box b 163 (Ad.enc ⟨T.w,T.b,g⟩),Ab.own g 56 16 (T.out.flatMap Ing.Event.enc)] (fun v B=>∃ g':Hd,v = .tuple #[]∧g'.len=(T.BO e).out.length∧B = [Ab.box b 163 (Ad.enc ⟨(T.BO e).w,(T.BO e).b,g'⟩),Ab.own g' 56 16 ((T.BO e).out.flatMap Ing.Event.enc)]):=by
 intro w hS0
 refine Ak _ _ Tryz.func96 rfl rfl rfl (hS0) ?_
 refine Gs ?_
 refine B6 rfl rfl rfl (fun b1=>?_)
 refine Gn (.t2 0 3) (Ao ?_)
 refine BE (N:=12) [0,0,2,6,14,1,33,97,255,511,0,2047] mix (by kernel_rfl) rfl ?_
 refine Pf 0 rfl (AF rfl) (Pf 1 rfl (AF rfl) (Pf 2 rfl (BV rfl) (Pf 3 rfl (Ai CO rfl) (Pf 4 rfl (AG rfl A2 .m1 Ad.l1 rfl rfl) (Pf 5 rfl (BV rfl) (Pf 6 rfl (Ai A9 rfl) (Pf 7 rfl (Ai Bo rfl) ?_)))))))
 refine Pf 8 rfl (AR C8 rfl rfl (by(try dsimp only at *);omega) (by(try dsimp only at *);omega)) ?_
 refine Pf 9 rfl (AZ rfl Fi .m1 ((Ad.l0.comp AH.l2).comp (AU.arr (n:=6) Aj.fl (by(try dsimp only at *);omega) (by(try dsimp only at *);omega))) rfl) ?_
 refine An 10 rfl (by kernel_rfl) ?_
 refine BD rfl Lu rfl (fun b2=>?_)
 refine Bq rfl ⟨?_,?_⟩
 · exact(Po rfl (AZ rfl Fi .m2 ((Ad.l0.comp AH.l2).comp (AU.arr (n:=6) Aj.fl (by(try dsimp only at *);omega) (by(try dsimp only at *);omega))) rfl) rfl rfl (Po rfl (AR C8 rfl rfl (by(try dsimp only at *);omega) (by(try dsimp only at *);omega)) rfl rfl (Po rfl (Ai Bo rfl) rfl rfl (Po rfl (Ai A9 rfl) rfl rfl (Po rfl (BV rfl) rfl rfl (Po rfl (AG rfl A2 .m2 Ad.l1 rfl rfl) rfl rfl (Po rfl (Ai CO rfl) rfl rfl (Po rfl (BV rfl) rfl rfl (Po rfl (AF rfl) rfl rfl (Po rfl (AF rfl) rfl rfl As))))))))))
 refine An 11 rfl (by kernel_rfl) ?_
 refine AT (AK (AU.id Aj.fl.len Aj.fl.one) rfl rfl rfl KX rfl .h) ?_
 refine BN rfl ⟨?_,?_⟩
 · exact(Pk (Pk (Pk (Pk (Pk (Pk (Pk (Pk (Pk (Pk As))))))))))
 refine A4 (by kernel_rfl) ?_
 refine AB (.t3 0 3 4) ?_
 refine AA (Ao ?_)
 refine BE (N:=14) [0,1,3,7,0,16,0,64,15,271,831,1855,4095,8191] mix (by kernel_rfl) rfl ?_
 refine Pf 0 rfl (AF rfl) (Pf 1 rfl (BV rfl) (Pf 2 rfl (Ai CO rfl) (Pf 3 rfl (AG rfl A2 .m2 Ad.l1 rfl rfl) (Pf 4 rfl (Ai K3 rfl) (Pf 5 rfl (AG rfl CX .m0 Aj.l0 rfl rfl) (Pf 6 rfl (Ai C2 rfl) (Pf 7 rfl (AG rfl A2 .m0 Aj.l3 rfl rfl) ?_)))))))
 refine Pf 8 rfl (Ai Mj rfl) ?_
 refine An 9 rfl (by kernel_rfl) ?_
 refine AT (AK Ing.Event.l2 rfl rfl rfl C6 rfl (.t .h)) ?_
 refine BN rfl ⟨?_,?_⟩
 · exact(Pk (Po rfl (AG rfl A2 .m0 Aj.l3 rfl rfl) rfl rfl (Po rfl (Ai C2 rfl) rfl rfl (Po rfl (AG rfl CX .m0 Aj.l0 rfl rfl) rfl rfl (Po rfl (Ai K3 rfl) rfl rfl (Pk (Pk (Pk (Pk As)))))))))
 refine Pf 10 rfl (Ai X6 rfl) ?_
 refine An 11 rfl (by kernel_rfl) ?_
 refine AT (AK Ing.Event.l6 rfl rfl rfl E5 rfl (.t .h)) ?_
 refine BN rfl ⟨?_,?_⟩
 · exact(Pk (Pk (Po rfl (AG rfl A2 .m0 Aj.l3 rfl rfl) rfl rfl (Po rfl (Ai C2 rfl) rfl rfl (Pk (Pk (Pk (Pk (Pk (Pk As))))))))))
 refine Pf 12 rfl (Ai UG rfl) ?_
 refine An 13 rfl (by kernel_rfl) ?_
 refine AT (AK Ing.Event.l1 rfl rfl rfl C6 rfl (.t .h)) ?_
 refine BN rfl ⟨?_,?_⟩
 · exact(Pk (Pk (Pk (Pk (Pk (Pk (Pk (Pk (Pk (Pk (Pk As)))))))))))
 refine A4 (by kernel_rfl) ?_
 refine AB (.t2 0 3) ?_
 refine AA (CG (Gt (Ai Gw rfl) (Gt (AG rfl A2 .m1 Ing.Event.l3 rfl rfl) (Gt (CK rfl rfl) (Gn (.t3 0 3 28) ?_)))))
 refine Gc (fun c1=>?_) (fun c1=>?_)
 ·
  have c1p:=kz c1
  refine BE (N:=11) [0,0,2,1,9,25,63,127,255,511,1023] mix (by kernel_rfl) rfl ?_
  refine Pf 0 rfl (AF rfl) (Pf 1 rfl (Ai Gw rfl) (Pf 2 rfl (AG rfl A2 .m1 Ing.Event.l3 rfl rfl) (Pf 3 rfl (BV rfl) (Pf 4 rfl (Ai A9 rfl) (Pf 5 rfl (Ai Bo rfl) ?_)))))
  refine Pf 6 rfl (AR C8 rfl rfl (by(try dsimp only at *);omega) (by(try dsimp only at *);omega)) ?_
  refine Pf 7 rfl (Ai K3 rfl) ?_
  refine Pf 8 rfl (AG rfl CX .m2 (((Ad.l0.comp AH.l2).comp (AU.arr (n:=6) Aj.fl (by(try dsimp only at *);omega) (by(try dsimp only at *);omega))).comp Aj.l0) rfl rfl) ?_
  refine Pf 9 rfl (Ai Wd rfl) ?_
  refine An 10 rfl (by kernel_rfl) ?_
  refine AT (AK Ing.Event.l7 rfl rfl rfl E5 rfl (.t .h)) ?_
  refine BN rfl ⟨?_,?_⟩
  · exact(Pk (Pk (Pk (Pk (Pk (Pk (Pk (Pk (Pk (Pk As))))))))))
  refine A4 (by kernel_rfl) ?_
  refine AB (.t2 0 3) ?_
  refine AA ?_
  refine BE (N:=16) [0,0,2,6,14,0,32,96,224,0,992,2016,4094,8191,16383,32767] mix (by kernel_rfl) rfl ?_
  refine Pf 0 rfl (AF rfl) (Pf 1 rfl (AF rfl) (Pf 2 rfl (BV rfl) (Pf 3 rfl (Ai CJ rfl) (Pf 4 rfl (AG rfl Di .m2 Ad.l2 rfl rfl) (Pf 5 rfl (AF rfl) (Pf 6 rfl (BV rfl) (Pf 7 rfl (Ai A9 rfl) ?_)))))))
  refine Pf 8 rfl (AZ rfl BW .m2 Ad.l0 rfl) (Pf 9 rfl (AZ rfl L4 .m1 (AU.id Ing.Event.fl.len Ing.Event.fl.one) rfl) ?_)
  refine BX 10 rfl rfl (by kernel_rfl) (MD (LJ (D9 Zb (.c rfl (.c rfl .n)) (fun w hS=>JV _ _ w)))) ?_
  refine An 11 rfl (by kernel_rfl) ?_
  refine Fy Ing.Event.enc Ing.Event.fl rfl Tryz.underlying53 L6 HZ rfl (by decide) (by decide) rfl rfl (fun b3=>?_)
  refine Bq rfl ⟨?_,?_⟩
  · exact(Pk (Pk (Pk (Pk (Pk (Pk (Po rfl (AG rfl Di .m3 Ad.l2 rfl rfl) rfl rfl (Po rfl (Ai CJ rfl) rfl rfl (Po rfl (BV rfl) rfl rfl (Po rfl (AF rfl) rfl rfl (Po rfl (AF rfl) rfl rfl As)))))))))))
  refine An 12 rfl (by kernel_rfl) ?_
  refine Ce Ing.Event.fl rfl Tryz.underlying53 L6 HZ rfl VP (by decide) (by decide) rfl rfl (fun w hS=>Src.D7 Tryz.underlying53 ((Kn.own .m0) w hS)) (by(try dsimp only);omega) (fun _=>(.t (.t (.t (.t .h))))) (fun h1 h1l h1z=>?_)
  refine Bq rfl ⟨?_,?_⟩
  · exact(Pk (Pk (Pk (Pk (Pk (Pk (Pk (Pk (Pk (Pk (Po rfl (AF rfl) rfl rfl As)))))))))))
  refine Pf 13 rfl (BV rfl) (Pf 14 rfl (Ai CJ rfl) ?_)
  refine An 15 rfl (by kernel_rfl) ?_
  refine AT (AK Ad.l2 rfl rfl rfl Ra rfl (.t (.t (.t .h)))) ?_
  refine BN rfl ⟨?_,?_⟩
  · exact(Pk (Pk (Pk (Pk (Pk (Pk (Pk (Pk (Pk (Pk (Pk (Pk (Pk As)))))))))))))
  refine A4 (by kernel_rfl) ?_
  refine Bk rfl .n ?_
  intro w1 hS
  have hS:=(hS.perm (Ax.perm (.c (.t (.t (.t .h))) (.c (.t (.t (.t .h))) .n)))).A1
  refine⟨_,⟨?gqTrue,rfl,?hlTrue,?hBTrue⟩,hS⟩
  case hBTrue=>rw [AE.BO,show T.Dh e=_ from BB c1];rfl
  case hlTrue=>simp only [AE.Cf];(try dsimp only at *);omega
 have c1p:=kz c1
 refine Aa ?_
 refine AB (.t2 0 3) ?_
 refine AA ?_
 refine BE (N:=16) [0,0,2,6,14,0,32,96,224,0,992,2016,4094,8191,16383,32767] mix (by kernel_rfl) rfl ?_
 refine Pf 0 rfl (AF rfl) (Pf 1 rfl (AF rfl) (Pf 2 rfl (BV rfl) (Pf 3 rfl (Ai CJ rfl) (Pf 4 rfl (AG rfl Di .m2 Ad.l2 rfl rfl) (Pf 5 rfl (AF rfl) (Pf 6 rfl (BV rfl) (Pf 7 rfl (Ai A9 rfl) ?_)))))))
 refine Pf 8 rfl (AZ rfl BW .m2 Ad.l0 rfl) (Pf 9 rfl (AZ rfl L4 .m1 (AU.id Ing.Event.fl.len Ing.Event.fl.one) rfl) ?_)
 refine BX 10 rfl rfl (by kernel_rfl) (MD (LJ (D9 Zb (.c rfl (.c rfl .n)) (fun w hS=>JV _ _ w)))) ?_
 refine An 11 rfl (by kernel_rfl) ?_
 refine Fy Ing.Event.enc Ing.Event.fl rfl Tryz.underlying53 L6 HZ rfl (by decide) (by decide) rfl rfl (fun b4=>?_)
 refine Bq rfl ⟨?_,?_⟩
 · exact(Pk (Pk (Pk (Pk (Pk (Pk (Po rfl (AG rfl Di .m3 Ad.l2 rfl rfl) rfl rfl (Po rfl (Ai CJ rfl) rfl rfl (Po rfl (BV rfl) rfl rfl (Po rfl (AF rfl) rfl rfl (Po rfl (AF rfl) rfl rfl As)))))))))))
 refine An 12 rfl (by kernel_rfl) ?_
 refine Ce Ing.Event.fl rfl Tryz.underlying53 L6 HZ rfl VP (by decide) (by decide) rfl rfl (fun w hS=>Src.D7 Tryz.underlying53 ((Kn.own .m0) w hS)) (by(try dsimp only);omega) (fun _=>(.t (.t (.t (.t .h))))) (fun h2 h2l h2z=>?_)
 refine Bq rfl ⟨?_,?_⟩
 · exact(Pk (Pk (Pk (Pk (Pk (Pk (Pk (Pk (Pk (Pk (Po rfl (AF rfl) rfl rfl As)))))))))))
 refine Pf 13 rfl (BV rfl) (Pf 14 rfl (Ai CJ rfl) ?_)
 refine An 15 rfl (by kernel_rfl) ?_
 refine AT (AK Ad.l2 rfl rfl rfl Ra rfl (.t (.t (.t .h)))) ?_
 refine BN rfl ⟨?_,?_⟩
 · exact(Pk (Pk (Pk (Pk (Pk (Pk (Pk (Pk (Pk (Pk (Pk (Pk (Pk As)))))))))))))
 refine A4 (by kernel_rfl) ?_
 refine Bk rfl .n ?_
 intro w1 hS
 have hS:=(hS.perm (Ax.perm (.c (.t (.t (.t .h))) (.c (.t (.t (.t .h))) .n)))).A1
 refine⟨_,⟨?gqFalse,rfl,?hlFalse,?hBFalse⟩,hS⟩
 case hBFalse=>rw [AE.BO,show T.Dh e=_ from AX c1];rfl
 case hlFalse=>simp only [AE.Cf];(try dsimp only at *);omega
theorem GN (b:Nat)(T:AE)(g:Hd)(k:Int)(hg:g.len=T.out.length)(hb:0≤T.b∧T.b < 6)(hn:T.out.length≤100000):JQ Tryz.prog 124 #[.pointer (some ⟨b,0,none⟩), .int .i64 k] [Ab.box b 163 (Ad.enc ⟨T.w,T.b,g⟩),Ab.own g 56 16 (T.out.flatMap Ing.Event.enc)] (fun v B=>∃ g':Hd,v = .tuple #[]∧g'.len=(T.kind k).out.length∧B = [Ab.box b 163 (Ad.enc ⟨(T.kind k).w,(T.kind k).b,g'⟩),Ab.own g' 56 16 ((T.kind k).out.flatMap Ing.Event.enc)]):=by
 intro w hS0
 refine Ak _ _ Tryz.func124 rfl rfl rfl (hS0) ?_
 refine AJ (Gm rfl (Gm rfl (Gt (BC Nn HZ rfl (.cons Ing.Event.l0 rfl rfl rfl (.cons Ing.Event.l3 rfl rfl rfl .nil))) ?_)))
 refine Ah rfl N0 (.c rfl (.c rfl .n)) (.c .h (.c .h .n)) (CN _ _ _ (AE.F0 k) hg hb (show(-1:Int) < 6 by decide) hn) (fun v1 B hv=>?_)
 obtain⟨y2,rfl,y3,rfl⟩:=hv
 refine AQ ?_
 refine Bk rfl .n ?_
 intro w1 hS
 have hS:=(hS.perm (Ax.perm (.c .h (.c .h .n)))).A1
 exact⟨_,⟨_,rfl,by assumption,rfl⟩,hS⟩
theorem Be (b:Nat)(T:AE)(g:Hd)(u:Ap)(hg:g.len=T.out.length)(hb:0≤T.b∧T.b < 6)(hn:T.out.length≤100000):JQ Tryz.prog 127 #[.pointer (some ⟨b,0,none⟩),BU u] [Ab.box b 163 (Ad.enc ⟨T.w,T.b,g⟩),Ab.own g 56 16 (T.out.flatMap Ing.Event.enc)] (fun v B=>∃ g':Hd,v = .tuple #[]∧g'.len=(T.tell u).out.length∧B = [Ab.box b 163 (Ad.enc ⟨(T.tell u).w,(T.tell u).b,g'⟩),Ab.own g' 56 16 ((T.tell u).out.flatMap Ing.Event.enc)]):=by
 intro w hS0
 refine Ak _ _ Tryz.func127 rfl rfl rfl (hS0) ?_
 refine AJ (Gm rfl (Gm rfl (Gt (BC Nn HZ rfl (.cons Ing.Event.l0 rfl rfl rfl (.cons Ing.Event.l3 rfl rfl rfl (.cons Ing.Event.l9 rfl rfl rfl .nil)))) ?_)))
 refine Ah rfl N0 (.c rfl (.c rfl .n)) (.c .h (.c .h .n)) (CN _ _ _ { AE.F0 16 with text:=u } hg hb (show(-1:Int) < 6 by decide) hn) (fun v1 B hv=>?_)
 obtain⟨y2,rfl,y3,rfl⟩:=hv
 refine AQ ?_
 refine Bk rfl .n ?_
 intro w1 hS
 have hS:=(hS.perm (Ax.perm (.c .h (.c .h .n)))).A1
 exact⟨_,⟨_,rfl,by assumption,rfl⟩,hS⟩
theorem H6 (d:Int)(w:World)(gl0:GV 0 AH.DJ w):Ed Tryz.prog 52 #[.int .i64 d] w fun v w'=>v=BU (AH.called d)∧CA w w':=by
 refine Ak [] [] Tryz.func52 rfl rfl rfl (St.start w []) ?_
 refine Gs (Ga rfl (Gn (.t1 0) (CG (Gm rfl (Gt (A7 rfl rfl) (Gm rfl (Bg 5 rfl rfl (fun q=>AF rfl) ?_)))))))
 refine Bg 5 rfl rfl (fun q=>CK (cF rfl q) rfl) ?_
 refine Gt (BS rfl rfl (fun h=>by rw [h];rfl)) ?_
 refine Gn (.t2 0 8) ?_
 refine Gc (fun c1=>?_) (fun c1=>?_)
 ·
  refine Gs (Ga rfl (Gn (.t1 2) (Ac (AD ?_))))
  refine AY rfl (.tmp rfl .n) ?_
  intro w1 hS;refine⟨?_,hS.Am⟩;rw [show AH.called d=_ from BB c1];rfl
 have c1p:=kz c1
 have hr:0≤d∧d < 6:=by simp at c1;omega
 refine Aa ?_
 refine AB (.t1 0) ?_
 refine AA (Gs (Gm rfl ?_))
 refine Gt (AR Xd rfl rfl (by omega) (by omega)) ?_
 refine Gt (Qv gl0 rfl CX (AH.OR hr.1 hr.2)) (Ga rfl (Gn (.t1 2) (Ac ?_)))
 refine AY rfl (.tmp rfl .n) ?_
 intro w1 hS;refine⟨?_,hS.Am⟩;rw [show AH.called d=_ from AX c1];rfl
theorem FF (X:AH)(Ca at_:Int):JQ Tryz.prog 102 #[.agg X.enc.toArray, .int .i64 Ca, .int .i64 at_] [] (fun v B=>∃ h':Hd,v=h'.val∧h'.len=(X.has Ca at_).length∧B = [Ab.own h' 3 1 ((X.has Ca at_).flatMap Aq)]):=by
 intro w hS0
 refine Ak _ _ Tryz.func102 rfl rfl rfl (hS0) ?_
 refine Gs ?_
 refine B6 rfl rfl rfl (fun b1=>?_)
 refine Ga rfl (Gn (.t3 1 2 3) (Gs (Ga rfl (AQ (AA (CG (Gt (Ai Cz rfl) ?_)))))))
 refine Gt (AZ rfl XO .m0 AH.l1 rfl) (Gm rfl (Gn (.t5 1 2 7 11 12) (Ae ?_)))
 refine Bn (.t5 7 12 1 2 11) ?_
 refine E7 Aq 3 1 ?_
 refine Dl (fun(k:Int) (xs:List Int) (g:Hd)=>0≤k∧k≤9∧xs=X.PY Ca at_ k.toNat∧g.len=xs.length) (fun(k:Int) (xs:List Int) (g:Hd)=>(9 - k).toNat) (fun(k:Int) (xs:List Int) (g:Hd)=> [(7,g.val),(12, .int .i64 k)]) (fun(k:Int) (xs:List Int) (g:Hd)=> [Ab.own g 3 1 (xs.flatMap Aq)]) (0) ([]) (_) ?_ rfl rfl (fun k xs g hI1=>?_)
 · exact⟨by omega,by omega,rfl,rfl⟩
 obtain⟨hI11,hI12,hI13,hI14⟩:=hI1
 refine Gs (Gt (A7 rfl rfl) (AQ (AA (Ao ?_))))
 refine Gc (fun c1=>?_) (fun c1=>?_)
 ·
  have c1p:=kz c1
  have hxl:=AH.R2 X Ca at_ k.toNat
  rw [← hI13] at hxl
  refine Aa ?_
  refine AB (.t5 1 2 7 11 12) ?_
  refine AA (Ao (Ae (Gs (Gm rfl ?_))))
  refine Gt (GI Al.fl Tryz.underlying30 M5 rfl rfl (by omega) (by omega)) ?_
  refine BD rfl KY rfl (fun b2=>?_)
  refine Ga rfl ?_
  refine AT (AK (AU.id Al.fl.len Al.fl.one) rfl rfl rfl NL rfl .h) ?_
  refine Gn (.t7 1 2 7 8 9 11 12) (Gs (Gt (Ai FV rfl) (Gt (AG rfl A2 .m0 Al.l2 rfl rfl) (Gm rfl (Gt (Af rfl rfl) (Gm rfl (Bf 20 rfl rfl (fun q=>Ai DK rfl) ?_)))))))
  refine Bf 20 rfl rfl (fun q=>AG (Bc rfl q) A2 .m0 Al.l3 rfl rfl) (Bf 20 rfl rfl (fun q=>AF rfl) (Bf 20 rfl rfl (fun q=>Af (Bc rfl q) (Bc rfl q)) (Gt (BG rfl rfl (fun h=>h)) (Gn (.t7 1 2 7 8 11 12 25) ?_))))
  refine Gc (fun c2=>?_) (fun c2=>?_)
  ·
   have c2p:=kz c2
   refine AJ (Gm rfl (Gm rfl ?_))
   refine Fy Aq Bu rfl Tryz.underlying169 C6 ay rfl (by decide) (by decide) rfl rfl (fun b3=>?_)
   refine Ce Bu rfl Tryz.underlying169 C6 ay rfl dH (by decide) (by decide) rfl rfl (fun w hS=>Src.D7 Tryz.underlying169 ((Kn.own .m0) w hS)) (by(try dsimp only);omega) (fun _=>(.t (.t .h))) (fun h1 h1l h1z=>?_)
   refine Ga rfl ?_
   refine AQ (AB (.t5 1 2 7 11 12) ?_)
   refine AV (AA (AJ ?_))
   refine Gt (Av rfl rfl (IntWalk.i64_in _ (by omega))) ?_
   refine Gm rfl ?_
   refine AQ (AB (.t5 1 2 7 11 12) ?_)
   refine Bt (k+1) _ _ ?_ ?_ (.t5 7 12 1 2 11) (.cons _ (.cons _ (.refl _)))
   · exact⟨by omega,by omega,by rw [AH.ah hI11 c2,← hI13],(by(try dsimp only at *)<;>(try simp only [List.length_append,List.length_cons,List.length_nil])<;>omega)⟩
   · omega
  have c2p:=kz c2
  refine Aa ?_
  refine AB (.t5 1 2 7 11 12) ?_
  refine AV (AA (AJ ?_))
  refine Gt (Av rfl rfl (IntWalk.i64_in _ (by omega))) ?_
  refine Gm rfl ?_
  refine AQ (AB (.t5 1 2 7 11 12) ?_)
  refine Bt (k+1) _ _ ?_ ?_ (.t5 7 12 1 2 11) (.cons _ (.refl _))
  · exact⟨by omega,by omega,by rw [AH.aY hI11 c2,← hI13],(by(try dsimp only at *)<;>(try simp only [List.length_append,List.length_cons,List.length_nil])<;>omega)⟩
  · omega
 have c1p:=kz c1
 obtain rfl:k=9:=by omega
 refine Bb (AW (AW (Ag ?_)))
 refine AB (.t1 7) ?_
 refine AA (Gs (Gm rfl (Ga rfl (Gn (.t1 6) (Ac ?_)))))
 refine AY rfl (.tmp rfl .n) ?_
 intro w1 hS
 have hS:=(hS.perm (Ax.perm (.c .h .n))).A1
 exact⟨_,⟨_,rfl,by rw [AH.Tz,← hI13];assumption,by rw [AH.Tz,← hI13]⟩,hS⟩
end Go.Proofs.YtoidpggbbfncpaaGreatDoor
