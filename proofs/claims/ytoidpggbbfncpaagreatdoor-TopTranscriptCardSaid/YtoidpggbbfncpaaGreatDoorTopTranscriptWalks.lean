/- What the functions that the law TopTranscript reaches compute: walks, part 1. No condition. -/
import Derived.Test.YtoidpggbbfncpaaGreatDoorCards
import Derived.Test.YtoidpggbbfncpaaGreatDoorTie
import Derived.Deep.DeepHandedRow
import Derived.Test.YtoidpggbbfncpaaGreatDoorRows
import Derived.Test.YtoidpggbbfncpaaGreatDoorTopTranscriptEc3
import Derived.Test.YtoidpggbbfncpaaGreatDoorTopTranscriptRa1
import Derived.Test.YtoidpggbbfncpaaGreatDoorTopTranscriptRb1
import Derived.Test.YtoidpggbbfncpaaGreatDoorTopTranscriptRc1
set_option linter.unusedSimpArgs false
set_option linter.unusedVariables false
set_option maxRecDepth 100000
set_option maxHeartbeats 1000000
namespace Go.Proofs.YtoidpggbbfncpaaGreatDoor
open Go Go.Ing Go.RowKit Go.ChangeShapes Go.WideShapes Go.ChangeAt
theorem gf:Sz Tryz.prog 99 88:=D8 (by kernel_rfl)
theorem Gz:FA Tryz.prog 101 1 165:=B3 Tryz.underlying101 rfl gf
theorem U8:Sz Tryz.prog 98 22:=D8 (by kernel_rfl)
theorem Qm:IA Tryz.prog 99 4 22:=LV Tryz.underlying99 U8
theorem DO:Sz Tryz.prog 3 1:=D8 (by kernel_rfl)
theorem Jx:FA Tryz.prog 98 0 0:=B3 Tryz.underlying98 rfl DO
theorem A8:Ss Tryz.prog 3:=Jz Tryz.underlying3 rfl
theorem mix:Tryz.prog.follows .mixedOrders=true:=by kernel_rfl
theorem I9:FA Tryz.prog 98 1 1:=B3 Tryz.underlying98 rfl DO
theorem MA:Sz Tryz.prog 52 1:=D8 (by kernel_rfl)
theorem So:FA Tryz.prog 98 5 21:=B3 Tryz.underlying98 rfl MA
theorem EU:Ss Tryz.prog 52:=Jz Tryz.underlying52 rfl
theorem Ed:Sz Tryz.prog 9 1:=D8 (by kernel_rfl)
theorem SJ:ZV Tryz.prog 9 (BW []):=E7 (by kernel_rfl)
theorem Yf:BY Tryz.prog 9 16:=WZ (by kernel_rfl)
theorem Tv:ZV Tryz.prog 65 (.agg (Av.enc ⟨⟨none,0,0⟩,0,false,[],false⟩).toArray):=E7 (by kernel_rfl)
theorem Fb:Sz Tryz.prog 65 5:=D8 (by kernel_rfl)
theorem D2:FA Tryz.prog 98 4 16:=B3 Tryz.underlying98 rfl Fb
theorem C4:P6 Tryz.prog 65 5:=FR Tryz.underlying65 rfl Fb
theorem HS:FA Tryz.prog 65 0 0:=B3 Tryz.underlying65 rfl MA
theorem ek:Sz Tryz.prog 67 3:=D8 (by kernel_rfl)
theorem L6:FA Tryz.prog 69 3 3:=B3 Tryz.underlying69 rfl ek
theorem Lt:IA Tryz.prog 67 3 1:=LV Tryz.underlying67 DO
theorem Kg:FA Tryz.prog 69 4 6:=B3 Tryz.underlying69 rfl ek
theorem GC:FA Tryz.prog 69 0 0:=B3 Tryz.underlying69 rfl DO
theorem Ll:FA Tryz.prog 69 1 1:=B3 Tryz.underlying69 rfl DO
theorem HT:FA Tryz.prog 69 2 2:=B3 Tryz.underlying69 rfl Ed
theorem CO:Ss Tryz.prog 9:=Jz Tryz.underlying9 rfl
theorem Sn:FA Tryz.prog 69 5 9:=B3 Tryz.underlying69 rfl DO
theorem dT:Sz Tryz.prog 104 1:=D8 (by kernel_rfl)
theorem SM:FA Tryz.prog 107 0 0:=B3 Tryz.underlying107 rfl dT
theorem ZY:Ss Tryz.prog 104:=Jz Tryz.underlying104 rfl
theorem Uu:∃ i,Tryz.prog.info? 107=some i∧i.size≠0:=by
  have h:(Tryz.prog.info? 107).map (·.size)=some 2:=by kernel_rfl
  obtain⟨i,h1,h2⟩:=Option.map_eq_some_iff.1 h
  exact⟨i,h1,by omega⟩
theorem eV:CF Tryz.prog 71:=Tryz.call71
theorem WJ:Sz Tryz.prog 105 1:=D8 (by kernel_rfl)
theorem FG:FA Tryz.prog 107 1 1:=B3 Tryz.underlying107 rfl WJ
theorem I8:Ss Tryz.prog 105:=Jz Tryz.underlying105 rfl
theorem XG:Sz Tryz.prog 5 1:=D8 (by kernel_rfl)
theorem dm:ZV Tryz.prog 5 (.int .u8 0):=E7 (by kernel_rfl)
theorem iv:BY Tryz.prog 5 1:=WZ (by kernel_rfl)
theorem TD:CF Tryz.prog 74:=Tryz.call74
theorem dp:CF Tryz.prog 73:=Tryz.call73
theorem cQ:CF Tryz.prog 75:=Tryz.call75
theorem j7:Tryz.prog.cellsOf 5=1:=by kernel_rfl
theorem Xq:ZV Tryz.prog 69 (.agg (AK.enc (default:AK)).toArray):=E7 (by kernel_rfl)
theorem KE:Sz Tryz.prog 69 10:=D8 (by kernel_rfl)
theorem EI:P6 Tryz.prog 69 10:=FR Tryz.underlying69 rfl KE
theorem eM:CF Tryz.prog 55:=Tryz.call55
theorem WI:ZV Tryz.prog 107 (.agg (Dk.enc ⟨none,⟨none,0,0⟩⟩).toArray):=E7 (by kernel_rfl)
theorem ZC:IS Tryz.prog 105 1:=PO Tryz.underlying105 XG
theorem gM:Ss Tryz.prog 5:=Jz Tryz.underlying5 rfl
theorem bV:CF Tryz.prog 50:=Tryz.call50
theorem iz:CF Tryz.prog 56:=Tryz.call56
theorem Qs:CF Tryz.prog 51:=Tryz.call51
theorem gN:CF Tryz.prog 57:=Tryz.call57
theorem jB:CF Tryz.prog 58:=Tryz.call58
theorem ch:CF Tryz.prog 54:=Tryz.call54
theorem JO:IS Tryz.prog 52 1:=PO Tryz.underlying52 Ed
theorem jC:CF Tryz.prog 87:=Tryz.call87
theorem gH:CF Tryz.prog 76:=Tryz.call76
theorem jZ:CF Tryz.prog 59:=Tryz.call59
theorem fp:CF Tryz.prog 21:=Tryz.call21
theorem U7:IA Tryz.prog 62 4 1:=LV Tryz.underlying62 MA
theorem aY:IA Tryz.prog 63 4 1:=LV Tryz.underlying63 Ed
theorem fi:CF Tryz.prog 24:=Tryz.call24
theorem M8:FA Tryz.prog 41 0 0:=B3 Tryz.underlying41 rfl DO
theorem Sc:FA Tryz.prog 41 1 1:=B3 Tryz.underlying41 rfl DO
theorem dq:FA Tryz.prog 44 1 1:=B3 Tryz.underlying44 rfl Ed
theorem jI:CF Tryz.prog 28:=Tryz.call28
theorem gI:Ha Tryz.prog 69 [(0,1),(1,1),(2,1),(3,3),(6,3),(9,1)]:=⟨_,Tryz.underlying69,fun w=>by simp [DO w,Ed w,ek w]⟩
theorem I2:FA Tryz.prog 65 3 3:=B3 Tryz.underlying65 rfl Ed
theorem eP:CF Tryz.prog 29:=Tryz.call29
theorem iS:CF Tryz.prog 26:=Tryz.call26
theorem eK:CF Tryz.prog 30:=Tryz.call30
theorem N8:ZV Tryz.prog 35 (.agg (AH.enc (default:AH)).toArray):=E7 (by kernel_rfl)
theorem XA:ZV Tryz.prog 23 (.agg (B1 (n:=6) Az (Vector.replicate 6 default)).toArray):=E7 (by kernel_rfl)
theorem LG:Sz Tryz.prog 4 1:=D8 (by kernel_rfl)
theorem fc:ZV Tryz.prog 24 (.agg (B1 (n:=6) Ci (Vector.replicate 6 default)).toArray):=E7 (by kernel_rfl)
theorem au:Sz Tryz.prog 23 6:=D8 (by kernel_rfl)
theorem fg:Sz Tryz.prog 24 6:=D8 (by kernel_rfl)
theorem X5:Ha Tryz.prog 26 [(0,1),(1,1),(2,6),(8,6)]:=⟨_,Tryz.underlying26,fun w=>by simp [Ed w,LG w,au w,fg w]⟩
theorem QE:ZV Tryz.prog 26 (.agg (Room.enc (default:Room)).toArray):=E7 (by kernel_rfl)
theorem Sq:Sz Tryz.prog 26 14:=D8 (by kernel_rfl)
theorem jj:IS Tryz.prog 95 14:=PO Tryz.underlying95 Sq
theorem PY:P6 Tryz.prog 26 14:=FR Tryz.underlying26 rfl Sq
theorem gx:Sz Tryz.prog 27 84:=D8 (by kernel_rfl)
theorem HU:FA Tryz.prog 35 0 0:=B3 Tryz.underlying35 rfl gx
theorem Om:IA Tryz.prog 27 6 14:=LV Tryz.underlying27 Sq
theorem SE:Ha Tryz.prog 29 [(0,1),(1,1),(2,1),(3,1),(4,1)]:=⟨_,Tryz.underlying29,fun w=>by simp [Ed w,DO w,LG w]⟩
theorem LJ:ZV Tryz.prog 29 (.agg (An.enc (default:An)).toArray):=E7 (by kernel_rfl)
theorem OE:Sz Tryz.prog 29 5:=D8 (by kernel_rfl)
theorem jl:IS Tryz.prog 96 5:=PO Tryz.underlying96 OE
theorem Nl:P6 Tryz.prog 29 5:=FR Tryz.underlying29 rfl OE
theorem ff:Sz Tryz.prog 30 45:=D8 (by kernel_rfl)
theorem C6:FA Tryz.prog 35 1 84:=B3 Tryz.underlying35 rfl ff
theorem Gq:IA Tryz.prog 30 9 5:=LV Tryz.underlying30 OE
theorem Yk:Ha Tryz.prog 32 [(0,1),(1,1),(2,1),(3,1),(4,1),(5,1)]:=⟨_,Tryz.underlying32,fun w=>by simp [Ed w,LG w,DO w]⟩
theorem MX:ZV Tryz.prog 32 (.agg (Am.enc (default:Am)).toArray):=E7 (by kernel_rfl)
theorem gQ:Sz Tryz.prog 33 36:=D8 (by kernel_rfl)
theorem Bx:FA Tryz.prog 35 2 129:=B3 Tryz.underlying35 rfl gQ
theorem LH:Sz Tryz.prog 32 6:=D8 (by kernel_rfl)
theorem DI:IA Tryz.prog 33 6 6:=LV Tryz.underlying33 LH
theorem EP:Sz Tryz.prog 35 165:=D8 (by kernel_rfl)
theorem Bf:P6 Tryz.prog 35 165:=FR Tryz.underlying35 rfl EP
theorem jQ:CF Tryz.prog 15:=Tryz.call15
theorem Tj:Sz Tryz.prog 53 1:=D8 (by kernel_rfl)
theorem fq:Ha Tryz.prog 101 [(0,165),(165,88),(253,1),(254,1)]:=⟨_,Tryz.underlying101,fun w=>by simp [EP w,gf w,DO w,Tj w]⟩
theorem gv:ZV Tryz.prog 101 (.agg (AN.enc (default:AN)).toArray):=E7 (by kernel_rfl)
theorem fR:ZV Tryz.prog 75 (.agg (BR.enc ⟨[],false,false,⟨none,0,0⟩⟩).toArray):=E7 (by kernel_rfl)
theorem Gh:FA Tryz.prog 75 3 3:=B3 Tryz.underlying75 rfl MA
theorem Pc:Sz Tryz.prog 75 4:=D8 (by kernel_rfl)
theorem Kq:P6 Tryz.prog 75 4:=FR Tryz.underlying75 rfl Pc
theorem X1:CF Tryz.prog 69:=Tryz.call69
theorem SN:FA Tryz.prog 65 2 2:=B3 Tryz.underlying65 rfl LG
theorem Nd:FA Tryz.prog 65 1 1:=B3 Tryz.underlying65 rfl DO
theorem fW:CF Tryz.prog 116:=Tryz.call116
theorem dA:CF Tryz.prog 115:=Tryz.call115
theorem HR:FA Tryz.prog 29 1 1:=B3 Tryz.underlying29 rfl DO
theorem Gi:FA Tryz.prog 29 4 4:=B3 Tryz.underlying29 rfl LG
theorem D3:Ss Tryz.prog 4:=Jz Tryz.underlying4 rfl
theorem DX:FA Tryz.prog 29 3 3:=B3 Tryz.underlying29 rfl DO
theorem Fm:FA Tryz.prog 29 2 2:=B3 Tryz.underlying29 rfl DO
theorem JA:FA Tryz.prog 32 1 1:=B3 Tryz.underlying32 rfl LG
theorem iK:P6 Tryz.prog 27 84:=FR Tryz.underlying27 rfl gx
theorem NV:FA Tryz.prog 26 2 2:=B3 Tryz.underlying26 rfl au
theorem dS:P6 Tryz.prog 23 6:=FR Tryz.underlying23 rfl au
theorem M7:FA Tryz.prog 26 3 8:=B3 Tryz.underlying26 rfl fg
theorem XH:IA Tryz.prog 24 6 1:=LV Tryz.underlying24 LG
theorem da:P6 Tryz.prog 33 36:=FR Tryz.underlying33 rfl gQ
theorem GM:P6 Tryz.prog 32 6:=FR Tryz.underlying32 rfl LH
theorem DE:FA Tryz.prog 32 3 3:=B3 Tryz.underlying32 rfl DO
theorem Kl:FA Tryz.prog 32 4 4:=B3 Tryz.underlying32 rfl DO
theorem Gf:FA Tryz.prog 32 5 5:=B3 Tryz.underlying32 rfl DO
theorem jb:CF Tryz.prog 68:=Tryz.call68
theorem ef:FA Tryz.prog 26 1 1:=B3 Tryz.underlying26 rfl LG
theorem Zd:P6 Tryz.prog 30 45:=FR Tryz.underlying30 rfl ff
theorem iq:CF Tryz.prog 19:=Tryz.call19
theorem Zb:CF Tryz.prog 159:=Tryz.call159
theorem We:CF Tryz.prog 129:=Tryz.call129
theorem Z7:FA Tryz.prog 32 2 2:=B3 Tryz.underlying32 rfl LG
theorem dQ:CF Tryz.prog 160:=Tryz.call160
theorem SY:FA Tryz.prog 56 2 2:=B3 Tryz.underlying56 rfl DO
theorem HV:FA Tryz.prog 56 3 3:=B3 Tryz.underlying56 rfl DO
theorem QV:CF Tryz.prog 130:=Tryz.call130
theorem Vi:FA Tryz.prog 56 0 0:=B3 Tryz.underlying56 rfl DO
theorem aZ:FA Tryz.prog 56 1 1:=B3 Tryz.underlying56 rfl DO
theorem gB:CF Tryz.prog 173:=Tryz.call173
theorem JE:ZV Tryz.prog 56 (.agg (Ing.Event.enc (default:Ing.Event)).toArray):=E7 (by kernel_rfl)
theorem QN:Sz Tryz.prog 56 16:=D8 (by kernel_rfl)
theorem PR:P6 Tryz.prog 56 16:=FR Tryz.underlying56 rfl QN
theorem fZ:CF Tryz.prog 157:=Tryz.call157
theorem Oa:FA Tryz.prog 56 10 10:=B3 Tryz.underlying56 rfl au
theorem Tx:IA Tryz.prog 23 6 1:=LV Tryz.underlying23 DO
theorem Cb:FA Tryz.prog 163 1 165:=B3 Tryz.underlying163 rfl DO
theorem BB:FA Tryz.prog 163 0 0:=B3 Tryz.underlying163 rfl EP
theorem Li:FA Tryz.prog 32 0 0:=B3 Tryz.underlying32 rfl Ed
theorem ZE:FA Tryz.prog 56 6 6:=B3 Tryz.underlying56 rfl Ed
theorem ah:FA Tryz.prog 56 7 7:=B3 Tryz.underlying56 rfl Ed
theorem CT:FA Tryz.prog 163 2 166:=B3 Tryz.underlying163 rfl Tj
theorem D1:Ss Tryz.prog 53:=Jz Tryz.underlying53 rfl
theorem dU:CF Tryz.prog 123:=Tryz.call123
theorem bF:BY Tryz.prog 56 160:=WZ (by kernel_rfl)
theorem QW:Ha Tryz.prog 56 [(0,1),(1,1),(2,1),(3,1),(4,1),(5,1),(6,1),(7,1),(8,1),(9,1),(10,6)]:=⟨_,Tryz.underlying56,fun w=>by simp [DO w,Ed w,au w]⟩
theorem Pw:CF Tryz.prog 96:=Tryz.call96
theorem bI:IA Tryz.prog 133 21 1:=LV Tryz.underlying133 Ed
theorem fJ:ZV Tryz.prog 3 (.int .i64 0):=E7 (by kernel_rfl)
theorem iZ:BY Tryz.prog 3 8:=WZ (by kernel_rfl)
theorem HL:IS Tryz.prog 169 1:=PO Tryz.underlying169 DO
theorem NC:FA Tryz.prog 29 0 0:=B3 Tryz.underlying29 rfl Ed
theorem EV:CF Tryz.prog 127:=Tryz.call127
theorem eA:FA Tryz.prog 26 0 0:=B3 Tryz.underlying26 rfl Ed
theorem gy:CF Tryz.prog 52:=Tryz.call52
theorem TX:CF Tryz.prog 102:=Tryz.call102
theorem dN:CF Tryz.prog 101:=Tryz.call101
theorem dh:CF Tryz.prog 43:=Tryz.call43
theorem ix:CF Tryz.prog 46:=Tryz.call46
theorem Wk:Ha Tryz.prog 163 [(0,165),(165,1),(166,1)]:=⟨_,Tryz.underlying163,fun w=>by simp [EP w,DO w,Tj w]⟩
theorem Wd:ZV Tryz.prog 163 (.agg (Af.enc (default:Af)).toArray):=E7 (by kernel_rfl)
theorem Wv:CF Tryz.prog 124:=Tryz.call124
theorem WB:CF Tryz.prog 100:=Tryz.call100
theorem jW:CF Tryz.prog 49:=Tryz.call49
theorem fF:FA Tryz.prog 56 8 8:=B3 Tryz.underlying56 rfl Ed
theorem dy:FA Tryz.prog 56 4 4:=B3 Tryz.underlying56 rfl DO
theorem eY:FA Tryz.prog 56 9 9:=B3 Tryz.underlying56 rfl Ed
theorem ew:FA Tryz.prog 56 5 5:=B3 Tryz.underlying56 rfl DO
theorem jd:CF Tryz.prog 53:=Tryz.call53
theorem eD:CF Tryz.prog 44:=Tryz.call44
theorem L9:FA Tryz.prog 65 4 4:=B3 Tryz.underlying65 rfl LG
theorem ir:CF Tryz.prog 82:=Tryz.call82
theorem Rp:FA Tryz.prog 101 3 254:=B3 Tryz.underlying101 rfl Tj
theorem ji:IS Tryz.prog 53 16:=PO Tryz.underlying53 QN
theorem jV:CF Tryz.prog 23:=Tryz.call23
theorem VN:CF Tryz.prog 64:=Tryz.call64
theorem Ea:FA Tryz.prog 101 0 0:=B3 Tryz.underlying101 rfl EP
theorem iN:CF Tryz.prog 114:=Tryz.call114
theorem XX:CF Tryz.prog 79:=Tryz.call79
theorem Mm:ZV Tryz.prog 151 (.agg (Order.enc (default:Order)).toArray):=E7 (by kernel_rfl)
theorem Td:Ha Tryz.prog 151 [(0,1),(1,1),(2,1),(3,1),(4,1),(5,1)]:=⟨_,Tryz.underlying151,fun w=>by simp [DO w,LG w,Ed w]⟩
theorem EK:Sz Tryz.prog 151 6:=D8 (by kernel_rfl)
theorem CI:P6 Tryz.prog 151 6:=FR Tryz.underlying151 rfl EK
theorem dC:CF Tryz.prog 174:=Tryz.call174
theorem Y7:CF Tryz.prog 176:=Tryz.call176
theorem gk:CF Tryz.prog 179:=Tryz.call179
theorem iQ:CF Tryz.prog 167:=Tryz.call167
theorem gP:CF Tryz.prog 168:=Tryz.call168
theorem dL:CF Tryz.prog 180:=Tryz.call180
theorem gV:Sz Tryz.prog 133 21:=D8 (by kernel_rfl)
theorem dv:P6 Tryz.prog 133 21:=FR Tryz.underlying133 rfl gV
theorem fu:CF Tryz.prog 169:=Tryz.call169
theorem iO:CF Tryz.prog 181:=Tryz.call181
theorem gT:CF Tryz.prog 170:=Tryz.call170
theorem dI:CF Tryz.prog 171:=Tryz.call171
theorem fh:CF Tryz.prog 172:=Tryz.call172
theorem fy:CF Tryz.prog 151:=Tryz.call151
theorem JQ:CF Tryz.prog 150:=Tryz.call150
theorem dB:CF Tryz.prog 152:=Tryz.call152
theorem fT:CF Tryz.prog 153:=Tryz.call153
theorem gp:CF Tryz.prog 94:=Tryz.call94
theorem Sm:FA Tryz.prog 151 5 5:=B3 Tryz.underlying151 rfl Ed
theorem GR:FA Tryz.prog 151 3 3:=B3 Tryz.underlying151 rfl Ed
theorem G2:FA Tryz.prog 151 1 1:=B3 Tryz.underlying151 rfl DO
theorem Wu:CF Tryz.prog 154:=Tryz.call154
theorem Hn:FA Tryz.prog 151 2 2:=B3 Tryz.underlying151 rfl LG
theorem dW:CF Tryz.prog 155:=Tryz.call155
theorem dX:CF Tryz.prog 156:=Tryz.call156
theorem Im:FA Tryz.prog 151 4 4:=B3 Tryz.underlying151 rfl Ed
theorem dK:CF Tryz.prog 128:=Tryz.call128
theorem WU:CF Tryz.prog 136:=Tryz.call136
theorem dD:CF Tryz.prog 125:=Tryz.call125
theorem dF:CF Tryz.prog 131:=Tryz.call131
theorem ZO:CF Tryz.prog 132:=Tryz.call132
theorem RY:CF Tryz.prog 134:=Tryz.call134
theorem iC:CF Tryz.prog 161:=Tryz.call161
theorem dY:CF Tryz.prog 133:=Tryz.call133
theorem Pm:CF Tryz.prog 135:=Tryz.call135
theorem DQ:FA Tryz.prog 151 0 0:=B3 Tryz.underlying151 rfl DO
theorem fY:CF Tryz.prog 137:=Tryz.call137
theorem fX:CF Tryz.prog 138:=Tryz.call138
theorem fP:CF Tryz.prog 139:=Tryz.call139
theorem Wn:CF Tryz.prog 140:=Tryz.call140
theorem jG:CF Tryz.prog 99:=Tryz.call99
theorem gC:CF Tryz.prog 103:=Tryz.call103
theorem fa:CF Tryz.prog 104:=Tryz.call104
theorem gw:CF Tryz.prog 105:=Tryz.call105
theorem fV:CF Tryz.prog 106:=Tryz.call106
theorem gJ:CF Tryz.prog 107:=Tryz.call107
theorem cJ:CF Tryz.prog 84:=Tryz.call84
theorem Xc:Ha Tryz.prog 98 [(0,1),(1,1),(2,10),(12,4),(16,5),(21,1)]:=⟨_,Tryz.underlying98,fun w=>by simp [DO w,KE w,Pc w,Fb w,MA w]⟩
theorem Xx:ZV Tryz.prog 98 (.agg (A4.enc (default:A4)).toArray):=E7 (by kernel_rfl)
theorem gF:CF Tryz.prog 122:=Tryz.call122
theorem eh:CF Tryz.prog 67:=Tryz.call67
theorem Na:FA Tryz.prog 98 3 12:=B3 Tryz.underlying98 rfl Pc
theorem jM:CF Tryz.prog 91:=Tryz.call91
theorem jH:CF Tryz.prog 92:=Tryz.call92
theorem iy:CF Tryz.prog 93:=Tryz.call93
theorem jF:CF Tryz.prog 95:=Tryz.call95
theorem iw:CF Tryz.prog 97:=Tryz.call97
theorem iB:CF Tryz.prog 186:=Tryz.call186
theorem gG:CF Tryz.prog 175:=Tryz.call175
theorem iD:CF Tryz.prog 158:=Tryz.call158
theorem iR:CF Tryz.prog 126:=Tryz.call126
theorem Zr:CF Tryz.prog 62:=Tryz.call62
theorem jc:CF Tryz.prog 98:=Tryz.call98
theorem Lk:FA Tryz.prog 98 2 2:=B3 Tryz.underlying98 rfl KE
theorem ie:CF Tryz.prog 83:=Tryz.call83
theorem jK:CF Tryz.prog 77:=Tryz.call77
theorem ic:CF Tryz.prog 78:=Tryz.call78
theorem Ts:CF Tryz.prog 65:=Tryz.call65
theorem gj:ZV Tryz.prog 145 (.agg (B1 (n:=2) Az (Vector.replicate 2 default)).toArray):=E7 (by kernel_rfl)
theorem jO:CF Tryz.prog 80:=Tryz.call80
theorem ig:CF Tryz.prog 81:=Tryz.call81
theorem KF:FA Tryz.prog 75 0 0:=B3 Tryz.underlying75 rfl Ed
theorem Pt:FA Tryz.prog 75 1 1:=B3 Tryz.underlying75 rfl LG
theorem Px:FA Tryz.prog 75 2 2:=B3 Tryz.underlying75 rfl LG
theorem fD:CF Tryz.prog 70:=Tryz.call70
theorem iu:CF Tryz.prog 45:=Tryz.call45
theorem LN:ZV Tryz.prog 44 (.agg (Bl.enc (default:Bl)).toArray):=E7 (by kernel_rfl)
theorem Sd:FA Tryz.prog 101 2 253:=B3 Tryz.underlying101 rfl DO
theorem fm:Sz Tryz.prog 42 1:=D8 (by kernel_rfl)
theorem OB:Ha Tryz.prog 44 [(0,1),(1,1)]:=⟨_,Tryz.underlying44,fun w=>by simp [fm w,Ed w]⟩
theorem LK:Sz Tryz.prog 44 2:=D8 (by kernel_rfl)
theorem JV:P6 Tryz.prog 44 2:=FR Tryz.underlying44 rfl LK
theorem af:FA Tryz.prog 41 2 2:=B3 Tryz.underlying41 rfl DO
theorem ij:CF Tryz.prog 60:=Tryz.call60
theorem jh:CF Tryz.prog 61:=Tryz.call61
theorem fC:FA Tryz.prog 41 3 3:=B3 Tryz.underlying41 rfl Ed
theorem jN:CF Tryz.prog 63:=Tryz.call63
theorem jg:CF Tryz.prog 66:=Tryz.call66
theorem gU:CF Tryz.prog 37:=Tryz.call37
theorem eQ:Ha Tryz.prog 41 [(0,1),(1,1),(2,1),(3,1)]:=⟨_,Tryz.underlying41,fun w=>by simp [DO w,Ed w]⟩
theorem eW:ZV Tryz.prog 41 (.agg (Br.enc (default:Br)).toArray):=E7 (by kernel_rfl)
theorem cI:CF Tryz.prog 38:=Tryz.call38
theorem Zp:FA Tryz.prog 44 0 0:=B3 Tryz.underlying44 rfl fm
theorem dZ:Ss Tryz.prog 42:=Jz Tryz.underlying42 rfl
theorem jf:CF Tryz.prog 33:=Tryz.call33
theorem iE:Sz Tryz.prog 41 4:=D8 (by kernel_rfl)
theorem fQ:IS Tryz.prog 22 4:=PO Tryz.underlying22 iE
theorem dP:P6 Tryz.prog 41 4:=FR Tryz.underlying41 rfl iE
theorem jP:CF Tryz.prog 27:=Tryz.call27
theorem jT:ZV Tryz.prog 62 (.agg (B1 (n:=4) Dh (Vector.replicate 4 default)).toArray):=E7 (by kernel_rfl)
theorem jU:ZV Tryz.prog 63 (.agg (B1 (n:=4) A6 (Vector.replicate 4 default)).toArray):=E7 (by kernel_rfl)
theorem jk:CF Tryz.prog 16:=Tryz.call16
theorem LW (b:Nat)(V:AN)(i:Int)(hi:0≤i∧i < 4):KN Tryz.prog 21 #[.pointer (some ⟨b,0,none⟩), .int .i64 i] [Ab.box b 101 (AN.enc V)] (fun v B=>v = .tuple #[.int .i64 (Ei (V.Ar.at i)).1, .int .i64 (Ei (V.Ar.at i)).2]∧B = [Ab.box b 101 (AN.enc V)]):=by
 intro w hS0
 refine Ap _ _ Tryz.func21 J J J (hS0) ?_
 refine Gs (Ga J (Ga J (Gn (.t2 0 1) (CL (Gm J (Gt (Ft Tryz.underlying37 J) (Gm J ?_)))))))
 refine D7 (t:=8) J J J (AF J) ?_
 refine D7 (t:=8) J J J (BA J J) ?_
 refine Gt (C8 J J) (Gm J (Bj 12 J J (fun q=>AF J) (Bj 12 J J (fun q=>CZ (cF J q) J) ?_)))
 refine Gt (Ba J J (fun h=>by rw [h];rfl)) ?_
 refine Gm J (Bj 16 J J (fun q=>AF J) (Bj 16 J J (fun q=>AF J) (Bj 16 J J (fun q=>Bb (cF J q)) (Bj 16 J J (fun q=>Al Gz (cF J q)) ?_))))
 refine Bj 16 J J (fun q=>by have q1:=q;(try simp at q1);exact AQ Qm (cF rfl q) (cF rfl q) (by first | omega | exact hi.1 | exact hi.2) (by first | omega | exact hi.1 | exact hi.2)) ?_
 refine Bj 16 J J (fun q=>Al Jx (cF J q)) ?_
 refine Bj 16 J J (fun q=>by have q1:=q;(try simp at q1);exact AI (cF rfl q) A8 .m0 ((AN.l1.comp (AU.ar (n:=4) A4.fl (by first | omega | exact hi))).comp A4.l0) rfl rfl) ?_
 refine Bj 16 J J (fun q=>Cm (cF J q) J) ?_
 refine Gt (Ba J J (fun h=>by rw [h];rfl)) ?_
 refine Gn (.t3 0 1 25) ?_
 refine Gc (fun c1=>?_) (fun c1=>?_)
 ·
  have c1p:=kz c1
  refine CL (Gm J (Gt (Ft Tryz.underlying37 J) (Gm J ?_)))
  refine D7 (t:=28) J J J (AF J) ?_
  refine D7 (t:=28) J J J (BA J J) ?_
  refine Gt (C8 J J) (Gm J (Bj 32 J J (fun q=>AF J) (Bj 32 J J (fun q=>CZ (cF J q) J) ?_)))
  refine Gt (Ba J J (fun h=>by rw [h];rfl)) ?_
  refine Gn (.t3 0 1 35) ?_
  refine D9 J (by rw [Bool.or_eq_false_iff,decide_eq_false_iff_not,decide_eq_false_iff_not];omega) ?_
  refine Aa ?_
  refine AB (.t2 0 1) ?_
  refine AA (Gs (Gm J (Gm J (Gt (Bb J) (Gt (Al Gz J) ?_)))))
  refine Gt (AQ Qm J J (by first | omega | exact hi.1 | exact hi.2) (by first | omega | exact hi.1 | exact hi.2)) ?_
  refine Gt (Al Jx J) ?_
  refine Gt (AI J A8 .m0 ((AN.l1.comp (AU.ar (n:=4) A4.fl (by first | omega | exact hi))).comp A4.l0) J J) ?_
  refine Ga J (Ga J (Gn (.t2 4 5) (Ac (AD ?_))))
  refine AY J (.tmp J (.tmp J .n)) ?_
  intro w1 hS
  have hS:=(hS.perm (Ax.perm (.c .h .n))).A5
  have hq:Ei (V.Ar.at i)=_:=if_neg (by rw [decide_eq_true_eq];rcases c1p with (h | h) | h<;>first | omega | exact h)
  refine⟨_,⟨?gv1,J⟩,hS⟩
  case gv1=>rw [hq];rfl
 have c1p:=kz c1
 refine Aa ?_
 refine AB (.t2 0 1) ?_
 refine AA (Aq ?_)
 refine BE (N:=9) [0,0,1,5,15,31,63,0,255] mix (by kernel_rfl) J ?_
 refine Pf 0 J (AF J) (Pf 1 J (AF J) (Pf 2 J (Bb J) (Pf 3 J (Al Gz J) ?_)))
 refine Pf 4 J (AQ Qm J J (by first | omega | exact hi.1 | exact hi.2) (by first | omega | exact hi.1 | exact hi.2)) ?_
 refine Pf 5 J (Al I9 J) ?_
 refine Pf 6 J (AI J A8 .m0 ((AN.l1.comp (AU.ar (n:=4) A4.fl (by first | omega | exact hi))).comp A4.l1) J J) ?_
 refine Pf 7 J (A0 J) (Pf 8 J (A0 J) ?_)
 refine A2 (by kernel_rfl) ?_
 refine AB (.t2 4 5) ?_
 refine AA (Ac ?_)
 refine AY J (.tmp J (.tmp J .n)) ?_
 intro w1 hS
 have hS:=(hS.perm (Ax.perm (.c .h .n))).A5
 have hq:Ei (V.Ar.at i)=_:=if_pos (decide_eq_true c1p.2)
 refine⟨_,⟨?gv2,J⟩,hS⟩
 case gv2=>rw [hq];rfl
theorem Mk (b:Nat)(V:AN)(ls:Vector BD 4)(i:Int)(hi:0≤i∧i < 4)(hl:(ls.at i).told.length≤1000000):KN Tryz.prog 24 #[.pointer (some ⟨b,0,none⟩), .int .i64 i] [Ab.box b 101 (AN.enc V),Ab.DP (CQ 9 (AN.Ar V) ls)] (fun v B=>∃ h':Hd,v=h'.val∧h'.len=(ls.at i).told.length∧B = [Ab.box b 101 (AN.enc V),Ab.DP (CQ 9 (AN.Ar V) ls),Ab.own h' 9 1 ((ls.at i).told.flatMap A6)]):=by
 intro w hS0
 refine Ap _ _ Tryz.func24 J J J (hS0) ?_
 refine Gs (Ga J (Gn (.t2 0 1) (CL (Gm J (Gt (Ft Tryz.underlying37 J) (Gm J ?_))))))
 refine D7 (t:=7) J J J (AF J) ?_
 refine D7 (t:=7) J J J (BA J J) ?_
 refine Gt (C8 J J) (Gm J (Bj 11 J J (fun q=>AF J) (Bj 11 J J (fun q=>CZ (cF J q) J) ?_)))
 refine Gt (Ba J J (fun h=>by rw [h];rfl)) ?_
 refine Gn (.t3 0 1 14) ?_
 refine D9 J (by rw [Bool.or_eq_false_iff,decide_eq_false_iff_not,decide_eq_false_iff_not];omega) ?_
 refine Aa ?_
 refine AB (.t2 0 1) ?_
 refine AA (Aq ?_)
 refine Fj (k:=i) hi.1 hi.2 (fun sv sl hsv hlv hln=>?_)
 have hl2:=hl
 rw [hlv] at hl2
 refine AJ (Gm J (Gm J (Gt (Bb J) (Gt (Al Gz J) ?_))))
 refine Gt (AQ Qm J J (by first | omega | exact hi.1 | exact hi.2) (by first | omega | exact hi.1 | exact hi.2)) ?_
 refine Gt (Al So J) (Gt (AI J EU .m3 ((AU.A3 V hi.1 hi.2).comp A4.l5) J J) ?_)
 refine Dy A6 9 1 ?_
 refine L4 (e:=A6) J Tryz.underlying52 Ed SJ J Yf (by decide) J J (fun w hS=>Src.D4 Tryz.underlying52 ((Kn.own .m3) w hS)) J J (by omega) (fun _=> .h) (fun h1 h1l=>?_)
 refine Ga J (Gn (.t1 4) (Ac ?_))
 refine AY J (.tmp J .n) ?_
 intro w1 hS
 have hS:=(hS.perm (Ax.perm (.c (.t .h) (.c (.t .h) (.c (.t .h) (.c (.t .h) (.c (.t .h) (.c .h .n)))))))).A5
 have e1:V.A3 i sv=V:=by rw [← hsv];exact V.Nj hi.1 hi.2
 have e2:ls.put i ⟨sl.queue,sl.wait,sl.told⟩=ls:=by rw [← hlv];exact Vector.Mg ls hi.1 hi.2
 have hS:=St.close' (s:=sv) (qs:=sl.queue) (ws:=sl.wait) (ts:=sl.told) hi.1 hi.2 rfl rfl rfl hS
 rw [e1,e2] at hS
 try rw [hsv]
 rw [hlv]
 refine⟨_,⟨_,J,?gl,J⟩,hS⟩
 case gl=>(try simp only [List.length_append,List.length_nil] at *);omega
theorem Se (b:Nat)(V:AN)(ls:Vector BD 4)(i:Int)(hi:0≤i∧i < 4)(hl:(ls.at i).wait.length≤1000000):KN Tryz.prog 28 #[.pointer (some ⟨b,0,none⟩), .int .i64 i] [Ab.box b 101 (AN.enc V),Ab.DP (CQ 9 (AN.Ar V) ls)] (fun v B=>∃ h':Hd,v = .agg (Av.enc ⟨h',(V.Ar.at i).out.shown,(V.Ar.at i).out.B5,(V.Ar.at i).out.ring,(V.Ar.at i).out.cut⟩).toArray∧h'.len=(ls.at i).wait.length∧B = [Ab.box b 101 (AN.enc V),Ab.DP (CQ 9 (AN.Ar V) ls),Ab.own h' 9 1 ((ls.at i).wait.flatMap A6)]):=by
 intro w hS0
 refine Ap _ _ Tryz.func28 J J J (hS0) ?_
 refine Gs ?_
 refine BJ J Tv J (fun b1=>?_)
 refine AR (AA (CL (Gm J (Gt (Ft Tryz.underlying37 J) (Gm J ?_)))))
 refine D7 (t:=8) J J J (AF J) ?_
 refine D7 (t:=8) J J J (BA J J) ?_
 refine Gt (C8 J J) (Gm J (Bj 12 J J (fun q=>AF J) (Bj 12 J J (fun q=>CZ (cF J q) J) ?_)))
 refine Gt (Ba J J (fun h=>by rw [h];rfl)) ?_
 refine Gn (.t4 0 1 4 15) ?_
 refine D9 J (by rw [Bool.or_eq_false_iff,decide_eq_false_iff_not,decide_eq_false_iff_not];omega) ?_
 refine Aa ?_
 refine AB (.t3 0 1 4) ?_
 refine AA (Aq ?_)
 refine Ep (.c (.t .h) (.c (.t .h) .n)) ?_
 refine Fj (k:=i) hi.1 hi.2 (fun sv sl hsv hlv hln=>?_)
 have hl2:=hl
 rw [hlv] at hl2
 refine AJ (Gm J (Gm J (Gt (Bb J) (Gt (Al Gz J) ?_))))
 refine Gt (AQ Qm J J (by first | omega | exact hi.1 | exact hi.2) (by first | omega | exact hi.1 | exact hi.2)) ?_
 refine Gt (Al D2 J) (Gt (AZ J C4 .m3 ((AU.A3 V hi.1 hi.2).comp A4.l4) J) ?_)
 refine BJ J Tv J (fun b2=>?_)
 refine AT (AL (AU.id Av.fl.len Av.fl.one) J J J Fb J .h) ?_
 refine Gn (.t2 4 5) (Gs (Gt (Al HS J) (Gt (AI J EU .m0 Av.l0 J J) ?_)))
 refine Dy A6 9 1 ?_
 refine L4 (e:=A6) J Tryz.underlying52 Ed SJ J Yf (by decide) J J (fun w hS=>Src.D4 Tryz.underlying52 ((Kn.own .m3) w hS)) J J (by omega) (fun _=> .h) (fun h1 h1l=>?_)
 refine Gt (Al HS J) ?_
 refine AT (AL Av.l0 J J J MA J (.t .h)) ?_
 refine Gn (.t2 4 5) (Gs (Gt (AZ J C4 .m1 (AU.id Av.fl.len Av.fl.one) J) ?_))
 refine AT (AL (AU.id Av.fl.len Av.fl.one) J J J Fb J (.t (.t (.t (.t (.t (.t (.t .h)))))))) ?_
 refine Gn (.t1 4) (Ac ?_)
 refine AY J (.cell J .m7 (.inl ⟨(by rw [Av.fl.len];exact C4),J⟩) .n) ?_
 intro w1 hS
 have hS:=(hS.perm (Ax.perm (.c (.t (.t .h)) (.c (.t (.t .h)) (.c (.t (.t .h)) (.c (.t (.t .h)) (.c (.t (.t .h)) (.c .h .n)))))))).A5
 have e1:V.A3 i sv=V:=by rw [← hsv];exact V.Nj hi.1 hi.2
 have e2:ls.put i ⟨sl.queue,sl.wait,sl.told⟩=ls:=by rw [← hlv];exact Vector.Mg ls hi.1 hi.2
 have hS:=St.close' (s:=sv) (qs:=sl.queue) (ws:=sl.wait) (ts:=sl.told) hi.1 hi.2 rfl rfl rfl hS
 rw [e1,e2] at hS
 try rw [hsv]
 rw [hlv]
 refine⟨_,⟨_,J,?gl,J⟩,hS⟩
 case gl=>(try simp only [List.length_append,List.length_nil] at *);omega
theorem Gp (X:AK)(w:World):Ev Tryz.prog 55 #[.agg X.enc.toArray] w fun v w'=>v = .bool X.Bk∧CH w w':=by
 refine Ap [] [] Tryz.func55 J J J (St.start w []) ?_
 refine Gs ?_
 refine CB J J J (fun b1=>?_)
 refine Ga J (Gn (.t1 1) (CL (Gm J (AR (AA (Ag ?_))))))
 refine Bw (.t2 4 1) ?_
 refine Ck (fun(k:Int)=>0≤k∧k≤3∧X.Bk=(CD 3 (fun i=>!X.PJ i) (3 - k).toNat && (!(!decide (X.us.at 2=0) || !decide (X.Gb.at 0=0)) && X.RZ))) (fun(k:Int)=>(3 - k).toNat) (fun(k:Int)=> [(4, .int .i64 k)]) (fun(k:Int)=> []) (0) ?_ J J (fun k hI1=>?_)
 · exact⟨Int.le_refl _,by omega,rfl⟩
 obtain⟨hI11,hI12,hI13⟩:=hI1
 refine Gs (Gt (BA J J) (AR (AA (Aq ?_))))
 refine Gc (fun c1=>?_) (fun c1=>?_)
 ·
  have c1p:=kz c1
  rw [Dn _ (by omega)] at hI13
  refine Aa ?_
  refine AB (.t2 1 4) ?_
  refine AA (Aq (Ag (Gs (Gm J (Ga J (Gn (.t3 1 3 4) (Gs ?_)))))))
  refine Gm J (Gt (Al L6 J) ?_)
  refine Gt (AQ Lt J J (by omega) (by omega)) ?_
  refine Gt (AI J A8 .m0 (AK.l3.comp (AU.ar (n:=3) B9 (by omega))) J J) ?_
  refine Gt (BA J J) (Gm J (Bj 12 J J (fun q=>AF J) (Bj 12 J J (fun q=>Al L6 J) ?_)))
  refine Bj 12 J J (fun q=>by have q1:=q;(try simp at q1);exact AQ Lt (cF rfl q) (cF rfl q) (by omega) (by omega)) ?_
  refine Bj 12 J J (fun q=>by have q1:=q;(try simp at q1);exact AI (cF rfl q) A8 .m0 (AK.l3.comp (AU.ar (n:=3) B9 (by omega))) rfl rfl) ?_
  refine Bj 12 J J (fun q=>Cs (cF J q) J) ?_
  refine Gt (Ba J J (fun h=>by rw [h];rfl)) ?_
  refine Gm J (Bj 19 J J (fun q=>AF J) (Bj 19 J J (fun q=>Al Kg J) ?_))
  refine Bj 19 J J (fun q=>by have q1:=q;(try simp at q1);exact AQ Lt (cF rfl q) (cF rfl q) (by omega) (by omega)) ?_
  refine Bj 19 J J (fun q=>by have q1:=q;(try simp at q1);exact AI (cF rfl q) A8 .m0 (AK.l4.comp (AU.ar (n:=3) B9 (by omega))) rfl rfl) ?_
  refine Bj 19 J J (fun q=>BA (cF J q) J) ?_
  refine Gt (Ba J J (fun h=>by rw [h];rfl)) ?_
  refine Gm J (Bj 26 J J (fun q=>AF J) (Bj 26 J J (fun q=>Al Kg J) ?_))
  refine Bj 26 J J (fun q=>by have q1:=q;(try simp at q1);exact AQ Lt (cF rfl q) (cF rfl q) (by omega) (by omega)) ?_
  refine Bj 26 J J (fun q=>by have q1:=q;(try simp at q1);exact AI (cF rfl q) A8 .m0 (AK.l4.comp (AU.ar (n:=3) B9 (by omega))) rfl rfl) ?_
  refine Bj 26 J J (fun q=>Cs (cF J q) J) ?_
  refine Gt (Ba J J (fun h=>by rw [h];rfl)) ?_
  refine Gn (.t3 1 4 32) ?_
  refine Gc (fun c2=>?_) (fun c2=>?_)
  ·
   refine Gs (Ga J (Gn (.t1 2) (Ac (AS (AD (AD (AS ?_)))))))
   refine AD ?_
   refine AY J (.tmp J .n) ?_
   intro w1 hS;refine⟨congrArg Value.bool ?_,hS.Ao⟩;rw [hI13,AK.PJ,c2];rfl
  have c2p:=kz c2
  refine Aa ?_
  refine AB (.t2 1 4) ?_
  refine AV (AA (AJ ?_))
  refine Gt (Ay J J (IntWalk.i64_in _ (by omega))) ?_
  refine Gm J ?_
  refine AR (AB (.t2 1 4) ?_)
  refine CC (k+1) ?_ ?_ (.t2 4 1) (.refl _)
  · exact⟨by omega,by omega,by rw [hI13,AK.PJ,c2];rfl⟩
  · omega
 have c1p:=kz c1
 obtain rfl:k=3:=by omega
 refine Bg (AW (AW (Ah ?_)))
 refine AB (.t1 1) ?_
 refine AA (CL (Gt (Al L6 J) ?_))
 refine Gt (AQ Lt J J (by decide) (by decide)) ?_
 refine Gt (AI J A8 .m0 (AK.l3.comp (AU.arr (n:=3) B9 (by decide) (by decide))) J J) ?_
 refine Gt (Cm J J) (Gm J (Bj 38 J J (fun q=>Al Kg J) ?_))
 refine Bj 38 J J (fun q=>AQ Lt (cF J q) J (by decide) (by decide)) ?_
 refine Bj 38 J J (fun q=>AI (cF J q) A8 .m0 (AK.l4.comp (AU.arr (n:=3) B9 (by decide) (by decide))) J J) ?_
 refine Bj 38 J J (fun q=>Cm (cF J q) J) ?_
 refine Gt (Ba J J (fun h=>by rw [h];rfl)) ?_
 refine Gn (.t2 1 43) ?_
 refine Gc (fun c3=>?_) (fun c3=>?_)
 ·
  refine Gs (Ga J (Gn (.t1 2) (Ac (AD ?_))))
  refine AY J (.tmp J .n) ?_
  intro w1 hS;refine⟨congrArg Value.bool ?_,hS.Ao⟩;rw [hI13,c3];rfl
 refine Aa ?_
 refine AB (.t1 1) ?_
 refine AA (Gs (Gt (Al GC J) (Gt (AI J A8 .m0 AK.l0 J J) (Gt (CZ J J) (Gm J (Bp 47 J J (fun q=>Al GC J) (Bp 47 J J (fun q=>AI (Bo J q) A8 .m0 AK.l0 J J) ?_)))))))
 refine Bp 47 J J (fun q=>I3 (Bo J q) J) (Gt (BQ J J (fun h=>h)) (Gm J (Bp 52 J J (fun q=>Al GC J) (Bp 52 J J (fun q=>AI (Bo J q) A8 .m0 AK.l0 J J) (Bp 52 J J (fun q=>Ai (Bo J q) J) (Bp 52 J J (fun q=>Al Ll J) (Bp 52 J J (fun q=>AI (Bo J q) A8 .m0 AK.l1 J J) ?_)))))))
 refine Bp 52 J J (fun q=>Cm (Bo J q) J) (Bp 52 J J (fun q=>Kb Tryz.underlying4 (Bo J q) (Bo J q)) (Gt (BQ J J (fun h=>h)) (Gm J (Bp 61 J J (fun q=>Al Ll J) (Bp 61 J J (fun q=>AI (Bo J q) A8 .m0 AK.l1 J J) (Bp 61 J J (fun q=>Ai (Bo J q) J) (Bp 61 J J (fun q=>AF (Bo J q)) ?_)))))))
 refine DF (t:=65) J J J (fun qc q=>Al Ll J) ?_
 refine DF (t:=65) J J J (fun qc q=>AI (Bo J (by rw [qc,q];rfl)) A8 .m0 AK.l1 J J) ?_
 refine DF (t:=65) J J J (fun qc q=>CZ (Bo J (by rw [qc,q];rfl)) J) ?_
 refine DF (t:=65) J J J (fun qc q=>AF (Bo J (by rw [qc,q];rfl))) ?_
 refine Db (t:=69) J J J (fun qc q=>Al Ll J) ?_
 refine Db (t:=69) J J J (fun qc q=>AI (Bo J (by rw [qc,q];rfl)) A8 .m0 AK.l1 J J) ?_
 refine Db (t:=69) J J J (fun qc q=>I3 (Bo J (by rw [qc,q];rfl)) J) ?_
 refine DF (t:=65) J J J (fun qc q=>BQ (Bo J (by rw [qc,q];rfl)) J (fun h=>by rw [qc,q,h];rfl)) ?_
 refine Bp 61 J J (fun q=>Ba (Bo J q) J (fun h=>by rw [q,h];rfl)) ?_
 refine Gt (BQ J J (fun h=>h)) (Gm J (Bp 76 J J (fun q=>Al HT J) (Bp 76 J J (fun q=>AI (Bo J q) CO .m0 AK.l2 J J) (Bp 76 J J (fun q=>BN J Tryz.underlying9 (Bo J q)) (Bp 76 J J (fun q=>I3 (Bo J q) J) (Gt (BQ J J (fun h=>h)) (Gm J ?_)))))))
 refine Bp 82 J J (fun q=>Al GC J) (Bp 82 J J (fun q=>AI (Bo J q) A8 .m0 AK.l0 J J) (Bp 82 J J (fun q=>CZ (Bo J q) J) (Bp 82 J J (fun q=>AF (Bo J q)) ?_)))
 refine DF (t:=86) J J J (fun qc q=>Al HT J) ?_
 refine DF (t:=86) J J J (fun qc q=>AI (Bo J (by rw [qc,q];rfl)) CO .m0 AK.l2 J J) ?_
 refine DF (t:=86) J J J (fun qc q=>B4 (Bo J (by rw [qc,q];rfl)) J) ?_
 refine Bp 82 J J (fun q=>Ba (Bo J q) J (fun h=>by rw [q,h];rfl)) ?_
 refine Gt (BQ J J (fun h=>h)) (Gm J (Bp 92 J J (fun q=>Al Sn J) (Bp 92 J J (fun q=>AI (Bo J q) A8 .m0 AK.l5 J J) (Bp 92 J J (fun q=>CZ (Bo J q) J) (Gt (BQ J J (fun h=>h)) (Gm J (Bp 97 J J (fun q=>Al Sn J) ?_)))))))
 refine Bp 97 J J (fun q=>AI (Bo J q) A8 .m0 AK.l5 J J) (Bp 97 J J (fun q=>I3 (Bo J q) J) (Gt (BQ J J (fun h=>h)) (Ga J (Gn (.t1 2) (Ac ?_)))))
 refine AY J (.tmp J .n) ?_
 intro w1 hS;refine⟨congrArg Value.bool ?_,hS.Ao⟩;rw [hI13,c3];rfl
theorem DM (b:Nat)(p:Option Addr)(h:Hd)(hp:p=none∨p=some ⟨b,0,none⟩):KN Tryz.prog 71 #[.pointer (some ⟨b,0,none⟩)] [Ab.box b 107 (Dk.enc ⟨p,h⟩)] (fun v B=>v = .tuple #[]∧B = [Ab.box b 107 (Dk.enc ⟨some ⟨b,0,none⟩,h⟩)]):=by
 intro w hS0
 refine Ap _ _ Tryz.func71 J J J (hS0) ?_
 refine Gs (Gm J (Gt (Bb J) (Gt (Al SM J) (Gt (AI J ZY .m0 Dk.l0 J J) (Gt (Ft Tryz.underlying104 J) (Gn (.t2 0 6) ?_))))))
 refine Gc (fun c1=>?_) (fun c1=>?_)
 ·
  obtain rfl:p=none:=by simpa using c1
  refine AJ (Gm J (Gm J ?_))
  refine Gt ((let ⟨_,h,h2⟩:=Uu;Ud Tryz.underlying104 Tryz.underlying152 h h2 rfl .m0 (by rw [Dk.fl.len];decide))) ?_
  refine Gt (TA Tryz.func85 (by kernel_rfl) (by kernel_rfl) (by kernel_rfl) (by kernel_rfl) J) ?_
  refine Gt ((let ⟨_,h,_⟩:=Uu;Qf Tryz.underlying152 Tryz.underlying104 h rfl .m0 (by rw [Dk.fl.len];kernel_rfl))) ?_
  refine Gt (Bb J) (Gt (Al SM J) ?_)
  refine AT (AL Dk.l0 J J J dT J .h) ?_
  refine AR ?_
  refine Bs J .n ?_
  intro w1 hS
  have hS:=(hS.perm (Ax.perm (.c .h .n))).A5
  exact⟨_,⟨J,J⟩,hS⟩
 obtain rfl:p=some ⟨b,0,none⟩:=by rcases hp with h | h;(subst h;simp at c1);exact h
 refine Gs (Gm J (Gt (Bb J) (Gt (Al SM J) (Gt (AI J ZY .m0 Dk.l0 J J) (Gm J (Gt ((let ⟨_,h,_⟩:=Uu;Ru Tryz.underlying104 h rfl rfl)) (Gn (.t1 19) ?_)))))))
 refine D9 J J ?_
 refine Aa ?_
 refine Bs J .n ?_
 intro w1 hS
 have hS:=(hS.perm (Ax.perm (.c .h .n))).A5
 exact⟨_,⟨J,J⟩,hS⟩
theorem Co (b:Nat)(p:Option Addr)(h:Hd)(s:Ad)(hp:p=none∨p=some ⟨b,0,none⟩)(hz:h.Z)(hl:h.len=s.length)(c:UInt8)(hb:s.length < 140737488355000):KN Tryz.prog 50 #[.pointer (some ⟨b,0,none⟩), .int .u8 (c.toNat:Int)] [Ab.box b 107 (Dk.enc ⟨p,h⟩),Ab.own h 5 1 (s.flatMap Di)] (fun v B=>∃ p' h',v = .nilIface∧(p'=none∨p'=some ⟨b,0,none⟩)∧h'.Z∧h'.len=(s ++ [c]).length∧B = [Ab.box b 107 (Dk.enc ⟨p',h'⟩),Ab.own h' 5 1 ((s ++ [c]).flatMap Di)]):=by
 intro w hS0
 refine Ap _ _ Tryz.func50 J J J (hS0) ?_
 refine Gs (Ga J (Gn (.t2 0 1) (Gs (Gm J ?_))))
 refine Ak J eV (.c J .n) (.c .h .n) (DM _ _ _ (by first | assumption | omega)) (fun v1 B hv=>?_)
 obtain⟨rfl,rfl⟩:=hv
 refine Gn (.t2 0 1) (Gs (Gm J (Gm J (Gt (Bb J) (Gt (Al FG J) (Gt (AI J I8 .m0 Dk.l1 J J) (Gm J ?_)))))))
 refine Vf J Tryz.underlying105 XG dm J (by decide) (by decide) J J J (fun b1=>?_)
 refine O9 J Tryz.underlying105 XG dm J iv (by decide) (by decide) J J (fun w hS=>Src.D4 Tryz.underlying105 ((Kn.own .m0) w hS)) (by intro v hv;simp at hv;subst hv;rfl) (by dsimp only;omega) (fun _=>(.t (.t .h))) (fun h2 h2l h2z=>?_)
 have h2z:=h2z hz;dsimp only at h2l
 refine Gt (Bb J) (Gt (Al FG J) ?_)
 refine AT (AL Dk.l1 J J J WJ J (.t .h)) ?_
 refine Gn (.nil _) (Gs (Ga J (AR (AA (Ac ?_)))))
 refine AY J (.tmp J .n) ?_
 intro w1 hS
 have hS:=(hS.perm (Ax.perm (.c (.t .h) (.c (.t .h) .n)))).A5
 exact⟨_,⟨_,_,J, .inr J,by assumption,by simp;omega,by rw [List.flatMap_append];rfl⟩,hS⟩
theorem GS (opt:Int)(w:World):Ev Tryz.prog 73 #[.int .i64 opt] w fun v w'=>v = .tuple #[.int .i64 (AK.place opt).1, .bool (AK.place opt).2.1, .bool (AK.place opt).2.2]∧CH w w':=by
 refine Ap [] [] Tryz.func73 J J J (St.start w []) ?_
 refine Gs (Ga J (Ga J (Ga J (Gn (.t1 0) (CL (Gm J (Gn (.t1 5) ?_)))))))
 refine Ag (Gs (Gt (Ai J J) (Ga J (Gn (.t2 5 6) ?_))))
 refine Gc (fun c1=>?_) (fun c1=>?_)
 ·
  refine Gs (Ga J (Ga J (Ga J (Gn (.t3 2 3 4) (Ac (AS (AD ?_)))))))
  refine AY J (.tmp J (.tmp J (.tmp J .n))) ?_
  intro w1 hS;refine⟨?_,hS.Ao⟩;simp only [AK.place,c1,↓reduceIte,Bool.false_eq_true];rfl
 refine Gs (Gt (Ai J J) (Ga J (Gn (.t2 5 8) ?_)))
 refine Gc (fun c2=>?_) (fun c2=>?_)
 ·
  refine Gs (Ga J (Ga J (Ga J (Gn (.t3 2 3 4) (Ac (AS (AD ?_)))))))
  refine AY J (.tmp J (.tmp J (.tmp J .n))) ?_
  intro w1 hS;refine⟨?_,hS.Ao⟩;simp only [AK.place,c1,c2,↓reduceIte,Bool.false_eq_true];rfl
 refine Gs (Gt (Ai J J) (Ga J (Gn (.t1 10) ?_)))
 refine Gc (fun c3=>?_) (fun c3=>?_)
 ·
  refine Gs (Ga J (Ga J (Ga J (Gn (.t3 2 3 4) (Ac (AS (AD ?_)))))))
  refine AY J (.tmp J (.tmp J (.tmp J .n))) ?_
  intro w1 hS;refine⟨?_,hS.Ao⟩;simp only [AK.place,c1,c2,c3,↓reduceIte,Bool.false_eq_true];rfl
 refine Aa ?_
 refine AB (.nil _) ?_
 refine AV (AA (Gs (Ga J (Ga J (Ga J (AR (AA ?_)))))))
 refine Ac ?_
 refine AY J (.tmp J (.tmp J (.tmp J .n))) ?_
 intro w1 hS;refine⟨?_,hS.Ao⟩;simp only [AK.place,c1,c2,c3,↓reduceIte,Bool.false_eq_true];rfl
theorem DC (verb opt:Int)(h0:0≤verb∧verb≤255)(h1:0≤opt∧opt≤255)(w:World):Ev Tryz.prog 74 #[.int .i64 verb, .int .i64 opt] w fun v w'=>v=BW (AK.OQ verb opt)∧CH w w':=by
 refine Ap [] [] Tryz.func74 J J J (St.start w []) ?_
 refine Gs (Ga J (Gn (.t2 0 1) (Gs (Gm J ?_))))
 refine Gt (Oz Tryz.underlying5 Tryz.underlying3 J (IntWalk.u8_in _ (by omega))) ?_
 refine Gm J ?_
 refine Gt (Oz Tryz.underlying5 Tryz.underlying3 J (IntWalk.u8_in _ (by omega))) ?_
 refine aw (cs:=B1 (n:=3) fA (Vector.replicate 3 default)) J Tryz.underlying105 XG dm (by decide) (by decide) (by kernel_rfl) (.cons (AU.arr (n:=3) (i:=0) iX (by decide) (by decide)) J J J (.cons (AU.arr (n:=3) (i:=1) iX (by decide) (by decide)) J J J (.cons (AU.arr (n:=3) (i:=2) iX (by decide) (by decide)) J J J .nil))) ((GH iX).len _) (fun b1=>?_)
 refine Gt (QT (s:=AK.OQ verb opt) (by rw [show(AK.OQ verb opt).flatMap Di = [.int .u8 255, .int .u8 verb, .int .u8 opt] from by simp [AK.OQ,Di,Sh h0.1 h0.2,Sh h1.1 h1.2]];rfl) Tryz.underlying105 Tryz.underlying9 Tryz.underlying5 J (Kn.own .m0)) ?_
 refine Ga J (Gn (.t1 4) (Ac ?_))
 refine AY J (.tmp J .n) ?_
 intro w1 hS;refine⟨?_,hS.Ao⟩;rfl
theorem FE {α:Type}{ea:α→List Value}{o:Nat}{g:α→Int}{st:α→Int→α}(b V:Nat)(Y:α)(on:Bool)(opt yes no:Int)(h0:0≤yes∧yes≤255)(h1:0≤no∧no≤255)(h2:0≤opt∧opt≤255)(ln:AU ea Az o 1 g st):KN Tryz.prog 75 #[.pointer (some ⟨b,o,none⟩), .bool on, .int .i64 opt, .int .i64 yes, .int .i64 no] [Ab.box b V (ea Y)] (fun v B=>v=BW (AK.GP (g Y) on opt yes no)∧B = [Ab.box b V (ea (st Y (AK.cH on)))]):=by
 intro w hS0
 refine Ap _ _ Tryz.func75 J J J (hS0) ?_
 refine Gs (Ga J (Gn (.t5 0 1 2 3 4) (Gs (Gm J (Gt (Bb J) (Gt (AI J A8 .m0 ln J J) (Ga J ?_)))))))
 refine Gn (.t6 0 1 2 3 4 11) (Gs (Gm J (Gt (Bb J) ?_)))
 refine AT (AL ln J J J DO J .h) ?_
 refine Gn (.t6 0 1 2 3 4 11) (CL (Gm J (AR (AA ?_))))
 refine Gc (fun c1=>?_) (fun c1=>?_)
 ·
  have c1p:=kz c1
  refine AJ (Gm J (Gt (Bb J) ?_))
  refine AT (AL ln J J J DO J .h) ?_
  refine Gn (.t5 1 2 3 4 11) (Aq (Ag (Gs (Gm J (Gm J (Bp 22 J J (fun q=>AF J) (Bp 22 J J (fun q=>Ai (Bo J q) J) ?_)))))))
  refine Gt (BQ J J (fun h=>h)) (Ga J (Gn (.t6 1 2 3 4 11 20) ?_))
  refine Gc (fun c2=>?_) (fun c2=>?_)
  ·
   have c2p:=kz c2
   refine Gs (Gm J (Gm J ?_))
   refine BC J TD (.c J (.c J .n)) (fun w hS=>DC _ _ (by first | assumption | omega) (by first | assumption | omega) w) ?_
   refine Ga J (Gn (.t1 10) (Ac (AS (AD ?_))))
   refine AY J (.tmp J .n) ?_
   intro w1 hS
   have hS:=(hS.perm (Ax.perm (.c .h .n))).A5
   exact⟨_,⟨by clear hS;simp_all [AK.GP,YV],by simp only [AK.cH,ln.Kz,c1,c2,↓reduceIte,Bool.false_eq_true]⟩,hS⟩
  have c2p:=kz c2
  refine Gs (Gm J (Gt (BZ J) (Gm J (Bp 32 J J (fun q=>AF J) (Bp 32 J J (fun q=>Ai (Bo J q) J) (Gt (BQ J J (fun h=>h)) (Ga J ?_)))))))
  refine Gn (.t3 2 4 29) ?_
  refine Gc (fun c3=>?_) (fun c3=>?_)
  ·
   have c3p:=kz c3
   refine Gs (Gm J (Gm J ?_))
   refine BC J TD (.c J (.c J .n)) (fun w hS=>DC _ _ (by first | assumption | omega) (by first | assumption | omega) w) ?_
   refine Ga J (Gn (.t1 10) (Ac (AS (AD ?_))))
   refine AY J (.tmp J .n) ?_
   intro w1 hS
   have hS:=(hS.perm (Ax.perm (.c .h .n))).A5
   exact⟨_,⟨by clear hS;simp_all [AK.GP,YV],by simp only [AK.cH,ln.Kz,c1,c2,c3,↓reduceIte,Bool.false_eq_true]⟩,hS⟩
  have c3p:=kz c3
  refine Aa ?_
  refine AB (.nil _) ?_
  refine AV (AA (Gs (Ga J (AR (AA (Ac ?_))))))
  refine AY J (.tmp J .n) ?_
  intro w1 hS
  have hS:=(hS.perm (Ax.perm (.c .h .n))).A5
  exact⟨_,⟨by clear hS;simp_all [AK.GP,YV],by simp only [AK.cH,ln.Kz,c1,c2,c3,↓reduceIte,Bool.false_eq_true]⟩,hS⟩
 have c1p:=kz c1
 refine Aa ?_
 refine AB (.t5 1 2 3 4 11) ?_
 refine AA (Aq (Ag (Gs (Gm J (Gm J (Bp 22 J J (fun q=>AF J) (Bp 22 J J (fun q=>Ai (Bo J q) J) ?_)))))))
 refine Gt (BQ J J (fun h=>h)) (Ga J (Gn (.t6 1 2 3 4 11 20) ?_))
 refine Gc (fun c4=>?_) (fun c4=>?_)
 ·
  have c4p:=kz c4
  refine Gs (Gm J (Gm J ?_))
  refine BC J TD (.c J (.c J .n)) (fun w hS=>DC _ _ (by first | assumption | omega) (by first | assumption | omega) w) ?_
  refine Ga J (Gn (.t1 10) (Ac (AS (AD ?_))))
  refine AY J (.tmp J .n) ?_
  intro w1 hS
  have hS:=(hS.perm (Ax.perm (.c .h .n))).A5
  exact⟨_,⟨by clear hS;simp_all [AK.GP,YV],by simp only [AK.cH,ln.Kz,c1,c4,↓reduceIte,Bool.false_eq_true]⟩,hS⟩
 have c4p:=kz c4
 refine Gs (Gm J (Gt (BZ J) (Gm J (Bp 32 J J (fun q=>AF J) (Bp 32 J J (fun q=>Ai (Bo J q) J) (Gt (BQ J J (fun h=>h)) (Ga J ?_)))))))
 refine Gn (.t3 2 4 29) ?_
 refine Gc (fun c5=>?_) (fun c5=>?_)
 ·
  have c5p:=kz c5
  refine Gs (Gm J (Gm J ?_))
  refine BC J TD (.c J (.c J .n)) (fun w hS=>DC _ _ (by first | assumption | omega) (by first | assumption | omega) w) ?_
  refine Ga J (Gn (.t1 10) (Ac (AS (AD ?_))))
  refine AY J (.tmp J .n) ?_
  intro w1 hS
  have hS:=(hS.perm (Ax.perm (.c .h .n))).A5
  exact⟨_,⟨by clear hS;simp_all [AK.GP,YV],by simp only [AK.cH,ln.Kz,c1,c4,c5,↓reduceIte,Bool.false_eq_true]⟩,hS⟩
 have c5p:=kz c5
 refine Aa ?_
 refine AB (.nil _) ?_
 refine AV (AA (Gs (Ga J (AR (AA (Ac ?_))))))
 refine AY J (.tmp J .n) ?_
 intro w1 hS
 have hS:=(hS.perm (Ax.perm (.c .h .n))).A5
 exact⟨_,⟨by clear hS;simp_all [AK.GP,YV],by simp only [AK.cH,ln.Kz,c1,c4,c5,↓reduceIte,Bool.false_eq_true]⟩,hS⟩
theorem J5 (b:Nat)(X:AK)(verb opt:Int)(h0:0≤opt∧opt≤255):KN Tryz.prog 56 #[.pointer (some ⟨b,0,none⟩), .int .i64 verb, .int .i64 opt] [Ab.box b 69 X.enc] (fun v B=>v=BW (X.Bm verb opt).2∧B = [Ab.box b 69 (X.Bm verb opt).1.enc]):=by
 intro w hS0
 refine Ap _ _ Tryz.func56 J J J (hS0) ?_
 refine Gs (Ga J (Gn (.t3 0 1 2) (Gs (Gm J ?_))))
 refine BC J dp (.c J .n) (fun w hS=>GS _ w) ?_
 refine Gm J (Gt (AM J J) (Gt (AM J J) (Gt (AM J J) (Ga J (Ga J (Ga J (Gn (.t6 0 1 2 7 8 9) ?_)))))))
 refine CL (Gm J (Gn (.t6 0 2 7 8 9 16) (Ag (Gs (Gt (Ai J J) (Ga J (Gn (.t7 0 2 7 8 9 16 17) ?_)))))))
 refine Gc (fun c1=>?_) (fun c1=>?_)
 ·
  have c1p:=kz c1
  refine CL (Gm J (Gt (BZ J) (Gn (.t4 0 2 7 20) ?_)))
  refine Gc (fun c2=>?_) (fun c2=>?_)
  ·
   have c2p:=kz c2
   refine Gs (Gm J ?_)
   refine BC J TD (.c J (.c J .n)) (fun w hS=>DC _ _ (by first | assumption | omega) (by first | assumption | omega) w) ?_
   refine Ga J (Gn (.t1 6) (Ac (AD (AS (AD ?_)))))
   refine AY J (.tmp J .n) ?_
   intro w1 hS
   have hS:=(hS.perm (Ax.perm (.c .h .n))).A5
   exact⟨_,⟨by simp only [AK.Bm,c1,c2,↓reduceIte,Bool.false_eq_true]<;>rfl,by simp only [AK.Bm,c1,c2,↓reduceIte,Bool.false_eq_true]<;>rfl⟩,hS⟩
  have c2p:=kz c2
  have hk:=AK.PM (opt:=opt) (by simpa using c2)
  have hk1:0≤(AK.place opt).1∧(AK.place opt).1 < 3:=by rcases hk with ⟨_,e⟩ | ⟨_,e⟩<;>rw [e]<;>decide
  refine Aa ?_
  refine AB (.t3 0 2 7) ?_
  refine AA (Gs (Gm J (Gm J (Gt (Bb J) (Gt (Al L6 J) ?_)))))
  refine Gt (AQ Lt J J (by omega) (by omega)) ?_
  refine Gm J ?_
  refine Ak J cQ (.c J (.c J (.c J (.c J (.c J .n))))) (.c .h .n) (FE _ _ _ _ _ _ _ (by first | assumption | omega) (by first | assumption | omega) (by first | assumption | omega) (AK.l3.comp (AU.ar (n:=3) B9 (by omega)))) (fun v1 B hv=>?_)
  obtain⟨rfl,rfl⟩:=hv
  refine Ga J (Gn (.t1 6) (Ac (AS (AD ?_))))
  refine AY J (.tmp J .n) ?_
  intro w1 hS
  have hS:=(hS.perm (Ax.perm (.c .h .n))).A5
  exact⟨_,⟨by simp only [AK.Bm,c1,c2,↓reduceIte,Bool.false_eq_true]<;>rfl,by simp only [AK.Bm,c1,c2,↓reduceIte,Bool.false_eq_true]<;>rfl⟩,hS⟩
 have c1p:=kz c1
 refine Gs (Gt (Ai J J) (Ga J (Gn (.t7 0 2 7 8 9 16 30) ?_)))
 refine Gc (fun c3=>?_) (fun c3=>?_)
 ·
  have c3p:=kz c3
  refine Gs (Gm J (Gn (.t4 0 2 7 32) ?_))
  refine Gc (fun c4=>?_) (fun c4=>?_)
  ·
   have c4p:=kz c4
   have hk:=AK.PM (opt:=opt) (by simpa using c4)
   have hk1:0≤(AK.place opt).1∧(AK.place opt).1 < 3:=by rcases hk with ⟨_,e⟩ | ⟨_,e⟩<;>rw [e]<;>decide
   refine Gs (Gm J (Gm J (Gt (Bb J) (Gt (Al L6 J) ?_))))
   refine Gt (AQ Lt J J (by omega) (by omega)) ?_
   refine Gm J ?_
   refine Ak J cQ (.c J (.c J (.c J (.c J (.c J .n))))) (.c .h .n) (FE _ _ _ _ _ _ _ (by first | assumption | omega) (by first | assumption | omega) (by first | assumption | omega) (AK.l3.comp (AU.ar (n:=3) B9 (by omega)))) (fun v2 B hv=>?_)
   obtain⟨rfl,rfl⟩:=hv
   refine Ga J (Gn (.t1 6) (Ac (AS (AD ?_))))
   refine AY J (.tmp J .n) ?_
   intro w1 hS
   have hS:=(hS.perm (Ax.perm (.c .h .n))).A5
   exact⟨_,⟨by simp only [AK.Bm,c1,c3,c4,↓reduceIte,Bool.false_eq_true]<;>rfl,by simp only [AK.Bm,c1,c3,c4,↓reduceIte,Bool.false_eq_true]<;>rfl⟩,hS⟩
  refine Aa ?_
  refine AB (.nil _) ?_
  refine AV (AA (Gs (Ga J (AR (AA (Ac ?_))))))
  refine AY J (.tmp J .n) ?_
  intro w1 hS
  have hS:=(hS.perm (Ax.perm (.c .h .n))).A5
  exact⟨_,⟨by simp only [AK.Bm,c1,c3,c4,↓reduceIte,Bool.false_eq_true]<;>rfl,by simp only [AK.Bm,c1,c3,c4,↓reduceIte,Bool.false_eq_true]<;>rfl⟩,hS⟩
 have c3p:=kz c3
 refine Gs (Gt (Ai J J) (Ga J (Gn (.t6 0 2 7 9 16 40) ?_)))
 refine Gc (fun c5=>?_) (fun c5=>?_)
 ·
  have c5p:=kz c5
  refine CL (Gm J (Gt (BZ J) (Gn (.t4 0 2 7 43) ?_)))
  refine Gc (fun c6=>?_) (fun c6=>?_)
  ·
   have c6p:=kz c6
   refine Gs (Gm J ?_)
   refine BC J TD (.c J (.c J .n)) (fun w hS=>DC _ _ (by first | assumption | omega) (by first | assumption | omega) w) ?_
   refine Ga J (Gn (.t1 6) (Ac (AD (AS (AD ?_)))))
   refine AY J (.tmp J .n) ?_
   intro w1 hS
   have hS:=(hS.perm (Ax.perm (.c .h .n))).A5
   exact⟨_,⟨by simp only [AK.Bm,c1,c3,c5,c6,↓reduceIte,Bool.false_eq_true]<;>rfl,by simp only [AK.Bm,c1,c3,c5,c6,↓reduceIte,Bool.false_eq_true]<;>rfl⟩,hS⟩
  have c6p:=kz c6
  have hk:=AK.Lu (opt:=opt) (by simpa using c6)
  have hk1:0≤(AK.place opt).1∧(AK.place opt).1 < 3:=by rcases hk with ⟨_,e⟩ | ⟨_,e⟩<;>rw [e]<;>decide
  refine Aa ?_
  refine AB (.t3 0 2 7) ?_
  refine AA (Gs (Gm J (Gm J (Gt (Bb J) (Gt (Al Kg J) ?_)))))
  refine Gt (AQ Lt J J (by omega) (by omega)) ?_
  refine Gm J ?_
  refine Ak J cQ (.c J (.c J (.c J (.c J (.c J .n))))) (.c .h .n) (FE _ _ _ _ _ _ _ (by first | assumption | omega) (by first | assumption | omega) (by first | assumption | omega) (AK.l4.comp (AU.ar (n:=3) B9 (by omega)))) (fun v3 B hv=>?_)
  obtain⟨rfl,rfl⟩:=hv
  refine Ga J (Gn (.t1 6) (Ac (AS (AD ?_))))
  refine AY J (.tmp J .n) ?_
  intro w1 hS
  have hS:=(hS.perm (Ax.perm (.c .h .n))).A5
  exact⟨_,⟨by simp only [AK.Bm,c1,c3,c5,c6,↓reduceIte,Bool.false_eq_true]<;>rfl,by simp only [AK.Bm,c1,c3,c5,c6,↓reduceIte,Bool.false_eq_true]<;>rfl⟩,hS⟩
 have c5p:=kz c5
 refine Gs (Gt (Ai J J) (Ga J (Gn (.t5 0 2 7 9 53) ?_)))
 refine Gc (fun c7=>?_) (fun c7=>?_)
 ·
  have c7p:=kz c7
  refine Gs (Gm J (Gn (.t4 0 2 7 55) ?_))
  refine Gc (fun c8=>?_) (fun c8=>?_)
  ·
   have c8p:=kz c8
   have hk:=AK.Lu (opt:=opt) (by simpa using c8)
   have hk1:0≤(AK.place opt).1∧(AK.place opt).1 < 3:=by rcases hk with ⟨_,e⟩ | ⟨_,e⟩<;>rw [e]<;>decide
   refine Gs (Gm J (Gm J (Gt (Bb J) (Gt (Al Kg J) ?_))))
   refine Gt (AQ Lt J J (by omega) (by omega)) ?_
   refine Gm J ?_
   refine Ak J cQ (.c J (.c J (.c J (.c J (.c J .n))))) (.c .h .n) (FE _ _ _ _ _ _ _ (by first | assumption | omega) (by first | assumption | omega) (by first | assumption | omega) (AK.l4.comp (AU.ar (n:=3) B9 (by omega)))) (fun v4 B hv=>?_)
   obtain⟨rfl,rfl⟩:=hv
   refine Ga J (Gn (.t1 6) (Ac (AS (AD ?_))))
   refine AY J (.tmp J .n) ?_
   intro w1 hS
   have hS:=(hS.perm (Ax.perm (.c .h .n))).A5
   exact⟨_,⟨by simp only [AK.Bm,c1,c3,c5,c7,c8,↓reduceIte,Bool.false_eq_true]<;>rfl,by simp only [AK.Bm,c1,c3,c5,c7,c8,↓reduceIte,Bool.false_eq_true]<;>rfl⟩,hS⟩
  refine Aa ?_
  refine AB (.nil _) ?_
  refine AV (AA (Gs (Ga J (AR (AA (Ac ?_))))))
  refine AY J (.tmp J .n) ?_
  intro w1 hS
  have hS:=(hS.perm (Ax.perm (.c .h .n))).A5
  exact⟨_,⟨by simp only [AK.Bm,c1,c3,c5,c7,c8,↓reduceIte,Bool.false_eq_true]<;>rfl,by simp only [AK.Bm,c1,c3,c5,c7,c8,↓reduceIte,Bool.false_eq_true]<;>rfl⟩,hS⟩
 refine Aa ?_
 refine AB (.nil _) ?_
 refine AV (AA (Gs (Ga J (AR (AA (Ac ?_))))))
 refine AY J (.tmp J .n) ?_
 intro w1 hS
 have hS:=(hS.perm (Ax.perm (.c .h .n))).A5
 exact⟨_,⟨by simp only [AK.Bm,c1,c3,c5,c7,↓reduceIte,Bool.false_eq_true]<;>rfl,by simp only [AK.Bm,c1,c3,c5,c7,↓reduceIte,Bool.false_eq_true]<;>rfl⟩,hS⟩
theorem BS (b:Nat)(p:Option Addr)(h:Hd)(s:Ad)(hp:p=none∨p=some ⟨b,0,none⟩)(hz:h.Z)(hl:h.len=s.length)(t:Ad)(hb:s.length+t.length < 140737488355000):KN Tryz.prog 51 #[.pointer (some ⟨b,0,none⟩),BW t] [Ab.box b 107 (Dk.enc ⟨p,h⟩),Ab.own h 5 1 (s.flatMap Di)] (fun v B=>∃ p' h',v = .tuple #[.int .i64 t.length, .nilIface]∧(p'=none∨p'=some ⟨b,0,none⟩)∧h'.Z∧h'.len=(s++t).length∧B = [Ab.box b 107 (Dk.enc ⟨p',h'⟩),Ab.own h' 5 1 ((s++t).flatMap Di)]):=by
 intro w hS0
 refine Ap _ _ Tryz.func51 J J J (hS0) ?_
 refine Gs (Ga J (Ga J (Gn (.t2 0 1) (Gs (Gm J ?_)))))
 refine Ak J eV (.c J .n) (.c .h .n) (DM _ _ _ (by first | assumption | omega)) (fun v1 B hv=>?_)
 obtain⟨rfl,rfl⟩:=hv
 refine Gn (.t2 0 1) (Gs (Gm J (Gm J (Gt (Bb J) (Gt (Al FG J) (Gt (AI J I8 .m0 Dk.l1 J J) (Gm J ?_)))))))
 refine CW Ye J Tryz.underlying105 XG dm J iv (by decide) (by decide) J J (fun _ _=>Src.str Tryz.underlying9) (by dsimp only;omega) (fun _=>(.t .h)) (fun h2 h2l h2z=>?_)
 have h2z:=h2z hz;dsimp only at h2l
 refine Gt (Bb J) (Gt (Al FG J) ?_)
 refine AT (AL Dk.l1 J J J WJ J .h) ?_
 refine Gn (.t1 1) (Gs (Gm J (Gt (BN J Tryz.underlying9 J) (Ga J (Ga J (Gn (.t2 4 5) (Ac ?_)))))))
 refine AY J (.tmp J (.tmp J .n)) ?_
 intro w1 hS
 have hS:=(hS.perm (Ax.perm (.c .h (.c .h .n)))).A5
 exact⟨_,⟨_,_,J, .inr J,by assumption,by simp;omega,by rw [List.flatMap_append]⟩,hS⟩
theorem He (b:Nat)(X:AK)(c:UInt8)(h0:X.sub.length≤16):KN Tryz.prog 57 #[.pointer (some ⟨b,0,none⟩), .int .u8 (c.toNat:Int)] [Ab.box b 69 X.enc] (fun v B=>v = .tuple #[]∧B = [Ab.box b 69 (X.collect c).enc]):=by
 intro w hS0
 refine Ap _ _ Tryz.func57 J J J (hS0) ?_
 refine Gs (Gm J (Gt (Bb J) (Gt (Al HT J) (Gt (AI J CO .m0 AK.l2 J J) (Gt (BN J Tryz.underlying9 J) (Gt (BA J J) (Gn (.t3 0 1 9) ?_)))))))
 refine Gc (fun c1=>?_) (fun c1=>?_)
 ·
  have c1p:=kz c1
  refine BE (N:=11) [0,1,3,7,0,16,48,127,255,511,1023] mix (by kernel_rfl) J ?_
  refine Pf 0 J (AF J) (Pf 1 J (Bb J) (Pf 2 J (Al HT J) (Pf 3 J (AI J CO .m0 AK.l2 J J) (Pf 4 J (AF J) ?_))))
  refine Aj 5 J (by kernel_rfl) ?_
  refine Vf J Tryz.underlying105 XG dm J (by decide) (by decide) J J J (fun b1=>?_)
  refine Bu J ⟨?_,?_⟩
  · exact(Pk (Po J (AI J CO .m1 AK.l2 J J) J J (Po J (Al HT J) J J (Po J (Bb J) J J (Po J (AF J) J J As)))))
  refine Pf 6 J (QT (s:= [c]) J Tryz.underlying105 Tryz.underlying9 Tryz.underlying5 J (Kn.own .m0)) ?_
  refine Pf 7 J (CJ J J (by simp only [List.length_cons,List.length_nil];omega)) ?_
  refine Pf 8 J (Bb J) (Pf 9 J (Al HT J) ?_)
  refine Aj 10 J (by kernel_rfl) ?_
  refine AT (AL AK.l2 J J J Ed J (.t .h)) ?_
  refine BO J ⟨?_,?_⟩
  · exact(Pk (Pk (Pk (Pk (Pk (Pk (Pk (Pk (Pk As)))))))))
  refine A2 (by kernel_rfl) ?_
  refine Bs J .n ?_
  intro w1 hS
  have hS:=(hS.perm (Ax.perm (.c (.t .h) .n))).A5
  exact⟨_,⟨J,by simp only [AK.collect,c1,↓reduceIte,Bool.false_eq_true]⟩,hS⟩
 refine Aa ?_
 refine Bs J .n ?_
 intro w1 hS
 have hS:=(hS.perm (Ax.perm (.c .h .n))).A5
 exact⟨_,⟨J,by simp only [AK.collect,c1,↓reduceIte,Bool.false_eq_true]⟩,hS⟩
theorem LL (b:Nat)(X:AK):KN Tryz.prog 58 #[.pointer (some ⟨b,0,none⟩)] [Ab.box b 69 X.enc] (fun v B=>v = .tuple #[]∧B = [Ab.box b 69 X.measure.enc]):=by
 intro w hS0
 refine Ap _ _ Tryz.func58 J J J (hS0) ?_
 refine Gs (Gm J (Gt (Bb J) (Gt (Al HT J) (Gt (AI J CO .m0 AK.l2 J J) (Gt (BN J Tryz.underlying9 J) (Gt (Ai J J) (Gm J ?_)))))))
 refine Bp 8 J J (fun q=>AF J) (Bp 8 J J (fun q=>Bb (Bo J q)) (Bp 8 J J (fun q=>Al HT (Bo J q)) (Bp 8 J J (fun q=>AI (Bo J q) CO .m0 AK.l2 J J) ?_)))
 refine Bp 8 J J (fun q=>by have q1:=q;(try simp at q1);exact Bt Tryz.underlying9 (Bo rfl q) rfl (by decide) (by omega)) ?_
 refine Bp 8 J J (fun q=>Ai (Bo J q) J) (Gt (BQ J J (fun h=>h)) (Gm J (Bp 16 J J (fun q=>AF J) (Bp 16 J J (fun q=>Bb (Bo J q)) (Bp 16 J J (fun q=>Al Kg (Bo J q)) ?_)))))
 refine Bp 16 J J (fun q=>AQ Lt (Bo J q) J (by decide) (by decide)) ?_
 refine Bp 16 J J (fun q=>AI (Bo J q) A8 .m0 (AK.l4.comp (AU.arr (n:=3) B9 (by decide) (by decide))) J J) ?_
 refine Bp 16 J J (fun q=>Ai (Bo J q) J) (Gt (BQ J J (fun h=>h)) (Gn (.t2 0 23) ?_))
 refine Gc (fun c1=>?_) (fun c1=>?_)
 ·
  have c1p:=kz c1
  refine BE (N:=19) [0,0,2,6,14,30,62,126,0,256,768,1792,3840,7936,16382,32766,65535,131071,262143] mix (by kernel_rfl) J ?_
  refine Pf 0 J (AF J) (Pf 1 J (AF J) (Pf 2 J (Bb J) (Pf 3 J (Al HT J) (Pf 4 J (AI J CO .m0 AK.l2 J J) ?_))))
  refine Pf 5 J (Bt Tryz.underlying9 J J (by decide) (by omega)) ?_
  refine Pf 6 J (Vl Tryz.underlying3 Tryz.underlying5 J) (Pf 7 J (cf J J) (Pf 8 J (AF J) (Pf 9 J (Bb J) (Pf 10 J (Al HT J) (Pf 11 J (AI J CO .m0 AK.l2 J J) ?_)))))
  refine Pf 12 J (Bt Tryz.underlying9 J J (by decide) (by omega)) ?_
  refine Pf 13 J (Vl Tryz.underlying3 Tryz.underlying5 J) (Pf 14 J (eN J J) (Pf 15 J (Mt J J) (Pf 16 J (Bb J) (Pf 17 J (Al Sn J) ?_))))
  refine Aj 18 J (by kernel_rfl) ?_
  refine AT (AL AK.l5 J J J DO J .h) ?_
  refine BO J ⟨?_,?_⟩
  · exact(Pk (Pk (Pk (Pk (Pk (Pk (Pk (Pk (Pk (Pk (Pk (Pk (Pk (Pk (Pk (Pk (Pk (Pk As))))))))))))))))))
  refine A2 (by kernel_rfl) ?_
  refine Bs J .n ?_
  intro w1 hS
  have hS:=(hS.perm (Ax.perm (.c .h .n))).A5
  exact⟨_,⟨J,by rw [show X.measure=_ from BG c1];rfl⟩,hS⟩
 refine Aa ?_
 refine Bs J .n ?_
 intro w1 hS
 have hS:=(hS.perm (Ax.perm (.c .h .n))).A5
 exact⟨_,⟨J,by rw [show X.measure=_ from AX c1]⟩,hS⟩
theorem C5 (b:Nat)(p:Option Addr)(h:Hd)(s:Ad)(hz:h.Z)(hl:h.len=s.length)(hb:s.length < 140737488355000):KN Tryz.prog 54 #[.pointer (some ⟨b,0,none⟩)] [Ab.box b 107 (Dk.enc ⟨p,h⟩),Ab.own h 5 1 (s.flatMap Di)] (fun v B=>v=BW s∧B = [Ab.box b 107 (Dk.enc ⟨p,h⟩)]):=by
 intro w hS0
 refine Ap _ _ Tryz.func54 J J J (hS0) ?_
 refine Gs (Ga J (Gn (.t1 0) (Aq ?_)))
 refine BE (N:=12) [0,1,3,7,15,0,32,96,224,480,1023,2047] mix (by kernel_rfl) J ?_
 refine Pf 0 J (AF J) (Pf 1 J (Bb J) (Pf 2 J (Al FG J) (Pf 3 J (AI J I8 .m0 Dk.l1 J J) ?_)))
 refine Pf 4 J (Rl J (by assumption)) ?_
 refine Pf 5 J (AF J) (Pf 6 J (Bb J) (Pf 7 J (Al FG J) (Pf 8 J (AI J I8 .m0 Dk.l1 J J) (Pf 9 J (Au J Tryz.underlying105 J) ?_))))
 refine Aj 10 J (by kernel_rfl) ?_
 refine OM J Tryz.underlying134 j7 J J (by assumption) (by omega) (.t .h) ?_
 refine Bu J ⟨?_,?_⟩
 · exact(Pk (Pk (Pk (Pk (Pk (Pk (Pk (Pk (Pk (Pk As))))))))))
 refine Pf 11 J (A0 J) ?_
 refine A2 (by kernel_rfl) ?_
 refine AB (.t1 2) ?_
 refine AA (Ac ?_)
 refine AY J (.tmp J .n) ?_
 intro w1 hS
 have hS:=(hS.perm (Ax.perm (.c .h .n))).A5
 exact⟨_,⟨J,J⟩,hS⟩
theorem Gy (X:AK)(u:Ad)(hu:u.length≤140737488351232)(w:World):Ev Tryz.prog 29 #[.agg X.enc.toArray,BW u] w fun v w'=>v = .tuple #[.agg (X.DA u).1.enc.toArray,BW (X.DA u).2.1,BW (X.DA u).2.2.1, .int .i64 (X.DA u).2.2.2]∧CH w w':=by
 refine Ap [] [] Tryz.func29 J J J (St.start w []) ?_
 refine Gs ?_
 refine CB J J J (fun b1=>?_)
 refine BJ J Xq J (fun b2=>?_)
 refine Ga J (Ga J (Ga J (Gn (.t3 1 2 4) (CL (Gt (AZ J EI .m1 (AU.id AK.fl.len AK.fl.one) J) ?_)))))
 refine BC J eM (.c J .n) (fun w hS=>Gp _ w) ?_
 refine Gt (BZ J) (Gn (.t4 1 2 4 15) ?_)
 refine Gc (fun c1=>?_) (fun c1=>?_)
 ·
  refine Gs (Gt (AZ J EI .m1 (AU.id AK.fl.len AK.fl.one) J) ?_)
  refine AT (AL (AU.id AK.fl.len AK.fl.one) J J J KE J .h) ?_
  refine Ga J (Ga J (Ga J (Gn (.t4 4 5 6 7) (Ac (AD ?_)))))
  refine AY J (.cell J .m0 (.inl ⟨(by rw [AK.fl.len];exact EI),J⟩) (.tmp J (.tmp J (.tmp J .n)))) ?_
  intro w1 hS;refine⟨?_,hS.Ao⟩;rw [show X.DA u=_ from BG c1];rfl
 have c1p:=kz c1
 have hg:X.Bk=true:=by simpa using c1
 refine Aa ?_
 refine AB (.t3 1 2 4) ?_
 refine AA (Gs ?_)
 refine BJ J WI J (fun b3=>?_)
 refine Dy Di 5 1 ?_
 refine BJ J WI J (fun b4=>?_)
 refine Dy Di 5 1 ?_
 refine AR (AA (CL (Gm J ?_)))
 refine O7 J Tryz.underlying9 Tryz.underlying105 Tryz.underlying5 J (fun h1 h1l=>?_)
 refine Gt (Au J Tryz.underlying105 J) (Gm J (Gn (.t7 2 4 8 9 18 19 20) (Ag ?_)))
 refine Bw (.t7 20 2 4 8 9 18 19) ?_
 refine Be (.t (.t (.t (.t (.t (.t .h)))))) ?_
 refine Be (.t (.t (.t (.t (.t .h))))) ?_
 refine Be (.t (.t (.t (.t (.t .h))))) ?_
 refine Be (.t (.t (.t (.t (.t .h))))) ?_
 refine Be (.t (.t (.t (.t (.t .h))))) ?_
 refine UU (fun(k:Int) (t:AK) (x:Ad) (y:Ad) (p:Option Addr) (h:Hd) (q:Option Addr) (g:Hd)=>AK.KY X u k t x y∧(p=none∨p=some ⟨b3,0,none⟩)∧h.Z∧h.len=x.length∧(q=none∨q=some ⟨b4,0,none⟩)∧g.Z∧g.len=y.length) (fun(k:Int) (t:AK) (x:Ad) (y:Ad) (p:Option Addr) (h:Hd) (q:Option Addr) (g:Hd)=>((u.length:Int) - k).toNat) (fun(k:Int) (t:AK) (x:Ad) (y:Ad) (p:Option Addr) (h:Hd) (q:Option Addr) (g:Hd)=> [(20, .int .i64 k)]) (fun(k:Int) (t:AK) (x:Ad) (y:Ad) (p:Option Addr) (h:Hd) (q:Option Addr) (g:Hd)=> [Ab.own g 5 1 (y.flatMap Di),Ab.box b4 107 (Dk.enc ⟨q,g⟩),Ab.own h 5 1 (x.flatMap Di),Ab.box b3 107 (Dk.enc ⟨p,h⟩),Ab.box b1 69 (AK.enc t)]) (0) (X) ([]) ([]) (none) (⟨none,0,0⟩) (none) (⟨none,0,0⟩) ?_ J J (fun k t x y p h q g hI1=>?_)
 · exact⟨AK.KY.start (AK.ZM hg), .inl J,Hd.Wo,J, .inl J,Hd.Wo,J⟩
 obtain⟨hI11,hp,hz,hl,hq,hzg,hlg⟩:=hI1;have hk0:=hI11.k0;have hk1:=hI11.k1;have hsub:=hI11.sub;have hxl:=hI11.xl;have hyl:=hI11.yl;have hc8:=(u.getD k.toNat 0).toNat_lt;have hyb:=hI11.yb
 refine Gs (Gt (BA J J) (AR (AA (Aq ?_))))
 refine Gc (fun c2=>?_) (fun c2=>?_)
 ·
  have c2p:=kz c2
  refine Aa ?_
  refine AB (.t7 2 4 8 9 18 19 20) ?_
  refine AA (Aq (Ag (Gs ?_)))
  refine Gt (Bz ZC (by decide) (Kn.own .m5) J J (by omega) (by omega)) ?_
  refine Gt (ZX J gM (Kn.own .m5) (by omega)) ?_
  refine Ga J (Gn (.t8 2 4 8 9 11 18 19 20) (Gs (Gm J (Gt (Vl Tryz.underlying3 Tryz.underlying5 J) (Ga J (Gn (.t9 2 4 8 9 11 12 18 19 20) (Gs ?_)))))))
  refine Gt (Al GC J) (Gt (AI J A8 .m4 AK.l0 J J) (Gn (.t10 2 4 8 9 11 12 18 19 20 27) (Ag (Gs (Gt (Ai J J) (Ga J (Gn (.t11 2 4 8 9 11 12 18 19 20 27 28) ?_)))))))
  refine Gc (fun c3=>?_) (fun c3=>?_)
  ·
   have c3p:=kz c3
   refine Gs (Gm J (Gt (Ai J J) (Gn (.t9 2 4 8 9 11 18 19 20 31) ?_)))
   refine Gc (fun c4=>?_) (fun c4=>?_)
   ·
    have c4p:=kz c4
    refine AJ (Gt (Al GC J) ?_)
    refine AT (AL AK.l0 J J J DO J (.t (.t (.t (.t .h))))) ?_
    refine AR (AB (.t7 2 4 8 9 18 19 20) ?_)
    refine AV (AV (AA (AJ ?_)))
    refine Gt (Ay J J (IntWalk.i64_in _ (by omega))) ?_
    refine Gm J ?_
    refine AR (AB (.t7 2 4 8 9 18 19 20) ?_)
    refine Ce _ _ _ _ _ _ _ _ ?_ ?_ (.t7 20 2 4 8 9 18 19) (.refl _)
    · exact⟨hI11.next (by omega) (by simp only [AK.step,c1,c2,c3,c4,↓reduceIte,Bool.false_eq_true]) (by simp only [AK.step,c1,c2,c3,c4,List.append_nil,↓reduceIte,Bool.false_eq_true]) (by simp only [AK.step,c1,c2,c3,c4,List.append_nil,↓reduceIte,Bool.false_eq_true]),by assumption,by assumption,by assumption,by assumption,by assumption,by assumption⟩
    · omega
   have c4p:=kz c4
   refine AJ (Gm J ?_)
   refine Ak J bV (.c J (.c J .n)) (.c (.t (.t (.t .h))) (.c (.t (.t .h)) .n)) (Co _ _ _ _ (by assumption) (by assumption) (by assumption) _ (by omega)) (fun v2 B hv=>?_)
   obtain⟨y3,y4,rfl,y5,y6,y7,rfl⟩:=hv
   refine AR (AB (.t7 2 4 8 9 18 19 20) ?_)
   refine AV (AV (AA (AJ ?_)))
   refine Gt (Ay J J (IntWalk.i64_in _ (by omega))) ?_
   refine Gm J ?_
   refine AR (AB (.t7 2 4 8 9 18 19 20) ?_)
   refine CK (.c (.t (.t .h)) (.c (.t (.t .h)) (.c (.t .h) (.c .h (.c .h (.c .h (.c .h .n))))))) ?_
   refine Cl ?_
   refine Ce _ _ _ _ _ _ _ _ ?_ ?_ (.t7 20 2 4 8 9 18 19) (.refl _)
   · exact⟨hI11.next (by omega) (by simp only [AK.step,c1,c2,c3,c4,↓reduceIte,Bool.false_eq_true]) (by simp only [AK.step,c1,c2,c3,c4,List.append_nil,↓reduceIte,Bool.false_eq_true]) (by simp only [AK.step,c1,c2,c3,c4,List.append_nil,↓reduceIte,Bool.false_eq_true]),by assumption,by assumption,by assumption,by assumption,by assumption,by assumption⟩
   · omega
  have c3p:=kz c3
  refine Gs (Gt (Ai J J) (Ga J (Gn (.t11 2 4 8 9 11 12 18 19 20 27 35) ?_)))
  refine Gc (fun c5=>?_) (fun c5=>?_)
  ·
   have c5p:=kz c5
   refine Gs (Gt (Al GC J) ?_)
   refine AT (AL AK.l0 J J J DO J (.t (.t (.t (.t .h))))) ?_
   refine Gn (.t9 2 4 8 9 11 12 18 19 20) (Ag (Gs (Gm J (Gt (Ai J J) (Ga J (Gn (.t10 2 4 8 9 11 12 18 19 20 38) ?_))))))
   refine Gc (fun c6=>?_) (fun c6=>?_)
   ·
    have c6p:=kz c6
    refine AJ (Gm J ?_)
    refine Ak J bV (.c J (.c J .n)) (.c (.t (.t (.t .h))) (.c (.t (.t .h)) .n)) (Co _ _ _ _ (by assumption) (by assumption) (by assumption) _ (by omega)) (fun v8 B hv=>?_)
    obtain⟨y9,y10,rfl,y11,y12,y13,rfl⟩:=hv
    refine AR (AB (.t7 2 4 8 9 18 19 20) ?_)
    refine AV (AV (AV (AA (AJ ?_))))
    refine Gt (Ay J J (IntWalk.i64_in _ (by omega))) ?_
    refine Gm J ?_
    refine AR (AB (.t7 2 4 8 9 18 19 20) ?_)
    refine CK (.c (.t (.t .h)) (.c (.t (.t .h)) (.c (.t .h) (.c .h (.c .h (.c .h (.c .h .n))))))) ?_
    refine Cl ?_
    refine Ce _ _ _ _ _ _ _ _ ?_ ?_ (.t7 20 2 4 8 9 18 19) (.refl _)
    · exact⟨hI11.next (by omega) (by simp only [AK.step,c1,c2,c3,c5,c6,↓reduceIte,Bool.false_eq_true]) (by simp only [AK.step,c1,c2,c3,c5,c6,List.append_nil,↓reduceIte,Bool.false_eq_true]) (by simp only [AK.step,c1,c2,c3,c5,c6,List.append_nil,↓reduceIte,Bool.false_eq_true]),by assumption,by assumption,by assumption,by assumption,by assumption,by assumption⟩
    · omega
   have c6p:=kz c6
   refine Gs (Gm J (Gt (Ai J J) (Ga J (Gn (.t9 2 4 8 9 12 18 19 20 43) ?_))))
   refine Gc (fun c7=>?_) (fun c7=>?_)
   ·
    have c7p:=kz c7
    refine AJ (Gt (Al GC J) ?_)
    refine AT (AL AK.l0 J J J DO J (.t (.t (.t (.t .h))))) ?_
    refine AR (AB (.t7 2 4 8 9 18 19 20) ?_)
    refine AV (AV (AV (AA (AJ ?_))))
    refine Gt (Ay J J (IntWalk.i64_in _ (by omega))) ?_
    refine Gm J ?_
    refine AR (AB (.t7 2 4 8 9 18 19 20) ?_)
    refine Ce _ _ _ _ _ _ _ _ ?_ ?_ (.t7 20 2 4 8 9 18 19) (.refl _)
    · exact⟨hI11.next (by omega) (by simp only [AK.step,c1,c2,c3,c5,c6,c7,↓reduceIte,Bool.false_eq_true]) (by simp only [AK.step,c1,c2,c3,c5,c6,c7,List.append_nil,↓reduceIte,Bool.false_eq_true]) (by simp only [AK.step,c1,c2,c3,c5,c6,c7,List.append_nil,↓reduceIte,Bool.false_eq_true]),by assumption,by assumption,by assumption,by assumption,by assumption,by assumption⟩
    · omega
   have c7p:=kz c7
   refine Gs (Gm J (Gt (CZ J J) (Ga J (Gn (.t9 2 4 8 9 12 18 19 20 47) ?_))))
   refine Gc (fun c8=>?_) (fun c8=>?_)
   ·
    have c8p:=kz c8
    refine AJ (Gm J (Gt (Al GC J) ?_))
    refine AT (AL AK.l0 J J J DO J (.t (.t (.t (.t .h))))) ?_
    refine Gt (Al Ll J) ?_
    refine AT (AL AK.l1 J J J DO J (.t (.t (.t (.t .h))))) ?_
    refine AR (AB (.t7 2 4 8 9 18 19 20) ?_)
    refine AV (AV (AV (AA (AJ ?_))))
    refine Gt (Ay J J (IntWalk.i64_in _ (by omega))) ?_
    refine Gm J ?_
    refine AR (AB (.t7 2 4 8 9 18 19 20) ?_)
    refine Ce _ _ _ _ _ _ _ _ ?_ ?_ (.t7 20 2 4 8 9 18 19) (.refl _)
    · exact⟨hI11.next (by omega) (by simp only [AK.step,c1,c2,c3,c5,c6,c7,c8,↓reduceIte,Bool.false_eq_true]) (by simp only [AK.step,c1,c2,c3,c5,c6,c7,c8,List.append_nil,↓reduceIte,Bool.false_eq_true]) (by simp only [AK.step,c1,c2,c3,c5,c6,c7,c8,List.append_nil,↓reduceIte,Bool.false_eq_true]),by assumption,by assumption,by assumption,by assumption,by assumption,by assumption⟩
    · omega
   have c8p:=kz c8
   refine Aa ?_
   refine AB (.t7 2 4 8 9 18 19 20) ?_
   refine AV (AV (AV (AA (AJ ?_))))
   refine Gt (Ay J J (IntWalk.i64_in _ (by omega))) ?_
   refine Gm J ?_
   refine AR (AB (.t7 2 4 8 9 18 19 20) ?_)
   refine Ce _ _ _ _ _ _ _ _ ?_ ?_ (.t7 20 2 4 8 9 18 19) (.refl _)
   · exact⟨hI11.next (by omega) (by simp only [AK.step,c1,c2,c3,c5,c6,c7,c8,↓reduceIte,Bool.false_eq_true]) (by simp only [AK.step,c1,c2,c3,c5,c6,c7,c8,List.append_nil,↓reduceIte,Bool.false_eq_true]) (by simp only [AK.step,c1,c2,c3,c5,c6,c7,c8,List.append_nil,↓reduceIte,Bool.false_eq_true]),by assumption,by assumption,by assumption,by assumption,by assumption,by assumption⟩
   · omega
  have c5p:=kz c5
  refine Gs (Gt (Ai J J) (Ga J (Gn (.t11 2 4 8 9 11 12 18 19 20 27 53) ?_)))
  refine Gc (fun c9=>?_) (fun c9=>?_)
  ·
   have c9p:=kz c9
   refine Gs (Gt (Al Ll J) (Gt (AI J A8 .m4 AK.l1 J J) (Gm J ?_)))
   refine Ak J iz (.c J (.c J (.c J .n))) (.c (.t (.t (.t (.t .h)))) .n) (J5 _ _ _ _ (by first | assumption | omega)) (fun v14 B hv=>?_)
   obtain⟨rfl,rfl⟩:=hv
   refine Ak J Qs (.c J (.c J .n)) (.c (.t (.t .h)) (.c (.t .h) .n)) (BS _ _ _ _ (by assumption) (by assumption) (by assumption) _ (by have:=AK.Iy t t.verb ((u.getD k.toNat 0).toNat:Int);omega)) (fun v15 B hv=>?_)
   obtain⟨y16,y17,rfl,y18,y19,y20,rfl⟩:=hv
   refine Gn (.t7 2 4 8 9 18 19 20) (AJ (Gt (Al GC J) ?_))
   refine AT (AL AK.l0 J J J DO J (.t (.t .h))) ?_
   refine Gt (Al Ll J) ?_
   refine AT (AL AK.l1 J J J DO J (.t (.t .h))) ?_
   refine AR (AB (.t7 2 4 8 9 18 19 20) ?_)
   refine AV (AV (AA (AJ ?_)))
   refine Gt (Ay J J (IntWalk.i64_in _ (by omega))) ?_
   refine Gm J ?_
   refine AR (AB (.t7 2 4 8 9 18 19 20) ?_)
   refine CK (.c (.t .h) (.c .h (.c (.t .h) (.c (.t .h) (.c .h (.c .h (.c .h .n))))))) ?_
   refine Cl ?_
   refine Ce _ _ _ _ _ _ _ _ ?_ ?_ (.t7 20 2 4 8 9 18 19) (.refl _)
   · exact⟨hI11.next (by omega) (by simp only [AK.step,c1,c2,c3,c5,c9,↓reduceIte,Bool.false_eq_true]) (by simp only [AK.step,c1,c2,c3,c5,c9,List.append_nil,↓reduceIte,Bool.false_eq_true]) (by simp only [AK.step,c1,c2,c3,c5,c9,List.append_nil,↓reduceIte,Bool.false_eq_true]),by assumption,by assumption,by assumption,by assumption,by assumption,by assumption⟩
   · omega
  have c9p:=kz c9
  refine Gs (Gt (Ai J J) (Ga J (Gn (.t11 2 4 8 9 11 12 18 19 20 27 62) ?_)))
  refine Gc (fun c10=>?_) (fun c10=>?_)
  ·
   have c10p:=kz c10
   refine Gs (Gm J (Gt (Ai J J) (Gn (.t9 2 4 8 9 11 18 19 20 65) ?_)))
   refine Gc (fun c11=>?_) (fun c11=>?_)
   ·
    have c11p:=kz c11
    refine AJ (Gt (Al GC J) ?_)
    refine AT (AL AK.l0 J J J DO J (.t (.t (.t (.t .h))))) ?_
    refine AR (AB (.t7 2 4 8 9 18 19 20) ?_)
    refine AV (AV (AA (AJ ?_)))
    refine Gt (Ay J J (IntWalk.i64_in _ (by omega))) ?_
    refine Gm J ?_
    refine AR (AB (.t7 2 4 8 9 18 19 20) ?_)
    refine Ce _ _ _ _ _ _ _ _ ?_ ?_ (.t7 20 2 4 8 9 18 19) (.refl _)
    · exact⟨hI11.next (by omega) (by simp only [AK.step,c1,c2,c3,c5,c9,c10,c11,↓reduceIte,Bool.false_eq_true]) (by simp only [AK.step,c1,c2,c3,c5,c9,c10,c11,List.append_nil,↓reduceIte,Bool.false_eq_true]) (by simp only [AK.step,c1,c2,c3,c5,c9,c10,c11,List.append_nil,↓reduceIte,Bool.false_eq_true]),by assumption,by assumption,by assumption,by assumption,by assumption,by assumption⟩
    · omega
   have c11p:=kz c11
   refine AJ (Gm J ?_)
   refine Ak J gN (.c J (.c J .n)) (.c (.t (.t (.t (.t .h)))) .n) (He _ _ _ (by first | assumption | omega)) (fun v21 B hv=>?_)
   obtain⟨rfl,rfl⟩:=hv
   refine AR (AB (.t7 2 4 8 9 18 19 20) ?_)
   refine AV (AV (AA (AJ ?_)))
   refine Gt (Ay J J (IntWalk.i64_in _ (by omega))) ?_
   refine Gm J ?_
   refine AR (AB (.t7 2 4 8 9 18 19 20) ?_)
   refine CK (.c (.t .h) (.c (.t .h) (.c (.t .h) (.c (.t .h) (.c .h (.c .h (.c .h .n))))))) ?_
   refine Cl ?_
   refine Ce _ _ _ _ _ _ _ _ ?_ ?_ (.t7 20 2 4 8 9 18 19) (.refl _)
   · exact⟨hI11.next (by omega) (by simp only [AK.step,c1,c2,c3,c5,c9,c10,c11,↓reduceIte,Bool.false_eq_true]) (by simp only [AK.step,c1,c2,c3,c5,c9,c10,c11,List.append_nil,↓reduceIte,Bool.false_eq_true]) (by simp only [AK.step,c1,c2,c3,c5,c9,c10,c11,List.append_nil,↓reduceIte,Bool.false_eq_true]),by assumption,by assumption,by assumption,by assumption,by assumption,by assumption⟩
   · omega
  have c10p:=kz c10
  refine Gs (Gt (Ai J J) (Ga J (Gn (.t10 2 4 8 9 11 12 18 19 20 69) ?_)))
  refine Gc (fun c12=>?_) (fun c12=>?_)
  ·
   have c12p:=kz c12
   refine Gs (Gm J (Gn (.t10 2 4 8 9 11 12 18 19 20 71) (Ag (Gs (Gt (Ai J J) (Ga J (Gn (.t10 2 4 8 9 11 12 18 19 20 77) ?_)))))))
   refine Gc (fun c13=>?_) (fun c13=>?_)
   ·
    have c13p:=kz c13
    refine Gs (Gt (Al GC J) ?_)
    refine AT (AL AK.l0 J J J DO J (.t (.t (.t (.t .h))))) ?_
    refine Gn (.t8 2 4 8 9 11 18 19 20) (AJ (Gm J ?_))
    refine Ak J gN (.c J (.c J .n)) (.c (.t (.t (.t (.t .h)))) .n) (He _ _ _ (by first | assumption | omega)) (fun v22 B hv=>?_)
    obtain⟨rfl,rfl⟩:=hv
    refine AR (AB (.t7 2 4 8 9 18 19 20) ?_)
    refine AV (AV (AV (AA (AJ ?_))))
    refine Gt (Ay J J (IntWalk.i64_in _ (by omega))) ?_
    refine Gm J ?_
    refine AR (AB (.t7 2 4 8 9 18 19 20) ?_)
    refine CK (.c (.t .h) (.c (.t .h) (.c (.t .h) (.c (.t .h) (.c .h (.c .h (.c .h .n))))))) ?_
    refine Cl ?_
    refine Ce _ _ _ _ _ _ _ _ ?_ ?_ (.t7 20 2 4 8 9 18 19) (.refl _)
    · exact⟨hI11.next (by omega) (by simp only [AK.step,c1,c2,c3,c5,c9,c10,c12,c13,↓reduceIte,Bool.false_eq_true]) (by simp only [AK.step,c1,c2,c3,c5,c9,c10,c12,c13,List.append_nil,↓reduceIte,Bool.false_eq_true]) (by simp only [AK.step,c1,c2,c3,c5,c9,c10,c12,c13,List.append_nil,↓reduceIte,Bool.false_eq_true]),by assumption,by assumption,by assumption,by assumption,by assumption,by assumption⟩
    · omega
   have c13p:=kz c13
   refine CL (Gm J (Gt (Ai J J) (Gn (.t8 2 4 8 9 18 19 20 73) ?_)))
   refine Gc (fun c14=>?_) (fun c14=>?_)
   ·
    have c14p:=kz c14
    refine AJ ?_
    refine Ak J jB (.c J .n) (.c (.t (.t (.t (.t .h)))) .n) (LL _ _) (fun v23 B hv=>?_)
    obtain⟨rfl,rfl⟩:=hv
    refine Gn (.t7 2 4 8 9 18 19 20) (AJ (Gt (Al GC J) ?_))
    refine AT (AL AK.l0 J J J DO J .h) ?_
    refine Gt (Al HT J) ?_
    refine AT (AL AK.l2 J J J Ed J .h) ?_
    refine AR (AB (.t7 2 4 8 9 18 19 20) ?_)
    refine AV (AV (AV (AA (AJ ?_))))
    refine Gt (Ay J J (IntWalk.i64_in _ (by omega))) ?_
    refine Gm J ?_
    refine AR (AB (.t7 2 4 8 9 18 19 20) ?_)
    refine CK (.c (.t .h) (.c (.t .h) (.c (.t .h) (.c (.t .h) (.c .h (.c .h (.c .h .n))))))) ?_
    refine Cl ?_
    refine Ce _ _ _ _ _ _ _ _ ?_ ?_ (.t7 20 2 4 8 9 18 19) (.refl _)
    · exact⟨hI11.next (by omega) (by simp only [AK.step,c1,c2,c3,c5,c9,c10,c12,c13,c14,↓reduceIte,Bool.false_eq_true]) (by simp only [AK.step,c1,c2,c3,c5,c9,c10,c12,c13,c14,List.append_nil,↓reduceIte,Bool.false_eq_true]) (by simp only [AK.step,c1,c2,c3,c5,c9,c10,c12,c13,c14,List.append_nil,↓reduceIte,Bool.false_eq_true]),by assumption,by assumption,by assumption,by assumption,by assumption,by assumption⟩
    · omega
   have c14p:=kz c14
   refine Aa ?_
   refine AB (.t7 2 4 8 9 18 19 20) ?_
   refine AA (AJ (Gt (Al GC J) ?_))
   refine AT (AL AK.l0 J J J DO J (.t (.t (.t (.t .h))))) ?_
   refine Gt (Al HT J) ?_
   refine AT (AL AK.l2 J J J Ed J (.t (.t (.t (.t .h))))) ?_
   refine AR (AB (.t7 2 4 8 9 18 19 20) ?_)
   refine AV (AV (AV (AA (AJ ?_))))
   refine Gt (Ay J J (IntWalk.i64_in _ (by omega))) ?_
   refine Gm J ?_
   refine AR (AB (.t7 2 4 8 9 18 19 20) ?_)
   refine Ce _ _ _ _ _ _ _ _ ?_ ?_ (.t7 20 2 4 8 9 18 19) (.refl _)
   · exact⟨hI11.next (by omega) (by simp only [AK.step,c1,c2,c3,c5,c9,c10,c12,c13,c14,↓reduceIte,Bool.false_eq_true]) (by simp only [AK.step,c1,c2,c3,c5,c9,c10,c12,c13,c14,List.append_nil,↓reduceIte,Bool.false_eq_true]) (by simp only [AK.step,c1,c2,c3,c5,c9,c10,c12,c13,c14,List.append_nil,↓reduceIte,Bool.false_eq_true]),by assumption,by assumption,by assumption,by assumption,by assumption,by assumption⟩
   · omega
  have c12p:=kz c12
  refine Aa ?_
  refine AB (.t7 2 4 8 9 18 19 20) ?_
  refine AV (AV (AA (AJ ?_)))
  refine Gt (Ay J J (IntWalk.i64_in _ (by omega))) ?_
  refine Gm J ?_
  refine AR (AB (.t7 2 4 8 9 18 19 20) ?_)
  refine Ce _ _ _ _ _ _ _ _ ?_ ?_ (.t7 20 2 4 8 9 18 19) (.refl _)
  · exact⟨hI11.next (by omega) (by simp only [AK.step,c1,c2,c3,c5,c9,c10,c12,↓reduceIte,Bool.false_eq_true]) (by simp only [AK.step,c1,c2,c3,c5,c9,c10,c12,List.append_nil,↓reduceIte,Bool.false_eq_true]) (by simp only [AK.step,c1,c2,c3,c5,c9,c10,c12,List.append_nil,↓reduceIte,Bool.false_eq_true]),by assumption,by assumption,by assumption,by assumption,by assumption,by assumption⟩
  · omega
 have c2p:=kz c2
 refine Bg (AW (AW (Ah ?_)))
 refine AB (.t4 2 4 8 9) ?_
 refine AA (Aq ?_)
 refine BE (N:=7) [0,0,2,7,15,31,63] mix (by kernel_rfl) J ?_
 refine Pf 0 J (AZ J EI .m4 (AU.id AK.fl.len AK.fl.one) J) ?_
 refine Aj 1 J (by kernel_rfl) ?_
 refine Ak J ch (.c J .n) (.c (.t (.t (.t .h))) (.c (.t (.t .h)) .n)) (C5 _ _ _ _ (by assumption) (by assumption) (by omega)) (fun v24 B hv=>?_)
 obtain⟨rfl,rfl⟩:=hv
 refine Bu J ⟨?_,?_⟩
 · exact(Po J (AZ J EI .m3 (AU.id AK.fl.len AK.fl.one) J) J J As)
 refine Aj 2 J (by kernel_rfl) ?_
 refine Ak J ch (.c J .n) (.c (.t (.t .h)) (.c (.t .h) .n)) (C5 _ _ _ _ (by assumption) (by assumption) (by omega)) (fun v25 B hv=>?_)
 obtain⟨rfl,rfl⟩:=hv
 refine Bu J ⟨?_,?_⟩
 · exact(Po J (AZ J EI .m2 (AU.id AK.fl.len AK.fl.one) J) J J As)
 refine Aj 3 J (by kernel_rfl) ?_
 refine AT (AL (AU.id AK.fl.len AK.fl.one) J J J KE J (.t (.t (.t (.t .h))))) ?_
 refine BO J ⟨?_,?_⟩
 · exact(Pk As)
 refine Pf 4 J (A0 J) (Pf 5 J (A0 J) (Pf 6 J (A0 J) ?_))
 refine A2 (by kernel_rfl) ?_
 refine AB (.t4 4 5 6 7) ?_
 refine AA (Ac ?_)
 refine AY J (.cell J .m4 (.inl ⟨(by rw [AK.fl.len];exact EI),J⟩) (.tmp J (.tmp J (.tmp J .n)))) ?_
 intro w1 hS;refine⟨?_,hS.Ao⟩;rw [show X.DA u=_ from AX c1,hI11.done (by omega)];rfl
theorem H4 {t0 t1:Nat}(f g:Hd)(xs ys:List Ad)(hx:xs.length≤9223372036854775807)(w:World)(r0:Rd w f t0 1 (xs.flatMap A6))(r1:Rd w g t1 1 (ys.flatMap A6)):Ev Tryz.prog 26 #[f.val,g.val] w fun v w'=>v = .bool (decide (xs=ys))∧CH w w':=by
 have hf:=r0.Lz C7 (by decide)
 have hg:=r1.Lz C7 (by decide)
 refine Ap [] [] Tryz.func26 J J J (St.start w []) ?_
 refine Gs (Ga J (Gn (.t2 0 1) (CL (Gm J (Gt (Au J Tryz.underlying52 J) (Gm J (Gt (Au J Tryz.underlying52 J) ?_)))))))
 refine Gt (Cm J J) (Gn (.t3 0 1 10) ?_)
 refine Gc (fun c1=>?_) (fun c1=>?_)
 ·
  have c1p:=kz c1
  refine Gs (Ga J (Gn (.t1 4) (Ac (AD ?_))))
  refine AY J (.tmp J .n) ?_
  intro w1 hS;refine⟨congrArg Value.bool ?_,hS.Ao⟩;have:xs≠ys:=fun e=>by subst e;simp at c1;omega
  simp [this]
 have c1p:=kz c1
 refine Aa ?_
 refine AB (.t2 0 1) ?_
 refine AA (CL (Ga J (AR (AA (Ag ?_)))))
 refine Bw (.t3 5 0 1) ?_
 refine Ck (fun(i:Int)=>0≤i∧i≤xs.length∧xs.length=ys.length∧xs.take i.toNat=ys.take i.toNat) (fun(i:Int)=>((xs.length:Int) - i).toNat) (fun(i:Int)=> [(5, .int .i64 i)]) (fun(i:Int)=> []) (0) ?_ J J (fun i hI1=>?_)
 · exact⟨by omega,by omega,by simp at c1;omega,rfl⟩
 obtain⟨hI11,hI12,hI13,hI14⟩:=hI1
 refine CL (Gm J (Gm J (Gt (Au J Tryz.underlying52 J) (Gt (BA J J) (Gn (.t4 0 1 5 14) ?_)))))
 refine Gc (fun c2=>?_) (fun c2=>?_)
 ·
  have c2p:=kz c2
  refine Aa ?_
  refine AB (.t3 0 1 5) ?_
  refine AA (Aq (Ag (Aq ?_)))
  refine BE (N:=9) [0,0,3,7,0,0,48,112,255] mix (by kernel_rfl) J ?_
  refine Pf 0 J (AF J) (Pf 1 J (AF J) ?_)
  refine Pf 2 J (Bz JO (by decide) (Kn.I7 r0) J J (by omega) (by omega)) ?_
  refine Pf 3 J (DY J CO (Kn.I7 r0) (by omega)) ?_
  refine Pf 4 J (AF J) (Pf 5 J (AF J) ?_)
  refine Pf 6 J (Bz JO (by decide) (Kn.I7 r1) J J (by omega) (by omega)) ?_
  refine Pf 7 J (DY J CO (Kn.I7 r1) (by omega)) ?_
  refine Pf 8 J (DK J J) ?_
  refine A2 (by kernel_rfl) ?_
  refine AB (.t4 0 1 5 25) ?_
  refine AA ?_
  refine Gc (fun c3=>?_) (fun c3=>?_)
  ·
   refine Gs (Ga J (Gn (.t1 4) (Ac (AS (AD (AD (AS ?_)))))))
   refine AD ?_
   refine AY J (.tmp J .n) ?_
   intro w1 hS;refine⟨congrArg Value.bool ?_,hS.Ao⟩;have:=Bh.Vg (d:= []) (xs:=xs) (ys:=ys) (i:=i.toNat) (by simpa using c3)
   simp [this]
  have c3p:=kz c3
  refine Aa ?_
  refine AB (.t3 0 1 5) ?_
  refine AV (AA (AJ (Gm J ?_)))
  refine Gt (Ay J J (IntWalk.i64_in _ (by omega))) ?_
  refine Ga J ?_
  refine AR (AB (.t3 0 1 5) ?_)
  refine CC (i+1) ?_ ?_ (.t3 5 0 1) (.refl _)
  · exact⟨by omega,by omega,hI13,Bh.K8 (d:= []) hI11 hI13 (by omega) hI14 (by simpa using c3)⟩
  · omega
 have c2p:=kz c2
 refine Bg (AW (AW (Ah ?_)))
 refine AB (.nil _) ?_
 refine AA (Gs (Ga J (AR (AA (Ac ?_)))))
 refine AY J (.tmp J .n) ?_
 intro w1 hS;refine⟨congrArg Value.bool ?_,hS.Ao⟩;have:=Bh.iH (xs:=xs) (ys:=ys) hI13 hI14 (by omega)
 simp [this]
theorem FY (s:Ad)(c:UInt8)(w:World):Ev Tryz.prog 87 #[BW s, .int .u8 (c.toNat:Int)] w fun v w'=>v = .int .i64 (Lib.indexByte s c)∧CH w w':=by
 refine Ap [] [] Tryz.func87 J J J (St.start w []) ?_
 refine Gs (Ga J (Gn (.t2 0 1) (Gs (Gm J (Gm J ?_)))))
 refine Gt (MK Tryz.func112 (by kernel_rfl) (by kernel_rfl) (by kernel_rfl) (by kernel_rfl) J J) ?_
 refine Ga J (Gn (.t1 4) (Ac ?_))
 refine AY J (.tmp J .n) ?_
 intro w1 hS;refine⟨?_,hS.Ao⟩;rfl
theorem EH (s:Ad)(c:UInt8)(w:World):Ev Tryz.prog 76 #[BW s,BW [c]] w fun v w'=>v = .int .i64 (Lib.indexByte s c)∧CH w w':=by
 refine Ap [] [] Tryz.func76 J J J (St.start w []) ?_
 refine Gs (Ga J (Gn (.t2 0 1) (Gs (Gm J (Gt (BN J Tryz.underlying9 J) (Ga J (Gn (.t3 0 1 5) ?_)))))))
 refine Aq (Ag (Gs (Gm J (Gt (Ai J J) (Gm J (Bj 19 J J (fun q=>AF J) (Bj 19 J J (fun q=>AF J) ?_)))))))
 refine Bj 19 J J (fun q=>B4 (cF J q) (cF J q)) ?_
 refine Gt (Ba J J (fun h=>by rw [h];rfl)) ?_
 refine Ga J (Gn (.t4 0 1 5 16) ?_)
 refine Gc (fun c1=>?_) (fun c1=>?_)
 ·
  refine Gs (Ga J (Gn (.t1 4) (Ac (AS (AD ?_)))))
  refine AY J (.tmp J .n) ?_
  intro w1 hS;refine⟨?_,hS.Ao⟩;have e : [c]=s:=by simpa using c1
  rw [← e,Page.index_one];rfl
 have c1p:=kz c1
 refine Gs (Gm J (Gt (Ai J J) (Ga J (Gn (.t4 0 1 5 24) ?_))))
 refine HW J (by simp) ?_
 refine Gs (Gm J (Gm J ?_))
 refine Gt (Bt Tryz.underlying9 J J (by decide) (by first | omega | simp)) ?_
 refine BC J jC (.c J (.c J .n)) (fun w hS=>FY _ _ w) ?_
 refine Ga J (Gn (.t1 4) (Ac (AS (AD ?_))))
 refine AY J (.tmp J .n) ?_
 intro w1 hS;refine⟨?_,hS.Ao⟩;rfl
theorem HD (s:Ad)(c:UInt8)(hs:s.length≤10000000)(w:World):Ev Tryz.prog 59 #[BW s,BW [c]] w fun v w'=>v = .tuple #[BW (Words.cut c s).1,BW (Words.cut c s).2.1, .bool (Words.cut c s).2.2]∧CH w w':=by
 refine Ap [] [] Tryz.func59 J J J (St.start w []) ?_
 refine Gs (Ga J (Ga J (Ga J (Gn (.t2 0 1) (CL (Gm J (Gm J ?_)))))))
 refine BC J gH (.c J (.c J .n)) (fun w hS=>EH _ c w) ?_
 refine Ga J (Gn (.t3 0 1 7) (Gs (Gm J (Gt (CZ J J) (Gn (.t4 0 1 7 12) ?_)))))
 refine Gc (fun c1=>?_) (fun c1=>?_)
 ·
  have c1p:=kz c1
  have hm:=Words.dx (c:=c) (s:=s) (by simpa using c1)
  refine Aq ?_
  refine BE (N:=12) [0,0,3,0,0,0,32,112,248,7,1023,2047] mix (by kernel_rfl) J ?_
  refine Pf 0 J (AF J) (Pf 1 J (AF J) (Pf 3 J (AF J) (Pf 4 J (AF J) (Pf 5 J (AF J) (Pf 6 J (BN J Tryz.underlying9 J) ?_)))))
  refine Pf 7 J (Ay J J (IntWalk.i64_in _ (by(try simp only [List.length_cons,List.length_nil]);omega))) ?_
  refine KU 2 8 J J (by kernel_rfl) ?_ ?_
  ·
   refine Gt (JG Tryz.underlying9 J J (by(try simp only [List.length_cons,List.length_nil]);omega) (by(try simp only [List.length_cons,List.length_nil]);omega)) ?_
   refine Bu J ⟨?_,?_⟩
   · exact(Po J (Ay J J (IntWalk.i64_in _ (by(try simp only [List.length_cons,List.length_nil]);omega))) J J (Po J (BN J Tryz.underlying9 J) J J (Po J (AF J) J J (Po J (AF J) J J (Po J (AF J) J J (Pk (Pk As)))))))
   refine Pf 9 J (A0 J) ?_
   refine Aj 8 J (by kernel_rfl) ?_
   refine Gt (HA Tryz.underlying9 J J (by(try simp only [List.length_cons,List.length_nil]);omega) (by(try simp only [List.length_cons,List.length_nil]);omega)) ?_
   refine Bu J ⟨?_,?_⟩
   · exact(Po J (A0 J) J J (Pk (Pk (Pk (Pk (Pk (Po J (AF J) J J (Po J (AF J) J J As))))))))
   refine Pf 10 J (A0 J) (Pf 11 J (A0 J) ?_)
   refine A2 (by kernel_rfl) ?_
   refine AB (.t3 4 5 6) ?_
   refine AA (Ac (AD ?_))
   refine AY J (.tmp J (.tmp J (.tmp J .n))) ?_
   intro w1 hS;refine⟨?_,hS.Ao⟩;rw [show Words.cut c s=_ from(BG c1)];rfl
  ·
   refine Gt (HA Tryz.underlying9 J J (by(try simp only [List.length_cons,List.length_nil]);omega) (by(try simp only [List.length_cons,List.length_nil]);omega)) ?_
   refine Bu J ⟨?_,?_⟩
   · exact(Pk (Pk (Pk (Pk (Pk (Po J (AF J) J J (Po J (AF J) J J As)))))))
   refine Aj 2 J (by kernel_rfl) ?_
   refine Gt (JG Tryz.underlying9 J J (by(try simp only [List.length_cons,List.length_nil]);omega) (by(try simp only [List.length_cons,List.length_nil]);omega)) ?_
   refine Bu J ⟨?_,?_⟩
   · exact(Po J (Ay J J (IntWalk.i64_in _ (by(try simp only [List.length_cons,List.length_nil]);omega))) J J (Po J (BN J Tryz.underlying9 J) J J (Po J (AF J) J J (Po J (AF J) J J (Po J (AF J) J J (Pk (Pk As)))))))
   refine Pf 9 J (A0 J) (Pf 10 J (A0 J) (Pf 11 J (A0 J) ?_))
   refine A2 (by kernel_rfl) ?_
   refine AB (.t3 4 5 6) ?_
   refine AA (Ac (AD ?_))
   refine AY J (.tmp J (.tmp J (.tmp J .n))) ?_
   intro w1 hS;refine⟨?_,hS.Ao⟩;rw [show Words.cut c s=_ from(BG c1)];rfl
 refine Aa ?_
 refine AB (.t1 0) ?_
 refine AA (Gs (Gm J (Ga J (Ga J (Ga J (Gn (.t3 4 5 6) (Ac ?_)))))))
 refine AY J (.tmp J (.tmp J (.tmp J .n))) ?_
 intro w1 hS;refine⟨?_,hS.Ao⟩;rw [show Words.cut c s=_ from(AX c1)];rfl
theorem JL (s:Ad)(c:UInt8)(hs:s.length≤10000000)(w:World):Ev Tryz.prog 30 #[BW s,BW [c]] w fun v w'=>v = .tuple #[BW (Words.cut c s).1,BW (Words.cut c s).2.1, .bool (Words.cut c s).2.2]∧CH w w':=by
 refine Ap [] [] Tryz.func30 J J J (St.start w []) ?_
 refine Gs (Ga J (Ga J (Ga J (Gn (.t2 0 1) (Gs (Gm J (Gm J ?_)))))))
 refine BC J jZ (.c J (.c J .n)) (fun w hS=>HD _ c hs w) ?_
 refine Gt (AM J J) (Gt (AM J J) (Gt (AM J J) (Ga J (Ga J (Ga J (Gn (.t3 4 5 6) (Ac ?_)))))))
 refine AY J (.tmp J (.tmp J (.tmp J .n))) ?_
 intro w1 hS;refine⟨?_,hS.Ao⟩;rfl
def Ug:Go.Shelf.Ren:=⟨fun | 145=>30 | 220=>59 | 219=>76 | 217=>87 | 225=>88 | 224=>89 | 267=>90 | 266=>112 | 314=>113 | n=>n,fun | 9=>9 | 4=>4 | 59=>72 | 3=>3 | 5=>5 | 46=>140 | 146=>179 | 51=>178 | n=>n,fun | 1=>1 | n=>n⟩
theorem bS:Lays.n145 Tryz.prog Ug where
  mixed:=by kernel_rfl
  f145:=Tryz.func30.trans (congrArg some (by kernel_rfl))
  f217:=Tryz.func87.trans (congrArg some (by kernel_rfl))
  f219:=Tryz.func76.trans (congrArg some (by kernel_rfl))
  f220:=Tryz.func59.trans (congrArg some (by kernel_rfl))
  f224:=Tryz.func89.trans (congrArg some (by kernel_rfl))
  f225:=Tryz.func88.trans (congrArg some (by kernel_rfl))
  f266:=Tryz.func112.trans (congrArg some (by kernel_rfl))
  f267:=Tryz.func90.trans (congrArg some (by kernel_rfl))
  f314:=Tryz.func113.trans (congrArg some (by kernel_rfl))
  t3:=Tryz.underlying3
  a3:=Tryz.isAgg3
  z3:=Tryz.sizeOf3
  v3:=Tryz.zeroValue3
  t4:=Tryz.underlying4
  a4:=Tryz.isAgg4
  z4:=Tryz.sizeOf4
  v4:=Tryz.zeroValue4
  t5:=Tryz.underlying5
  a5:=Tryz.isAgg5
  z5:=Tryz.sizeOf5
  v5:=Tryz.zeroValue5
  t9:=Tryz.underlying9
  a9:=Tryz.isAgg9
  z9:=Tryz.sizeOf9
  v9:=Tryz.zeroValue9
  t46:=Tryz.underlying140
  a46:=Tryz.isAgg140
  z46:=Tryz.sizeOf140
  v46:=Tryz.zeroValue140
  t51:=Tryz.underlying178
  a51:=Tryz.isAgg178
  z51:=Tryz.sizeOf178
  v51:=Tryz.zeroValue178
  t59:=Tryz.underlying72
  a59:=Tryz.isAgg72
  z59:=Tryz.sizeOf72
  v59:=Tryz.zeroValue72
  t146:=Tryz.underlying179
  a146:=Tryz.isAgg179
  z146:=Tryz.sizeOf179
  v146:=Tryz.zeroValue179
  g1:=by kernel_rfl
theorem cz (s:Ad)(r:List Ad)(h:BK s=true)(hl:(crlf (s :: r)).length < 4294967281)(w:World)(h1:GI 1 w):Ev Tryz.prog 30 #[BW (crlf (s :: r)),BW [13,10]] w fun v w'=>v = .tuple #[BW s,BW (crlf r), .bool true]∧CH w w':=by
  have h2:=cb bS (crlf (s :: r)) [13,10] hl w h1
  rw [Yg r h] at h2
  exact h2

theorem I6 (b:Nat)(V:AN)(ls:Vector BD 4)(ev:List Ing.Event)(a:Br)(r:Bl)(c d:Nat)(O:Vector Ad 4)(A:Vector (List Ad) 4)(H:Vector Hd 4)(hA:(A7 V ls ev).Live)(hO:LO V ls ev a r O A):FO Tryz.prog 27 #[.pointer (some ⟨b,0,none⟩), .agg a.enc.toArray, .agg r.enc.toArray, .pointer (some ⟨c,0,none⟩), .pointer (some ⟨d,0,none⟩)] [Ab.box b 101 (AN.enc V),Ab.DP (CQ 9 (AN.Ar V) ls),Ab.box c 62 (B1 (n:=4) Dh H),Ab.DP (Iu 9 H A),Ab.box d 63 (B1 (n:=4) A6 O)] (fun w=>(GI 1 w∧1 ∉ Ch [Ab.box b 101 (AN.enc V),Ab.DP (CQ 9 (AN.Ar V) ls),Ab.box c 62 (B1 (n:=4) Dh H),Ab.DP (Iu 9 H A),Ab.box d 63 (B1 (n:=4) A6 O)])) (fun v B=>∃(O':Vector Ad 4) (A':Vector (List Ad) 4) (H':Vector Hd 4),v = .bool true∧(∀ j:Int,0≤j→j < 4→AG.GN j (O'.at j) (A'.at j) (A7 V ls ev))∧B = [Ab.box b 101 (AN.enc V),Ab.DP (CQ 9 (AN.Ar V) ls),Ab.box c 62 (B1 (n:=4) Dh H'),Ab.DP (Iu 9 H' A'),Ab.box d 63 (B1 (n:=4) A6 O')]):=by
 intro w hS0 hH
 obtain⟨gl0,gm0⟩:=hH
 refine Ap _ _ Tryz.func27 J J J (hS0) ?_
 refine Gs ?_
 refine CB J J J (fun b1=>?_)
 refine CB J J J (fun b2=>?_)
 refine Ga J (Gn (.t5 0 3 4 6 7) (CL (Gm J (AR (AA (Ag ?_))))))
 refine Bw (.t6 22 0 3 4 6 7) ?_
 refine Be (.t (.t (.t (.t (.t (.t .h)))))) ?_
 refine Be (.t (.t (.t (.t (.t (.t .h)))))) ?_
 refine Be (.t (.t (.t (.t (.t (.t .h)))))) ?_
 refine IM (fun(k:Int) (O1:Vector Ad 4) (A1:Vector (List Ad) 4) (H1:Vector Hd 4)=>0≤k∧k≤4∧PH V ls ev O O1 A A1 k) (fun(k:Int) (O1:Vector Ad 4) (A1:Vector (List Ad) 4) (H1:Vector Hd 4)=>(4 - k).toNat) (fun(k:Int) (O1:Vector Ad 4) (A1:Vector (List Ad) 4) (H1:Vector Hd 4)=> [(22, .int .i64 k)]) (fun(k:Int) (O1:Vector Ad 4) (A1:Vector (List Ad) 4) (H1:Vector Hd 4)=> [Ab.box c 62 (B1 (n:=4) Dh H1),Ab.DP (Iu 9 H1 A1),Ab.box d 63 (B1 (n:=4) A6 O1)]) (0) (O) (A) (H) ?_ J J (fun k O1 A1 H1 hI1=>?_)
 · exact⟨by omega,by omega,PH.start _ _ _ _ _⟩
 obtain⟨hI11,hI12,hI13⟩:=hI1
 refine Gs (Gt (BA J J) (AR (AA (Aq ?_))))
 refine Gc (fun c1=>?_) (fun c1=>?_)
 ·
  have c1p:=kz c1
  have hk:0≤k∧k < 4:=⟨by omega,by omega⟩
  refine Aa ?_
  refine AB (.t6 0 3 4 6 7 22) ?_
  refine AA (Aq (Ag (Aq ?_)))
  refine Be (.t .h) ?_
  refine cX hk.1 hk.2 ?_
  refine Uo (fun w hS=>(Kn.own .m0 w hS).Lz C7 (by decide)) (fun hL0=>?_)
  have hAt:=hI13.at hk.1 hk.2
  have hbO:=hO.bounds hA hk.1 hk.2
  have hAl:(A1.at k).length=(A.at k).length:=by rw [hAt.2]
  have hOl:(O1.at k).length=(O.at k).length:=by rw [hAt.1]
  refine AJ (Gm J (Ga J (Gn (.t7 0 3 4 6 7 9 22) (Gs (Gm J (Gm J ?_))))))
  refine Ak J fp (.c J (.c J .n)) (.c (.t (.t (.t (.t (.t (.t .h)))))) .n) (LW b V k hk) (fun v1 B hv=>?_)
  obtain⟨rfl,rfl⟩:=hv
  refine Gm J (Gt (AM J J) (Gt (AM J J) (Ga J (Ga J (Gn (.t8 0 3 4 6 7 9 10 22) (CL (Gm J ?_)))))))
  refine Gt (Ai J J) (Gn (.t8 0 3 4 6 7 9 22 32) ?_)
  refine Gc (fun c2=>?_) (fun c2=>?_)
  ·
   have c2p:=kz c2
   have hz:=RM.1 c2p
   refine Gs (Gm J (Gm J ?_))
   refine Gt (AQ U7 J J (by first | omega | exact hk.1 | exact hk.2 | (dsimp only;omega)) (by first | omega | exact hk.1 | exact hk.2 | (dsimp only;omega))) ?_
   refine AT (AL (Y:=⟨none,0,0⟩) ((AU.id (GH Ix).len (GH Ix).one).comp (AU.ar (n:=4) Ix (by first | omega | exact hk | (dsimp only;omega)))) J J J MA J (.t (.t (.t .h)))) ?_
   refine Gt (AQ aY J J (by first | omega | exact hk.1 | exact hk.2 | (dsimp only;omega)) (by first | omega | exact hk.1 | exact hk.2 | (dsimp only;omega))) ?_
   refine AT (AL ((AU.id (GH C7).len (GH C7).one).comp (AU.ar (n:=4) C7 (by first | omega | exact hk | (dsimp only;omega)))) J J J Ed J (.t (.t (.t (.t .h))))) ?_
   refine Gn (.t6 0 3 4 6 7 22) (Bg (AW (Ah (AA (AJ ?_)))))
   refine Gt (Ay J J (IntWalk.i64_in _ (by first | omega | exact hk.1 | exact hk.2 | (dsimp only;omega)))) ?_
   refine Gm J ?_
   refine AR (AB (.t6 0 3 4 6 7 22) ?_)
   refine SB A6 9 1 ?_
   refine CK (.c .h (.c (.t (.t .h)) .n)) ?_
   refine Q6 hk.1 hk.2 ?_
   refine CK (.c (.t (.t (.t .h))) (.c .h (.c (.t (.t .h)) (.c (.t (.t .h)) (.c (.t (.t .h)) (.c .h (.c (.t .h) .n))))))) ?_
   refine Cl ?_
   refine C3 (k+1) _ _ _ ?_ ?_ (.t6 22 0 3 4 6 7) (.refl _)
   · exact⟨by omega,by omega,hI13.next hk.1 hk.2 (hO.free hk.1 hk.2 hz)⟩
   · omega
  have c2p:=kz c2
  have hz:¬ (V.Ar.at k).state=0:=fun h=>c2p (RM.2 h)
  refine Aa ?_
  refine AB (.t7 0 3 4 6 7 9 22) ?_
  refine AA (Aq ?_)
  refine BE (N:=10) [0,0,2,6,0,0,48,126,255,511] mix (by kernel_rfl) J ?_
  refine Pf 0 J (AF J) (Pf 1 J (AF J) ?_)
  refine Pf 2 J (AQ U7 J J (by first | omega | exact hk.1 | exact hk.2 | (dsimp only;omega)) (by first | omega | exact hk.1 | exact hk.2 | (dsimp only;omega))) ?_
  refine Pf 3 J (AI J EU .m3 ((AU.id (GH Ix).len (GH Ix).one).comp (AU.ar (n:=4) Ix (by first | omega | exact hk | (dsimp only;omega)))) J J) ?_
  refine Pf 4 J (AF J) (Pf 5 J (AF J) ?_)
  refine Aj 6 J (by kernel_rfl) ?_
  refine Ak J fi (.c J (.c J .n)) (.c .h (.c (.t (.t (.t (.t (.t (.t .h)))))) .n)) (Mk b V ls k hk (hA.told hk.1 hk.2)) (fun v2 B hv=>?_)
  obtain⟨y3,rfl,y4,rfl⟩:=hv
  refine Bu J ⟨?_,?_⟩
  · exact(Pk (Pk (Po J (AI J EU .m5 ((AU.id (GH Ix).len (GH Ix).one).comp (AU.ar (n:=4) Ix (by first | omega | exact hk | (dsimp only;omega)))) J J) J J (Po J (AQ U7 J J (by first | omega | exact hk.1 | exact hk.2 | (dsimp only;omega)) (by first | omega | exact hk.1 | exact hk.2 | (dsimp only;omega))) J J (Po J (AF J) J J (Po J (AF J) J J As))))))
  refine Aj 7 J (by kernel_rfl) ?_
  refine CW C7 J Tryz.underlying52 Ed SJ J Yf (by decide) (by decide) J J (fun w hS=>Src.D4 Tryz.underlying52 ((Kn.own .m2) w hS)) (by(try dsimp only);omega) (fun _=>(.t (.t (.t .h)))) (fun h6 h6l h6z=>?_)
  refine Bu J ⟨?_,?_⟩
  · exact(Pk (Pk (Pk (Pk (Pk (Po J (AF J) J J As))))))
  refine Pf 8 J (AQ U7 J J (by first | omega | exact hk.1 | exact hk.2 | (dsimp only;omega)) (by first | omega | exact hk.1 | exact hk.2 | (dsimp only;omega))) ?_
  refine Aj 9 J (by kernel_rfl) ?_
  refine AT (AL ((AU.id (GH Ix).len (GH Ix).one).comp (AU.ar (n:=4) Ix (by first | omega | exact hk | (dsimp only;omega)))) J J J MA J (.t (.t (.t (.t (.t .h)))))) ?_
  refine BO J ⟨?_,?_⟩
  · exact(Pk (Pk (Pk (Pk (Pk (Pk (Pk As)))))))
  refine A2 (by kernel_rfl) ?_
  refine AB (.t7 0 3 4 6 7 9 22) ?_
  refine AA ?_
  refine Be (.t (.t (.t (.t (.t (.t .h)))))) ?_
  refine bR (Lm:= [_]) (fun(o1:Ad)=>o1=(if a.kind=3∧a.A3=k then O.at k++r.out else O.at k)) (fun(o1:Ad)=> []) (fun(o1:Ad)=> [Ab.box d 63 (B1 (n:=4) A6 (O1.put k o1))]) (.t7 0 3 4 6 7 9 22) J ?_ (fun o1 hC=>?_)
  ·
   refine Gs (Gt (Al M8 J) (Gt (AI J A8 .m8 Br.l0 J J) (Gt (Ai J J) (Gm J (Bp 49 J J (fun q=>Al Sc J) (Bp 49 J J (fun q=>AI (Bo J q) A8 .m8 Br.l1 J J) (Bp 49 J J (fun q=>AF J) ?_)))))))
   refine Bp 49 J J (fun q=>Ai (Bo J q) (Bo J q)) (Gt (BQ J J (fun h=>h)) (Gn (.t8 0 3 4 6 7 9 22 54) ?_))
   refine Gc (fun c3=>?_) (fun c3=>?_)
   ·
    have c3p:=kz c3
    refine BE (N:=8) [0,1,3,0,8,31,63,127] mix (by kernel_rfl) J ?_
    refine Pf 0 J (AF J) ?_
    refine Pf 1 J (AQ aY J J (by first | omega | exact hk.1 | exact hk.2 | (dsimp only;omega)) (by first | omega | exact hk.1 | exact hk.2 | (dsimp only;omega))) ?_
    refine Pf 2 J (AI J CO .m0 ((AU.id (GH C7).len (GH C7).one).comp (AU.ar (n:=4) C7 (by first | omega | exact hk | (dsimp only;omega)))) J J) ?_
    refine Pf 3 J (Al dq J) (Pf 4 J (AI J CO .m7 Bl.l1 J J) ?_)
    refine Pf 5 J (CJ J J (by first | omega | exact hk.1 | exact hk.2 | (dsimp only;omega))) ?_
    refine Pf 6 J (AQ aY J J (by first | omega | exact hk.1 | exact hk.2 | (dsimp only;omega)) (by first | omega | exact hk.1 | exact hk.2 | (dsimp only;omega))) ?_
    refine Aj 7 J (by kernel_rfl) ?_
    refine AT (AL ((AU.id (GH C7).len (GH C7).one).comp (AU.ar (n:=4) C7 (by first | omega | exact hk | (dsimp only;omega)))) J J J Ed J .h) ?_
    refine BO J ⟨?_,?_⟩
    · exact(Pk (Pk (Pk (Pk (Pk (Pk (Pk As)))))))
    refine A2 (by kernel_rfl) ?_
    refine AB (.t7 0 3 4 6 7 9 22) ?_
    refine V0 ((O1.at k++r.out)) ?_ (.t7 0 3 4 6 7 9 22) (.refl _)
    · rw [hAt.1];exact(if_pos (by have h:=c3;simp only [Bool.and_eq_true,decide_eq_true_eq] at h;exact h)).symm
   refine Aa ?_
   refine AB (.t7 0 3 4 6 7 9 22) ?_
   refine V0 ((O1.at k)) ?_ (.t7 0 3 4 6 7 9 22) (by rw [Vector.Mg O1 hk.1 hk.2];exact(.refl _))
   · rw [hAt.1];exact(if_neg (fun h=>by have h2:=c3;simp only [Bool.and_eq_false_iff,decide_eq_false_iff_not] at h2;rcases h2 with h2 | h2;exact h2 h.1;exact h2 h.2)).symm
  have ho1:=hC
  refine Gs (Gm J (Gm J ?_))
  refine Ak J jI (.c J (.c J .n)) (.c (.t .h) (.c (.t .h) .n)) (Se b V ls k hk (hA.wait hk.1 hk.2)) (fun v7 B hv=>?_)
  obtain⟨y8,rfl,y9,rfl⟩:=hv
  refine BJ J Tv J (fun b3=>?_)
  refine AT (AL (AU.id Av.fl.len Av.fl.one) J J J Fb J .h) ?_
  refine Gn (.t8 0 3 4 6 7 9 12 22) (Aq ?_)
  obtain⟨ps,hf⟩:=hO.facts hk.1 hk.2 hz
  rw [← ho1,← hAt.2] at hf
  have hfn:=congrArg List.length hf.lines
  rw [List.length_append,List.length_append] at hfn
  have hfd:=hf.feed Rf.1 Rf.2
  have hyl:=y4
  have hpl:=y9
  have hol:o1.length≤280700:=by rw [ho1];split<;>(try rw [List.length_append])<;>omega
  refine BE (N:=9) [0,1,3,7,0,16,48,127,255] mix (by kernel_rfl) J ?_
  refine Pf 0 J (AF J) ?_
  refine Pf 1 J (AQ U7 J J (by first | omega | exact hk.1 | exact hk.2 | (dsimp only;omega)) (by first | omega | exact hk.1 | exact hk.2 | (dsimp only;omega))) ?_
  refine Pf 2 J (AI J EU .m8 ((AU.id (GH Ix).len (GH Ix).one).comp (AU.ar (n:=4) Ix (by first | omega | exact hk | (dsimp only;omega)))) J (Od hk.1 hk.2)) ?_
  refine Pf 3 J (Au J Tryz.underlying52 J) (Pf 4 J (Al HS J) (Pf 5 J (AI J EU .m0 Av.l0 J J) (Pf 6 J (Au J Tryz.underlying52 J) ?_)))
  refine Pf 7 J (FT J J (IntWalk.i64_in _ (by first | omega | exact hk.1 | exact hk.2 | (dsimp only;omega)))) ?_
  refine Pf 8 J (A0 J) ?_
  refine A2 (by kernel_rfl) ?_
  refine AB (.t9 0 3 4 6 7 9 12 13 22) ?_
  refine AA (Aq ?_)
  refine BE (N:=18) [0,0,2,6,0,16,62,127,255,511,511,511,511,0,9215,26623,61439,131071] mix (by kernel_rfl) J ?_
  refine Pf 0 J (BF gI Xq J .nil) (Pf 1 J (AF J) ?_)
  refine Pf 2 J (AQ aY J J (by first | omega | exact hk.1 | exact hk.2 | (dsimp only;omega)) (by first | omega | exact hk.1 | exact hk.2 | (dsimp only;omega))) ?_
  refine Pf 3 J (AI J CO .m4 ((AU.id (GH C7).len (GH C7).one).comp (AU.ar (n:=4) C7 (by first | omega | exact hk | (dsimp only;omega)))) J (Sw hk.1 hk.2)) ?_
  refine Pf 4 J (Al I2 J) (Pf 5 J (AI J CO .m0 Av.l3 J J) ?_)
  refine Pf 6 J (CJ J J (by first | omega | exact hk.1 | exact hk.2 | (dsimp only;omega))) ?_
  refine BI 7 J J (by kernel_rfl) (LI (J4 (D0 eP (.c J (.c J .n)) (fun w hS=>Gy default _ (by(try dsimp only);rw [List.length_append];omega) w)))) ?_
  refine Pf 8 J (AF J) (Pf 9 J (AM J J) (Pf 10 J (AM J J) (Pf 11 J (AM J J) (Pf 12 J (AM J J) ?_))))
  refine Aj 13 J (by kernel_rfl) ?_
  refine BJ J Xq J (fun b4=>?_)
  refine Bu J ⟨?_,?_⟩
  · exact(Po J (AM J J) J J (Po J (AM J J) J J (Po J (AM J J) J J (Po J (AM J J) J J (Po J (AF J) J J (S4 J (LI (J4 (D0 eP (.cons J (.cons J .nil)) (fun w hS=>Gy default _ (by(try dsimp only);rw [List.length_append];omega) w)))) J J (Po J (CJ J J (by first | omega | exact hk.1 | exact hk.2 | (dsimp only;omega))) J J (Po J (AI J CO .m1 Av.l3 J J) J J (Po J (Al I2 J) J J (Po J (AI J CO .m5 ((AU.id (GH C7).len (GH C7).one).comp (AU.ar (n:=4) C7 (by first | omega | exact hk | (dsimp only;omega)))) J (Sw hk.1 hk.2)) J J (Po J (AQ aY J J (by first | omega | exact hk.1 | exact hk.2 | (dsimp only;omega)) (by first | omega | exact hk.1 | exact hk.2 | (dsimp only;omega))) J J (Po J (AF J) J J (Po J (BF gI Xq J .nil) J J As)))))))))))))
  refine Aj 14 J (by kernel_rfl) ?_
  refine AT (AL (AU.id AK.fl.len AK.fl.one) J J J KE J .h) ?_
  refine BO J ⟨?_,?_⟩
  · exact(Po J (AM J J) J J (Po J (AM J J) J J (Po J (AM J J) J J (Pk (Pk (Pk (Pk (Pk (Pk (Pk (Pk (Pk (Pk As)))))))))))))
  refine Pf 15 J (A0 J) (Pf 16 J (A0 J) (Pf 17 J (A0 J) ?_))
  refine A2 (by kernel_rfl) ?_
  refine AB (.t11 0 3 4 6 7 9 12 13 15 17 22) ?_
  refine AA (Aq (Aq ?_))
  refine BE (N:=17) [0,1,3,7,15,31,63,127,255,511,127,2047,127,4223,16383,32767,65535] mix (by kernel_rfl) J ?_
  refine Pf 0 J (AF J) (Pf 1 J (Cm J J) (Pf 2 J (AF J) ?_))
  refine aV (b:=(!decide (((default:AK).DA (o1++(V.Ar.at k).out.ring)).2.2.2=0))) (fun c4=>?_) (fun c4=>?_)
  · exact absurd c4 (by rw [hfd.2];decide)
  refine BI 3 J J (by kernel_rfl) (KK (t:=88) J (V5 J c4) (F6 (AF J))) ?_
  refine BI 4 J J (by kernel_rfl) (KK (t:=88) J (V5 J c4) (F6 (BA J J))) ?_
  refine Pf 5 J (C8 (V5 J c4) J) (Pf 6 J (AF J) ?_)
  refine aV (b:=decide ((h6.len:Int) - (y8.len:Int) < 0)) (fun c5=>?_) (fun c5=>?_)
  · exact absurd c5 (by rw [decide_eq_true_eq];omega)
  refine BI 7 J J (by kernel_rfl) (KK (t:=92) J (V5 J c5) (F6 (AF J))) ?_
  refine BI 8 J J (by kernel_rfl) (KK (t:=92) J (V5 J c5) (F6 (AQ U7 J J (by first | omega | exact hk.1 | exact hk.2 | (dsimp only;omega)) (by first | omega | exact hk.1 | exact hk.2 | (dsimp only;omega))))) ?_
  refine BI 9 J J (by kernel_rfl) (KK (t:=92) J (V5 J c5) (F6 (AI J EU (.tail _ .m8) ((AU.id (GH Ix).len (GH Ix).one).comp (AU.ar (n:=4) Ix (by first | omega | exact hk | (dsimp only;omega)))) J (Od hk.1 hk.2)))) ?_
  refine BI 10 J J (by kernel_rfl) (KK (t:=92) J (V5 J c5) (F6 (AF J))) ?_
  refine BI 11 J J (by kernel_rfl) (KK (t:=92) J (V5 J c5) (F6 (PW Tryz.underlying52 Ed J J (by first | omega | exact hk.1 | exact hk.2 | (dsimp only;omega)) (by first | omega | exact hk.1 | exact hk.2 | (dsimp only;omega))))) ?_
  refine BI 12 J J (by kernel_rfl) (KK (t:=92) J (V5 J c5) (F6 (Al HS J))) ?_
  refine BI 13 J J (by kernel_rfl) (KK (t:=92) J (V5 J c5) (F6 (AI J EU .m1 Av.l0 J J))) ?_
  refine BI 14 J J (by kernel_rfl) (KK (t:=92) J (V5 J c5) (J4 (D0 iS (.c J (.c J .n)) (fun w hS=>H4 _ _ _ _ (by first | (rw [List.length_drop,List.length_take,List.length_append];omega) | omega) w ((Kn.cut C7 (Kn.own .m7) (by omega) (Nat.le_refl _) (Uh.own .m7)) w hS) ((Kn.own .m4) w hS))))) ?_
  refine BI 15 J J (by kernel_rfl) (KK (t:=92) J (V5 J c5) (F6 (BZ J))) ?_
  refine Pf 16 J (C8 (V5 J c5) J) ?_
  refine A2 (by kernel_rfl) ?_
  refine AB (.t10 0 3 4 6 7 9 13 15 22 102) ?_
  refine AA ?_
  refine D9 J (hf.rest (m:=h6.len) (n:=y8.len) (by rw [List.length_append];omega) hpl) ?_
  refine Aa ?_
  refine AB (.t9 0 3 4 6 7 9 13 15 22) ?_
  refine AA (Aq ?_)
  rw [hfd.1]
  have hfl1:=AK.aS (default:AK) (o1++(V.Ar.at k).out.ring)
  rw [hfd.1,List.length_append] at hfl1
  refine AJ (Ga J (AR (AA (Aq (Ag ?_)))))
  refine Bw (.t10 15 18 0 3 4 6 7 9 13 22) ?_
  refine E2 A6 9 1 ?_
  refine Dx (fun(rest:List Ad) (got:List Ad) (g:Hd)=>Nf ps rest got∧(crlf rest).length≤1000000∧g.len=got.length) (fun(rest:List Ad) (got:List Ad) (g:Hd)=>rest.length) (fun(rest:List Ad) (got:List Ad) (g:Hd)=> [(15,BW (crlf rest)),(18,g.val)]) (fun(rest:List Ad) (got:List Ad) (g:Hd)=> [Ab.own g 9 1 (got.flatMap A6)]) ((shown ps)) ([]) (_) ?_ J J (fun rest got g hI2=>?_)
  · exact⟨.start hf.ok,by omega,rfl⟩
  obtain⟨hI21,hI22,hI23⟩:=hI2;have hgl:=hI21.len
  refine CL (Gm J (Gt (DK J J) (Gn (.t11 0 3 4 6 7 9 13 15 18 22 104) ?_)))
  refine Gc (fun c6=>?_) (fun c6=>?_)
  ·
   have c6p:=kz c6
   obtain⟨sL,rL,rfl⟩:=cZ c6p
   have hcl:=hI21.cl sL (List.mem_cons_self ..)
   have hln:=Z1 sL rL
   refine Aa ?_
   refine AB (.t10 0 3 4 6 7 9 13 15 18 22) ?_
   refine AA (Ag (Gs (Gm J ?_)))
   refine BC J eK (.c J (.c J .n)) (fun w hS=>cz sL rL hcl (by omega) w (gl0.stM gm0 hS)) ?_
   refine Gm J (Gt (AM J J) (Gt (AM J J) (Gt (AM J J) (Ga J (Ga J (Ga J (Gn (.t12 0 3 4 6 7 9 13 18 19 20 21 22) ?_)))))))
   refine CL (Gm J (Gt (BZ J) (Gn (.t12 0 3 4 6 7 9 13 18 19 20 22 112) ?_)))
   refine D9 J J ?_
   refine Aa ?_
   refine AB (.t11 0 3 4 6 7 9 13 18 19 20 22) ?_
   refine AA (Gs (Gm J (Ga J (Gn (.t11 0 3 4 6 7 9 13 15 18 19 22) (Gs (Gm J (Gt (DK J J) ?_)))))))
   refine Gn (.t12 0 3 4 6 7 9 13 15 18 19 22 115) ?_
   refine Gc (fun c7=>?_) (fun c7=>?_)
   ·
    have c7p:=kz c7
    refine AJ (Gm J (Gm J ?_))
    refine Fe A6 C7 J Tryz.underlying52 Ed SJ J (by decide) (by decide) J J (fun b5=>?_)
    refine CW C7 J Tryz.underlying52 Ed SJ J Yf (by decide) (by decide) J J (fun w hS=>Src.D4 Tryz.underlying52 ((Kn.own .m0) w hS)) (by(try dsimp only);omega) (fun _=>(.t .h)) (fun h12 h12l h12z=>?_)
    refine Ga J ?_
    refine AR (AB (.t10 0 3 4 6 7 9 13 15 18 22) ?_)
    refine AV ?_
    refine B2 (rL) _ _ ?_ ?_ (.t10 15 18 0 3 4 6 7 9 13 22) (.cons _ (.refl _))
    · exact⟨hI21.line c7p,by omega,by(try dsimp only at *)<;>(try simp only [List.length_append,List.length_cons,List.length_nil])<;>omega⟩
    · (try simp only [List.length_cons]);omega
   have c7p:=kz c7
   refine Aa ?_
   refine AB (.t10 0 3 4 6 7 9 13 15 18 22) ?_
   refine AV ?_
   refine B2 (rL) _ _ ?_ ?_ (.t10 15 18 0 3 4 6 7 9 13 22) (.refl _)
   · exact⟨hI21.more (by first | exact c7p | exact Decidable.not_not.1 c7p),by omega,by(try dsimp only at *)<;>(try simp only [List.length_append,List.length_cons,List.length_nil])<;>omega⟩
   · (try simp only [List.length_cons]);omega
  have c6p:=kz c6
  obtain rfl:=ag.1 c6p
  have hgot:=hI21.done
  refine Bg (AW (AW (Ah ?_)))
  refine AB (.t9 0 3 4 6 7 9 13 18 22) ?_
  refine AA (Aq ?_)
  refine Uo (fun w hS=>Uh.own .m8 w hS) (fun hcap=>?_)
  refine AJ (Gm J (Gm J ?_))
  refine Gt (AQ U7 J J (by first | omega | exact hk.1 | exact hk.2 | (dsimp only;omega)) (by first | omega | exact hk.1 | exact hk.2 | (dsimp only;omega))) ?_
  refine Gt (AI J EU (.tail _ (.tail _ .m8)) ((AU.id (GH Ix).len (GH Ix).one).comp (AU.ar (n:=4) Ix (by first | omega | exact hk | (dsimp only;omega)))) J (Od hk.1 hk.2)) ?_
  refine Gm J ?_
  refine Gt (aM Tryz.underlying52 Ed J J (by first | omega | exact hk.1 | exact hk.2 | (dsimp only;omega)) (by first | omega | exact hk.1 | exact hk.2 | (dsimp only;omega))) ?_
  refine BC J iS (.c J (.c J .n)) (fun w hS=>H4 _ _ _ _ (by first | (rw [List.length_drop,List.length_take,List.length_append];omega) | omega) w ((Kn.own .m0) w hS) ((Kn.cut C7 (Kn.own .m8) (Nat.zero_le _) (by omega) (Uh.own .m8)) w hS)) ?_
  refine Gt (BZ J) (Gn (.t7 0 3 4 6 7 22 127) ?_)
  refine D9 J (hf.front (m:=h6.len) (n:=y8.len) (by rw [List.length_append];omega) hpl hgot) ?_
  refine Aa ?_
  refine AB (.t6 0 3 4 6 7 22) ?_
  refine AV (AA (AJ ?_))
  refine Gt (Ay J J (IntWalk.i64_in _ (by first | omega | exact hk.1 | exact hk.2 | (dsimp only;omega)))) ?_
  refine Gm J ?_
  refine AR (AB (.t6 0 3 4 6 7 22) ?_)
  refine CK (.c (.t (.t (.t (.t (.t (.t (.t (.t .h)))))))) (.c (.t (.t (.t (.t (.t (.t (.t (.t .h)))))))) .n)) ?_
  refine Q6 hk.1 hk.2 ?_
  refine CK (.c (.t (.t (.t (.t (.t (.t (.t (.t (.t .h))))))))) (.c .h (.c (.t (.t (.t (.t (.t (.t .h)))))) (.c (.t (.t (.t (.t (.t (.t (.t .h))))))) (.c (.t (.t (.t (.t (.t (.t (.t .h))))))) (.c (.t (.t (.t .h))) (.c (.t (.t (.t .h))) .n))))))) ?_
  refine Cl ?_
  refine C3 (k+1) _ _ _ ?_ ?_ (.t6 22 0 3 4 6 7) (.refl _)
  · exact⟨by omega,by omega,hI13.next hk.1 hk.2 (by rw [hAt.2,ho1];exact hO.busy hk.1 hk.2 hz)⟩
  · omega
 have c1p:=kz c1
 obtain rfl:k=4:=by omega
 refine Bg (AW (AW (Ah ?_)))
 refine AB (.nil _) ?_
 refine AA (Gs (Ga J (AR (AA (Ac ?_)))))
 refine AY J (.tmp J .n) ?_
 intro w1 hS
 have hS:=(hS.perm (Ax.perm (.c (.t (.t (.t (.t (.t .h))))) (.c (.t (.t (.t (.t (.t .h))))) (.c .h (.c .h (.c .h .n))))))).A5
 exact⟨_,⟨_,_,_,J,hI13.done,J⟩,hS⟩
theorem Qg  (w:World):Ev Tryz.prog 15 #[] w fun v w'=>v = .agg AH.new.enc.toArray∧CH w w':=by
 refine Ap [] [] Tryz.func15 J J J (St.start w []) ?_
 refine Gs ?_
 refine BJ J N8 J (fun b1=>?_)
 refine AR (AA (Gs ?_))
 refine BJ J N8 J (fun b2=>?_)
 refine AR (AA (CL ?_))
 refine Gt (E8 Tryz.underlying23 DO XA J (.cons (AU.arr (n:=6) (i:=0) B9 (by decide) (by decide)) J J J (.cons (AU.arr (n:=6) (i:=1) B9 (by decide) (by decide)) J J J (.cons (AU.arr (n:=6) (i:=2) B9 (by decide) (by decide)) J J J (.cons (AU.arr (n:=6) (i:=3) B9 (by decide) (by decide)) J J J (.cons (AU.arr (n:=6) (i:=4) B9 (by decide) (by decide)) J J J (.cons (AU.arr (n:=6) (i:=5) B9 (by decide) (by decide)) J J J .nil))))))) ?_
 refine Gt (E8 Tryz.underlying24 LG fc J (.cons (AU.arr (n:=6) (i:=5) Hs (by decide) (by decide)) J J J .nil)) ?_
 refine Gt (BF X5 QE J (.cons Room.l0 J J J (.cons Room.l2 J J J (.cons Room.l3 J J J .nil)))) ?_
 refine Gt (E8 Tryz.underlying23 DO XA J (.cons (AU.arr (n:=6) (i:=0) B9 (by decide) (by decide)) J J J (.cons (AU.arr (n:=6) (i:=1) B9 (by decide) (by decide)) J J J (.cons (AU.arr (n:=6) (i:=2) B9 (by decide) (by decide)) J J J (.cons (AU.arr (n:=6) (i:=3) B9 (by decide) (by decide)) J J J (.cons (AU.arr (n:=6) (i:=4) B9 (by decide) (by decide)) J J J (.cons (AU.arr (n:=6) (i:=5) B9 (by decide) (by decide)) J J J .nil))))))) ?_
 refine Gt (BF X5 QE J (.cons Room.l0 J J J (.cons Room.l2 J J J .nil))) ?_
 refine Gt (E8 Tryz.underlying23 DO XA J (.cons (AU.arr (n:=6) (i:=0) B9 (by decide) (by decide)) J J J (.cons (AU.arr (n:=6) (i:=1) B9 (by decide) (by decide)) J J J (.cons (AU.arr (n:=6) (i:=2) B9 (by decide) (by decide)) J J J (.cons (AU.arr (n:=6) (i:=3) B9 (by decide) (by decide)) J J J (.cons (AU.arr (n:=6) (i:=4) B9 (by decide) (by decide)) J J J (.cons (AU.arr (n:=6) (i:=5) B9 (by decide) (by decide)) J J J .nil))))))) ?_
 refine Gt (BF X5 QE J (.cons Room.l0 J J J (.cons Room.l2 J J J (.cons Room.l1 J J J .nil)))) ?_
 refine Gt (E8 Tryz.underlying23 DO XA J (.cons (AU.arr (n:=6) (i:=0) B9 (by decide) (by decide)) J J J (.cons (AU.arr (n:=6) (i:=1) B9 (by decide) (by decide)) J J J (.cons (AU.arr (n:=6) (i:=2) B9 (by decide) (by decide)) J J J (.cons (AU.arr (n:=6) (i:=3) B9 (by decide) (by decide)) J J J (.cons (AU.arr (n:=6) (i:=4) B9 (by decide) (by decide)) J J J (.cons (AU.arr (n:=6) (i:=5) B9 (by decide) (by decide)) J J J .nil))))))) ?_
 refine Gt (BF X5 QE J (.cons Room.l0 J J J (.cons Room.l2 J J J (.cons Room.l1 J J J .nil)))) ?_
 refine Gt (E8 Tryz.underlying23 DO XA J (.cons (AU.arr (n:=6) (i:=0) B9 (by decide) (by decide)) J J J (.cons (AU.arr (n:=6) (i:=1) B9 (by decide) (by decide)) J J J (.cons (AU.arr (n:=6) (i:=2) B9 (by decide) (by decide)) J J J (.cons (AU.arr (n:=6) (i:=3) B9 (by decide) (by decide)) J J J (.cons (AU.arr (n:=6) (i:=4) B9 (by decide) (by decide)) J J J (.cons (AU.arr (n:=6) (i:=5) B9 (by decide) (by decide)) J J J .nil))))))) ?_
 refine Gt (E8 Tryz.underlying24 LG fc J (.cons (AU.arr (n:=6) (i:=2) Hs (by decide) (by decide)) J J J .nil)) ?_
 refine Gt (BF X5 QE J (.cons Room.l0 J J J (.cons Room.l2 J J J (.cons Room.l3 J J J (.cons Room.l1 J J J .nil))))) ?_
 refine Gt (E8 Tryz.underlying23 DO XA J (.cons (AU.arr (n:=6) (i:=0) B9 (by decide) (by decide)) J J J (.cons (AU.arr (n:=6) (i:=1) B9 (by decide) (by decide)) J J J (.cons (AU.arr (n:=6) (i:=2) B9 (by decide) (by decide)) J J J (.cons (AU.arr (n:=6) (i:=3) B9 (by decide) (by decide)) J J J (.cons (AU.arr (n:=6) (i:=4) B9 (by decide) (by decide)) J J J (.cons (AU.arr (n:=6) (i:=5) B9 (by decide) (by decide)) J J J .nil))))))) ?_
 refine Gt (BF X5 QE J (.cons Room.l0 J J J (.cons Room.l2 J J J .nil))) ?_
 refine aw (cs:=B1 (n:=6) Room.enc (Vector.replicate 6 default)) (cs':=B1 (n:=6) Room.enc AH.VR) J Tryz.underlying95 Sq QE (by decide) (by decide) (by kernel_rfl) (.cons (AU.arr (n:=6) (i:=0) Room.fl (by decide) (by decide)) J J J (.cons (AU.arr (n:=6) (i:=1) Room.fl (by decide) (by decide)) J J J (.cons (AU.arr (n:=6) (i:=2) Room.fl (by decide) (by decide)) J J J (.cons (AU.arr (n:=6) (i:=3) Room.fl (by decide) (by decide)) J J J (.cons (AU.arr (n:=6) (i:=4) Room.fl (by decide) (by decide)) J J J (.cons (AU.arr (n:=6) (i:=5) Room.fl (by decide) (by decide)) J J J .nil)))))) J (fun b3=>?_)
 refine Gt (Au J Tryz.underlying95 J) (Gm J (Gn (.t5 0 1 20 21 22) (Ag ?_)))
 refine Bw (.t5 22 0 1 20 21) ?_
 refine Be (.t .h) ?_
 refine Ck (fun(k:Int)=>0≤k∧k≤6) (fun(k:Int)=>(6 - k).toNat) (fun(k:Int)=> [(22, .int .i64 k)]) (fun(k:Int)=> [Ab.box b2 35 (AH.enc (AH.Ul k.toNat))]) (0) ?_ J J (fun k hI1=>?_)
 · exact⟨Int.le_refl _,by omega⟩
 obtain⟨hI11,hI12⟩:=hI1
 refine Gs (Gt (BA J J) (AR (AA (Aq ?_))))
 refine Gc (fun c1=>?_) (fun c1=>?_)
 ·
  have c1p:=kz c1
  dsimp only at c1p
  refine Aa ?_
  refine AB (.t5 0 1 20 21 22) ?_
  refine AA (Aq (Ag (Gs (Gm J ?_))))
  refine Gt (Bz jj (by decide) (Kn.own .m1) J J (by omega) (by dsimp only;omega)) ?_
  refine Gt (QU J PY (by decide) Room.fl (Kn.own .m1) (by simp;omega)) ?_
  refine BJ J QE J (fun b4=>?_)
  refine Ga J ?_
  refine AT (AL (AU.id Room.fl.len Room.fl.one) J J J Sq J .h) ?_
  refine Gn (.t7 0 1 2 3 20 21 22) (AJ (Gm J (Gt (AZ J PY .m0 (AU.id Room.fl.len Room.fl.one) J) (Gt (Al HU J) ?_))))
  refine Gt (AQ Om J J (by omega) (by omega)) ?_
  refine AT (AL (AH.l0.comp (AU.ar (n:=6) Room.fl (by omega))) J J J Sq J (.t .h)) ?_
  refine AR (AB (.t5 0 1 20 21 22) ?_)
  refine AV (AA (AJ ?_))
  refine Gt (Ay J J (IntWalk.i64_in _ (by omega))) ?_
  refine Gm J ?_
  refine AR (AB (.t5 0 1 20 21 22) ?_)
  refine CC (k+1) ?_ ?_ (.t5 22 0 1 20 21) (by rw [AH.Ya (by omega)];exact(.cons _ (.refl _)))
  · exact⟨by omega,by omega⟩
  · omega
 have c1p:=kz c1
 dsimp only at c1p
 obtain rfl:k=6:=by omega
 refine Bg (AW (AW (Ah ?_)))
 refine AB (.t2 0 1) ?_
 refine AA (CL (Gt (BF SE LJ J (.cons An.l0 J J J (.cons An.l1 J J J .nil))) (Gt (BF SE LJ J (.cons An.l0 J J J (.cons An.l1 J J J (.cons An.l3 J J J .nil)))) (Gt (BF SE LJ J (.cons An.l0 J J J (.cons An.l1 J J J .nil))) (Gt (BF SE LJ J (.cons An.l0 J J J (.cons An.l1 J J J (.cons An.l3 J J J .nil)))) (Gt (BF SE LJ J (.cons An.l0 J J J (.cons An.l2 J J J (.cons An.l3 J J J .nil)))) (Gt (BF SE LJ J (.cons An.l0 J J J (.cons An.l3 J J J .nil))) ?_)))))))
 refine Gt (BF SE LJ J (.cons An.l0 J J J .nil)) (Gt (BF SE LJ J (.cons An.l0 J J J (.cons An.l1 J J J (.cons An.l4 J J J .nil)))) (Gt (BF SE LJ J (.cons An.l0 J J J (.cons An.l2 J J J (.cons An.l3 J J J .nil)))) ?_))
 refine aw (cs:=B1 (n:=9) An.enc (Vector.replicate 9 default)) (cs':=B1 (n:=9) An.enc AH.SZ) J Tryz.underlying96 OE LJ (by decide) (by decide) (by kernel_rfl) (.cons (AU.arr (n:=9) (i:=0) An.fl (by decide) (by decide)) J J J (.cons (AU.arr (n:=9) (i:=1) An.fl (by decide) (by decide)) J J J (.cons (AU.arr (n:=9) (i:=2) An.fl (by decide) (by decide)) J J J (.cons (AU.arr (n:=9) (i:=3) An.fl (by decide) (by decide)) J J J (.cons (AU.arr (n:=9) (i:=4) An.fl (by decide) (by decide)) J J J (.cons (AU.arr (n:=9) (i:=5) An.fl (by decide) (by decide)) J J J (.cons (AU.arr (n:=9) (i:=6) An.fl (by decide) (by decide)) J J J (.cons (AU.arr (n:=9) (i:=7) An.fl (by decide) (by decide)) J J J (.cons (AU.arr (n:=9) (i:=8) An.fl (by decide) (by decide)) J J J .nil))))))))) J (fun b5=>?_)
 refine Gt (Au J Tryz.underlying96 J) (Gm J (Gn (.t5 0 1 41 42 43) (Ag ?_)))
 refine Bw (.t5 43 0 1 41 42) ?_
 refine Be (.t .h) ?_
 refine Ck (fun(k:Int)=>0≤k∧k≤9) (fun(k:Int)=>(9 - k).toNat) (fun(k:Int)=> [(43, .int .i64 k)]) (fun(k:Int)=> [Ab.box b2 35 (AH.enc (AH.I5 k.toNat))]) (0) ?_ J J (fun k hI2=>?_)
 · exact⟨Int.le_refl _,by omega⟩
 obtain⟨hI21,hI22⟩:=hI2
 refine Gs (Gt (BA J J) (AR (AA (Aq ?_))))
 refine Gc (fun c2=>?_) (fun c2=>?_)
 ·
  have c2p:=kz c2
  dsimp only at c2p
  refine Aa ?_
  refine AB (.t5 0 1 41 42 43) ?_
  refine AA (Aq (Ag (Gs (Gm J ?_))))
  refine Gt (Bz jl (by decide) (Kn.own .m1) J J (by omega) (by dsimp only;omega)) ?_
  refine Gt (QU J Nl (by decide) An.fl (Kn.own .m1) (by simp;omega)) ?_
  refine BJ J LJ J (fun b6=>?_)
  refine Ga J ?_
  refine AT (AL (AU.id An.fl.len An.fl.one) J J J OE J .h) ?_
  refine Gn (.t7 0 1 4 5 41 42 43) (AJ (Gm J (Gt (AZ J Nl .m0 (AU.id An.fl.len An.fl.one) J) (Gt (Al C6 J) ?_))))
  refine Gt (AQ Gq J J (by omega) (by omega)) ?_
  refine AT (AL (AH.l1.comp (AU.ar (n:=9) An.fl (by omega))) J J J OE J (.t .h)) ?_
  refine AR (AB (.t5 0 1 41 42 43) ?_)
  refine AV (AA (AJ ?_))
  refine Gt (Ay J J (IntWalk.i64_in _ (by omega))) ?_
  refine Gm J ?_
  refine AR (AB (.t5 0 1 41 42 43) ?_)
  refine CC (k+1) ?_ ?_ (.t5 43 0 1 41 42) (by rw [AH.XB (by omega)];exact(.cons _ (.refl _)))
  · exact⟨by omega,by omega⟩
  · omega
 have c2p:=kz c2
 dsimp only at c2p
 obtain rfl:k=9:=by omega
 refine Bg (AW (AW (Ah ?_)))
 refine AB (.t2 0 1) ?_
 refine AA (Gs (Gt (BF Yk MX J (.cons Am.l0 J J J (.cons Am.l1 J J J (.cons Am.l2 J J J (.cons Am.l4 J J J .nil))))) (Gt (Al Bx J) ?_)))
 refine Gt (AQ DI J J (by decide) (by decide)) ?_
 refine AT (AL (AH.l2.comp (AU.arr (n:=6) Am.fl (by decide) (by decide))) J J J LH J .h) ?_
 refine Gn (.t2 0 1) (Gs (Gt (BF Yk MX J (.cons Am.l0 J J J (.cons Am.l1 J J J (.cons Am.l3 J J J (.cons Am.l4 J J J .nil))))) (Gt (Al Bx J) ?_)))
 refine Gt (AQ DI J J (by decide) (by decide)) ?_
 refine AT (AL (AH.l2.comp (AU.arr (n:=6) Am.fl (by decide) (by decide))) J J J LH J .h) ?_
 refine Gn (.t2 0 1) (Gs (Gt (AZ J Bf .m0 (AU.id AH.fl.len AH.fl.one) J) ?_))
 refine AT (AL (AU.id AH.fl.len AH.fl.one) J J J EP J (.t (.t (.t .h)))) ?_
 refine Gn (.t1 0) (Ac ?_)
 refine AY J (.cell J .m3 (.inl ⟨(by rw [AH.fl.len];exact Bf),J⟩) .n) ?_
 intro w1 hS;refine⟨?_,hS.Ao⟩;rfl
theorem KJ  : KN Tryz.prog 37 #[] [] (fun v B=>∃(b:Nat) (V:AN) (ls:Vector BD 4) (ev:List Ing.Event),v = .pointer (some ⟨b,0,none⟩)∧A7 V ls ev=AG.new∧B = [Ab.box b 101 (AN.enc V),Ab.DP (CQ 9 (AN.Ar V) ls),Ab.own (AN.last V) 56 16 ((ev).flatMap Ing.Event.enc)]):=by
 intro w hS0
 refine Ap _ _ Tryz.func37 J J J (hS0) ?_
 refine Gs (Ga J (Gn (.nil _) (Gs ?_)))
 refine BC J jQ .n (fun w hS=>Qg w) ?_
 refine Gt (BF fq gv J (.cons AN.l0 J J J .nil)) ?_
 refine CB J J J (fun b1=>?_)
 refine Ga J (Gn (.t1 0) (Ac ?_))
 refine AY J (.tmp J .n) ?_
 intro w1 hS
 have hS:=(hS.perm (Ax.perm (.c .h .n))).A5
 have h2:=(St.Vx hS (l:=CQ 9 OX OZ) (fun r hr=>Z8 9 w1 r hr)).Cx 56 16
 refine⟨_,⟨b1,⟨AH.new,OX,0,⟨none,0,0⟩⟩,OZ,[],J,J,J⟩,h2.perm (bW _ _ _)⟩
theorem B6 {t0:Nat}(h:Hd)(xs:List Ad)(hb:xs.length≤17592186044416):FO Tryz.prog 69 #[h.val] [] (fun w=>Rd w h t0 1 (xs.flatMap A6)) (fun v B=>∃ h':Hd,v=h'.val∧h'.len=xs.length∧B = [Ab.own h' 9 1 (xs.flatMap A6)]):=by
 intro w hS0 hH
 have r0:=hH
 have hl:=r0.Lz C7 (by decide)
 refine Ap _ _ Tryz.func69 J J J (hS0) ?_
 refine Gs (Ga J (Gn (.t1 0) (CL (Gm J (Gt (VA Tryz.underlying52 J) (Gn (.t2 0 4) ?_))))))
 refine Gc (fun c1=>?_) (fun c1=>?_)
 ·
  refine Gs (Ga J (Gn (.t1 2) (Ac (AD ?_))))
  refine AY J (.tmp J .n) ?_
  intro w1 hS
  have hS:=(hS.perm (Ax.perm .n)).A5
  have hx:xs = []:=by
    rcases xs with _ | ⟨x,xs⟩
    · rfl
    · exfalso
      obtain⟨b,o,C,fz,e1,_⟩:=r0.2 (by simp [A6])
      rw [e1] at c1
      cases c1
  subst hx
  exact⟨_,⟨⟨none,0,0⟩,J,J,J⟩,hS.Cx _ _⟩
 have c1p:=kz c1
 refine Aa ?_
 refine AB (.t1 0) ?_
 refine AA (Gs ?_)
 refine cU A6 J Tryz.underlying52 Ed (fun b1=>?_)
 refine Gm J ?_
 refine L4 (e:=A6) J Tryz.underlying52 Ed SJ J Yf (by decide) J J (fun w hS=>Src.D4 Tryz.underlying52 ((Kn.I7 r0) w hS)) J J (by omega) (fun _=> .h) (fun h1 h1l=>?_)
 refine Ga J (Gn (.t1 2) (Ac ?_))
 refine AY J (.tmp J .n) ?_
 intro w1 hS
 have hS:=(hS.perm (Ax.perm (.c .h .n))).A5
 exact⟨_,⟨_,J,by omega,rfl⟩,hS⟩
theorem PB {t0:Nat}(l:BR)(qs:List Ad)(hb:qs.length≤17592186044416):FO Tryz.prog 91 #[.agg l.enc.toArray] [] (fun w=>Rd w l.queue t0 1 (qs.flatMap A6)∧l.queue.len≤l.queue.cap) (fun v B=>(qs = []∧v = .tuple #[.agg l.enc.toArray,BW [], .bool false]∧B = [])∨(∃ q r,qs=q :: r∧∃ h':Hd,v = .tuple #[.agg (BR.enc ⟨l.now,l.long,l.ret,h'⟩).toArray,BW q, .bool true]∧h'.len=r.length∧B = [Ab.own h' 9 1 (r.flatMap A6)])):=by
 intro w hS0 hH
 obtain⟨r0,k0⟩:=hH
 have hl0:=r0.Lz C7 (by decide)
 refine Ap _ _ Tryz.func91 J J J (hS0) ?_
 refine Gs ?_
 refine CB J J J (fun b1=>?_)
 refine BJ J fR J (fun b2=>?_)
 refine Ga J (Ga J (Gn (.t2 1 2) (CL (Gt (Al Gh J) (Gt (AI J EU .m1 BR.l3 J J) (Gt (Au J Tryz.underlying52 J) (Gt (Ai J J) ?_)))))))
 refine Gn (.t3 1 2 9) ?_
 refine Gc (fun c1=>?_) (fun c1=>?_)
 ·
  have c1p:=kz c1
  have hq:qs = []:=List.length_eq_zero_iff.1 (by omega)
  refine Gs (Gt (AZ J Kq .m1 (AU.id BR.fl.len BR.fl.one) J) ?_)
  refine AT (AL (AU.id BR.fl.len BR.fl.one) J J J Pc J .h) ?_
  refine Ga J (Ga J (Gn (.t3 2 3 4) (Ac (AD ?_))))
  refine AY J (.cell J .m0 (.inl ⟨(by rw [BR.fl.len];exact Kq),J⟩) (.tmp J (.tmp J .n))) ?_
  intro w1 hS
  have hS:=(hS.perm (Ax.perm .n)).A5
  exact⟨_, .inl ⟨hq,J,J⟩,hS⟩
 have c1p:=kz c1
 obtain⟨q,r,rfl⟩:=Bh.Wy (qs:=qs) (by omega)
 rw [List.length_cons] at hl0 hb
 refine Aa ?_
 refine AB (.t2 1 2) ?_
 refine AA (Gs (Gt (Al Gh J) (Gt (AI J EU .m1 BR.l3 J J) ?_)))
 refine Gt (Bz JO (by decide) (Kn.I7 r0) J J (by omega) (by omega)) ?_
 refine Gt (DY J CO (Kn.I7 r0) (by simp)) ?_
 refine Ga J (Gn (.t3 1 2 5) (Gs (Gt (Al Gh J) (Gt (AI J EU .m1 BR.l3 J J) ?_))))
 refine Gt (PW Tryz.underlying52 Ed J J (by decide) (by omega)) ?_
 refine BL J X1 (.c J .n) .n (B6 _ r (by omega)) (fun w hS=>by have h:=(Kn.cut (l:=1) (r:=l.queue.len) C7 (Kn.I7 r0) (by omega) (Nat.le_refl _) (Uh.of k0)) w hS;rw [show(((q :: r).take l.queue.len).drop 1)=r from by rw [List.take_of_length_le (by simp;omega)];rfl] at h;exact h) (fun v2 B hv=>?_)
 obtain⟨y3,rfl,y4,rfl⟩:=hv
 refine Gt (Al Gh J) ?_
 refine AT (AL BR.l3 J J J MA J (.t (.t .h))) ?_
 refine Gn (.t3 1 2 5) (Gs (Gt (AZ J Kq .m2 (AU.id BR.fl.len BR.fl.one) J) (Gm J ?_)))
 refine AT (AL (AU.id BR.fl.len BR.fl.one) J J J Pc J (.t .h)) ?_
 refine Ga J (Ga J (Gn (.t3 2 3 4) (Ac ?_)))
 refine AY J (.cell J .m1 (.inl ⟨(by rw [BR.fl.len];exact Kq),J⟩) (.tmp J (.tmp J .n))) ?_
 intro w1 hS
 have hS:=(hS.perm (Ax.perm (.c .h .n))).A5
 exact⟨_, .inr ⟨q,r,J,_,J,by assumption,rfl⟩,hS⟩
theorem OG (p:Av)(w:World):Ev Tryz.prog 92 #[.agg p.enc.toArray] w fun v w'=>v = .agg (Av.enc ⟨p.wait,0,false,p.ring,p.cut⟩).toArray∧CH w w':=by
 refine Ap [] [] Tryz.func92 J J J (St.start w []) ?_
 refine Gs ?_
 refine CB J J J (fun b1=>?_)
 refine BJ J Tv J (fun b2=>?_)
 refine Gn (.t2 1 2) (Gs (Gt (Al SN J) ?_))
 refine AT (AL Av.l2 J J J LG J (.t .h)) ?_
 refine Gt (Al Nd J) ?_
 refine AT (AL Av.l1 J J J DO J (.t .h)) ?_
 refine Gn (.t2 1 2) (Gs (Gt (AZ J C4 .m1 (AU.id Av.fl.len Av.fl.one) J) ?_))
 refine AT (AL (AU.id Av.fl.len Av.fl.one) J J J Fb J .h) ?_
 refine Gn (.t1 2) (Ac ?_)
 refine AY J (.cell J .m0 (.inl ⟨(by rw [Av.fl.len];exact C4),J⟩) .n) ?_
 intro w1 hS;refine⟨?_,hS.Ao⟩;rfl
theorem H9 (s:Ad)(c:UInt8)(hs:s.length≤10000000)(w:World):Ev Tryz.prog 116 #[BW s, .int .u8 (c.toNat:Int)] w fun v w'=>v=BW (Words.SA c s)∧CH w w':=by
 refine Ap [] [] Tryz.func116 J J J (St.start w []) ?_
 refine Gs (Ga J (Gn (.t2 0 1) (Aq (Ag ?_))))
 refine Bw (.t2 0 1) ?_
 refine Ck (fun(r:Ad)=>Words.SA c s=Words.SA c r∧r.length≤s.length) (fun(r:Ad)=>r.length) (fun(r:Ad)=> [(0,BW r)]) (fun(r:Ad)=> []) (s) ?_ J J (fun r hI1=>?_)
 · exact⟨J,Nat.le_refl _⟩
 obtain⟨hI11,hI12⟩:=hI1
 refine CL (Gm J (Gt (BN J Tryz.underlying9 J) (Gt (Cs J J) (Gm J (Bp 8 J J (fun q=>AF J) (Bp 8 J J (fun q=>AF J) (Bp 8 J J (fun q=>BN J Tryz.underlying9 (Bo J q)) ?_)))))))
 refine Bp 8 J J (fun q=>by have q1:=q;(try simp at q1);exact FT (Bo rfl q) rfl (IntWalk.i64_in _ (by omega))) ?_
 refine Bp 8 J J (fun q=>by have q1:=q;(try simp at q1);exact Bt Tryz.underlying9 (Bo rfl q) (Bo rfl q) (by omega) (by omega)) ?_
 refine Bp 8 J J (fun q=>AF J) (Bp 8 J J (fun q=>Ai (Bo J q) (Bo J q)) (Gt (BQ J J (fun h=>h)) (Gn (.t3 0 1 16) ?_)))
 refine Gc (fun c1=>?_) (fun c1=>?_)
 ·
  have c1p:=kz c1
  have hlt:0 < r.length:=by simp at c1;omega
  refine Aa ?_
  refine AB (.t2 0 1) ?_
  refine AA (Ag (AJ (Gm J (Gm J (Gt (BN J Tryz.underlying9 J) ?_)))))
  refine Gt (FT J J (IntWalk.i64_in _ (by omega))) ?_
  refine Gt (JG Tryz.underlying9 J J (by omega) (by omega)) ?_
  refine Ga J ?_
  refine AR (AB (.t2 0 1) ?_)
  refine AV ?_
  refine CC _ ?_ ?_ (.t2 0 1) (.refl _)
  · exact⟨by rw [hI11,Words.gi c1]<;>rfl,by first | (simp;done) | (simp;omega)⟩
  · first | (simp;done) | (simp;omega)
 refine Bg (AW (AW (Ah ?_)))
 refine AB (.t1 0) ?_
 refine AA (Gs (Gm J (Ga J (Gn (.t1 4) (Ac ?_)))))
 refine AY J (.tmp J .n) ?_
 intro w1 hS;refine⟨?_,hS.Ao⟩;rw [hI11,Words.gY c1];rfl
theorem FM (s:Ad)(c:UInt8)(hs:s.length≤10000000)(w:World):Ev Tryz.prog 115 #[BW s, .int .u8 (c.toNat:Int)] w fun v w'=>v=BW (Words.Qj c s)∧CH w w':=by
 refine Ap [] [] Tryz.func115 J J J (St.start w []) ?_
 refine Gs (Ga J (Gn (.t2 0 1) (Aq (Ag ?_))))
 refine Bw (.t2 0 1) ?_
 refine Ck (fun(r:Ad)=>Words.Qj c s=Words.Qj c r∧r.length≤s.length) (fun(r:Ad)=>r.length) (fun(r:Ad)=> [(0,BW r)]) (fun(r:Ad)=> []) (s) ?_ J J (fun r hI1=>?_)
 · exact⟨J,Nat.le_refl _⟩
 obtain⟨hI11,hI12⟩:=hI1
 refine CL (Gm J (Gt (BN J Tryz.underlying9 J) (Gt (Cs J J) (Gm J (Bp 8 J J (fun q=>AF J) ?_)))))
 refine Bp 8 J J (fun q=>by have q1:=q;(try simp at q1);exact Bt Tryz.underlying9 (Bo rfl q) rfl (by decide) (by omega)) ?_
 refine Bp 8 J J (fun q=>AF J) (Bp 8 J J (fun q=>Ai (Bo J q) (Bo J q)) (Gt (BQ J J (fun h=>h)) (Gn (.t3 0 1 13) ?_)))
 refine Gc (fun c1=>?_) (fun c1=>?_)
 ·
  have c1p:=kz c1
  have hlt:0 < r.length:=by simp at c1;omega
  refine Aa ?_
  refine AB (.t2 0 1) ?_
  refine AA (Ag (AJ (Gm J ?_)))
  refine Gt (HA Tryz.underlying9 J J (by decide) (by omega)) ?_
  refine Ga J ?_
  refine AR (AB (.t2 0 1) ?_)
  refine AV ?_
  refine CC _ ?_ ?_ (.t2 0 1) (.refl _)
  · exact⟨by rw [hI11,Words.fw c1]<;>rfl,by first | (simp;done) | (simp;omega)⟩
  · first | (simp;done) | (simp;omega)
 refine Bg (AW (AW (Ah ?_)))
 refine AB (.t1 0) ?_
 refine AA (Gs (Gm J (Ga J (Gn (.t1 4) (Ac ?_)))))
 refine AY J (.tmp J .n) ?_
 intro w1 hS;refine⟨?_,hS.Ao⟩;rw [hI11,Words.fS c1];rfl
theorem Ig (s:Ad)(hs:s.length≤10000000)(w:World):Ev Tryz.prog 94 #[BW s,BW [32]] w fun v w'=>v=BW (Words.Qj 32 (Words.SA 32 s))∧CH w w':=by
 refine Ap [] [] Tryz.func94 J J J (St.start w []) ?_
 refine Gs (Ga J (Gn (.t2 0 1) (CL (Gm J (Gt (B4 J J) (Gm J (Bj 9 J J (fun q=>AF J) ?_)))))))
 refine Bj 9 J J (fun q=>B4 (cF J q) J) ?_
 refine Gt (Ba J J (fun h=>by rw [h];rfl)) ?_
 refine Gn (.t3 0 1 12) ?_
 refine Gc (fun c1=>?_) (fun c1=>?_)
 ·
  refine Gs (Gm J (Ga J (Gn (.t1 4) (Ac (AD ?_)))))
  refine AY J (.tmp J .n) ?_
  intro w1 hS;refine⟨?_,hS.Ao⟩;have e:s = []:=by simpa using c1
  subst e;rfl
 have c1p:=kz c1
 refine Aa ?_
 refine AB (.t2 0 1) ?_
 refine AA (CL (Gm J (Gt (BN J Tryz.underlying9 J) (Gt (Ai J J) (Gm J (Bp 17 J J (fun q=>AF J) ?_))))))
 refine Bp 17 J J (fun q=>by have q1:=q;(try simp at q1);exact Bt Tryz.underlying9 (Bo rfl q) rfl (by decide) (by(try simp only [List.length_cons,List.length_nil]);omega)) ?_
 refine Bp 17 J J (fun q=>BA (Bo J q) J) (Gt (BQ J J (fun h=>h)) (Gn (.t3 0 1 21) ?_))
 refine HW J J ?_
 refine Aq ?_
 refine BE (N:=8) [0,0,2,7,0,16,63,127] mix (by kernel_rfl) J ?_
 refine Pf 0 J (AF J) (Pf 1 J (AF J) ?_)
 refine Pf 2 J (Bt Tryz.underlying9 J J (by decide) (by(try simp only [List.length_cons,List.length_nil]);omega)) ?_
 refine BI 3 J J (by kernel_rfl) (LI (J4 (D0 fW (.c J (.c J .n)) (fun w hS=>H9 _ 32 hs w)))) ?_
 refine Pf 4 J (AF J) ?_
 refine Pf 5 J (Bt Tryz.underlying9 J J (by decide) (by(try simp only [List.length_cons,List.length_nil]);omega)) ?_
 refine BI 6 J J (by kernel_rfl) (LI (J4 (D0 dA (.c J (.c J .n)) (fun w hS=>FM _ 32 (by have:=Words.Rw 32 s;omega) w)))) ?_
 refine Pf 7 J (A0 J) ?_
 refine A2 (by kernel_rfl) ?_
 refine AB (.t1 4) ?_
 refine AA (Ac (AD ?_))
 refine AY J (.tmp J .n) ?_
 intro w1 hS;refine⟨?_,hS.Ao⟩;rfl
end Go.Proofs.YtoidpggbbfncpaaGreatDoor
