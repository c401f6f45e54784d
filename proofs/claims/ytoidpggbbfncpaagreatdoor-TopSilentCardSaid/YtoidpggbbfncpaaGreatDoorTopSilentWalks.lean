/- What the functions that the law TopSilent reaches compute: walks, part 1. No condition. -/
import Derived.Test.YtoidpggbbfncpaaGreatDoorCards
import Derived.Test.YtoidpggbbfncpaaGreatDoorTie
import Derived.Deep.DeepHandedRow
import Derived.Test.YtoidpggbbfncpaaGreatDoorRows
import Derived.Test.YtoidpggbbfncpaaGreatDoorTopSilentEc3
import Derived.Test.YtoidpggbbfncpaaGreatDoorTopSilentRa1
import Derived.Test.YtoidpggbbfncpaaGreatDoorTopSilentRb1
import Derived.Test.YtoidpggbbfncpaaGreatDoorTopSilentRc1
set_option linter.unusedSimpArgs false
set_option linter.unusedVariables false
set_option maxRecDepth 100000
set_option maxHeartbeats 1000000
namespace Go.Proofs.YtoidpggbbfncpaaGreatDoor
open Go Go.Ing Go.RowKit Go.ChangeShapes Go.WideShapes Go.ChangeAt
theorem NX:ZV Tryz.prog 35 (.agg (AI.enc (default:AI)).toArray):=FP (by kernel_rfl)
theorem DJ:Sz Tryz.prog 3 1:=D3 (by kernel_rfl)
theorem V9:ZV Tryz.prog 23 (.agg (CM (n:=6) A0 (Vector.replicate 6 default)).toArray):=FP (by kernel_rfl)
theorem Ks:Sz Tryz.prog 4 1:=D3 (by kernel_rfl)
theorem cV:ZV Tryz.prog 24 (.agg (CM (n:=6) Cc (Vector.replicate 6 default)).toArray):=FP (by kernel_rfl)
theorem Et:Sz Tryz.prog 9 1:=D3 (by kernel_rfl)
theorem Yd:Sz Tryz.prog 23 6:=D3 (by kernel_rfl)
theorem dL:Sz Tryz.prog 24 6:=D3 (by kernel_rfl)
theorem WZ:Ha Tryz.prog 26 [(0,1),(1,1),(2,6),(8,6)]:=⟨_,Tryz.underlying26,fun w=>by simp [Et w,Ks w,Yd w,dL w]⟩
theorem OX:ZV Tryz.prog 26 (.agg (Room.enc (default:Room)).toArray):=FP (by kernel_rfl)
theorem Q3:Sz Tryz.prog 26 14:=D3 (by kernel_rfl)
theorem dx:IS Tryz.prog 95 14:=Ns Tryz.underlying95 Q3
theorem PO:Nk Tryz.prog 26 14:=FF Tryz.underlying26 rfl Q3
theorem dO:Sz Tryz.prog 27 84:=D3 (by kernel_rfl)
theorem HE:FA Tryz.prog 35 0 0:=Bz Tryz.underlying35 rfl dO
theorem OQ:IA Tryz.prog 27 6 14:=NJ Tryz.underlying27 Q3
theorem Qv:Ha Tryz.prog 29 [(0,1),(1,1),(2,1),(3,1),(4,1)]:=⟨_,Tryz.underlying29,fun w=>by simp [Et w,DJ w,Ks w]⟩
theorem Kq:ZV Tryz.prog 29 (.agg (Ap.enc (default:Ap)).toArray):=FP (by kernel_rfl)
theorem Nb:Sz Tryz.prog 29 5:=D3 (by kernel_rfl)
theorem fJ:IS Tryz.prog 96 5:=Ns Tryz.underlying96 Nb
theorem NI:Nk Tryz.prog 29 5:=FF Tryz.underlying29 rfl Nb
theorem cI:Sz Tryz.prog 30 45:=D3 (by kernel_rfl)
theorem Cz:FA Tryz.prog 35 1 84:=Bz Tryz.underlying35 rfl cI
theorem Gd:IA Tryz.prog 30 9 5:=NJ Tryz.underlying30 Nb
theorem Yn:Ha Tryz.prog 32 [(0,1),(1,1),(2,1),(3,1),(4,1),(5,1)]:=⟨_,Tryz.underlying32,fun w=>by simp [Et w,Ks w,DJ w]⟩
theorem L0:ZV Tryz.prog 32 (.agg (An.enc (default:An)).toArray):=FP (by kernel_rfl)
theorem cw:Sz Tryz.prog 33 36:=D3 (by kernel_rfl)
theorem Br:FA Tryz.prog 35 2 129:=Bz Tryz.underlying35 rfl cw
theorem Kr:Sz Tryz.prog 32 6:=D3 (by kernel_rfl)
theorem DB:IA Tryz.prog 33 6 6:=NJ Tryz.underlying33 Kr
theorem EE:Sz Tryz.prog 35 165:=D3 (by kernel_rfl)
theorem Be:Nk Tryz.prog 35 165:=FF Tryz.underlying35 rfl EE
theorem eR:CF Tryz.prog 15:=Tryz.call15
theorem cb:Sz Tryz.prog 99 88:=D3 (by kernel_rfl)
theorem SE:Sz Tryz.prog 53 1:=D3 (by kernel_rfl)
theorem bo:Ha Tryz.prog 101 [(0,165),(165,88),(253,1),(254,1)]:=⟨_,Tryz.underlying101,fun w=>by simp [EE w,cb w,DJ w,SE w]⟩
theorem cQ:ZV Tryz.prog 101 (.agg (AL.enc (default:AL)).toArray):=FP (by kernel_rfl)
theorem Sk:ZV Tryz.prog 9 (BW []):=FP (by kernel_rfl)
theorem Xh:BY Tryz.prog 9 16:=VR (by kernel_rfl)
theorem ZX:ZV Tryz.prog 75 (.agg (BK.enc ⟨[],false,false,⟨none,0,0⟩⟩).toArray):=FP (by kernel_rfl)
theorem MY:Sz Tryz.prog 52 1:=D3 (by kernel_rfl)
theorem Ew:FA Tryz.prog 75 3 3:=Bz Tryz.underlying75 rfl MY
theorem Ej:P2 Tryz.prog 52:=JY Tryz.underlying52 rfl
theorem Mf:Sz Tryz.prog 75 4:=D3 (by kernel_rfl)
theorem IH:Nk Tryz.prog 75 4:=FF Tryz.underlying75 rfl Mf
theorem Ir:IS Tryz.prog 52 1:=Ns Tryz.underlying52 Et
theorem CK:P2 Tryz.prog 9:=JY Tryz.underlying9 rfl
theorem WU:CF Tryz.prog 69:=Tryz.call69
theorem UL:ZV Tryz.prog 65 (.agg (Aw.enc ⟨⟨none,0,0⟩,0,false,[],false⟩).toArray):=FP (by kernel_rfl)
theorem M1:FA Tryz.prog 65 2 2:=Bz Tryz.underlying65 rfl Ks
theorem KC:FA Tryz.prog 65 1 1:=Bz Tryz.underlying65 rfl DJ
theorem Fb:Sz Tryz.prog 65 5:=D3 (by kernel_rfl)
theorem Cv:Nk Tryz.prog 65 5:=FF Tryz.underlying65 rfl Fb
theorem mix:Tryz.prog.follows .mixedOrders=true:=by kernel_rfl
theorem dF:CF Tryz.prog 116:=Tryz.call116
theorem aA:CF Tryz.prog 115:=Tryz.call115
theorem HC:FA Tryz.prog 29 1 1:=Bz Tryz.underlying29 rfl DJ
theorem A5:P2 Tryz.prog 3:=JY Tryz.underlying3 rfl
theorem GX:FA Tryz.prog 29 4 4:=Bz Tryz.underlying29 rfl Ks
theorem DM:P2 Tryz.prog 4:=JY Tryz.underlying4 rfl
theorem DN:FA Tryz.prog 29 3 3:=Bz Tryz.underlying29 rfl DJ
theorem Fh:FA Tryz.prog 29 2 2:=Bz Tryz.underlying29 rfl DJ
theorem Ij:FA Tryz.prog 32 1 1:=Bz Tryz.underlying32 rfl Ks
theorem dk:Nk Tryz.prog 27 84:=FF Tryz.underlying27 rfl dO
theorem Mm:FA Tryz.prog 26 2 2:=Bz Tryz.underlying26 rfl Yd
theorem Z6:Nk Tryz.prog 23 6:=FF Tryz.underlying23 rfl Yd
theorem Ma:FA Tryz.prog 26 3 8:=Bz Tryz.underlying26 rfl dL
theorem WD:IA Tryz.prog 24 6 1:=NJ Tryz.underlying24 Ks
theorem Zw:Nk Tryz.prog 33 36:=FF Tryz.underlying33 rfl cw
theorem GC:Nk Tryz.prog 32 6:=FF Tryz.underlying32 rfl Kr
theorem C9:FA Tryz.prog 32 3 3:=Bz Tryz.underlying32 rfl DJ
theorem KJ:FA Tryz.prog 32 4 4:=Bz Tryz.underlying32 rfl DJ
theorem GS:FA Tryz.prog 32 5 5:=Bz Tryz.underlying32 rfl DJ
theorem eG:CF Tryz.prog 68:=Tryz.call68
theorem bD:FA Tryz.prog 26 1 1:=Bz Tryz.underlying26 rfl Ks
theorem Ym:Nk Tryz.prog 30 45:=FF Tryz.underlying30 rfl cI
theorem eO:CF Tryz.prog 19:=Tryz.call19
theorem Xl:CF Tryz.prog 159:=Tryz.call159
theorem Ue:CF Tryz.prog 129:=Tryz.call129
theorem YK:FA Tryz.prog 32 2 2:=Bz Tryz.underlying32 rfl Ks
theorem Zu:CF Tryz.prog 160:=Tryz.call160
theorem Qm:FA Tryz.prog 56 2 2:=Bz Tryz.underlying56 rfl DJ
theorem HD:FA Tryz.prog 56 3 3:=Bz Tryz.underlying56 rfl DJ
theorem O5:CF Tryz.prog 130:=Tryz.call130
theorem Tq:FA Tryz.prog 56 0 0:=Bz Tryz.underlying56 rfl DJ
theorem Xz:FA Tryz.prog 56 1 1:=Bz Tryz.underlying56 rfl DJ
theorem dI:CF Tryz.prog 173:=Tryz.call173
theorem Iv:ZV Tryz.prog 56 (.agg (Ing.Event.enc (default:Ing.Event)).toArray):=FP (by kernel_rfl)
theorem N7:Sz Tryz.prog 56 16:=D3 (by kernel_rfl)
theorem O1:Nk Tryz.prog 56 16:=FF Tryz.underlying56 rfl N7
theorem cS:CF Tryz.prog 157:=Tryz.call157
theorem Nh:FA Tryz.prog 56 10 10:=Bz Tryz.underlying56 rfl Yd
theorem Sr:IA Tryz.prog 23 6 1:=NJ Tryz.underlying23 DJ
theorem CW:FA Tryz.prog 163 1 165:=Bz Tryz.underlying163 rfl DJ
theorem BD:FA Tryz.prog 163 0 0:=Bz Tryz.underlying163 rfl EE
theorem LG:FA Tryz.prog 32 0 0:=Bz Tryz.underlying32 rfl Et
theorem Xm:FA Tryz.prog 56 6 6:=Bz Tryz.underlying56 rfl Et
theorem YZ:FA Tryz.prog 56 7 7:=Bz Tryz.underlying56 rfl Et
theorem CP:FA Tryz.prog 163 2 166:=Bz Tryz.underlying163 rfl SE
theorem Ds:P2 Tryz.prog 53:=JY Tryz.underlying53 rfl
theorem Z7:CF Tryz.prog 123:=Tryz.call123
theorem W2:BY Tryz.prog 56 160:=VR (by kernel_rfl)
theorem N3:Ha Tryz.prog 56 [(0,1),(1,1),(2,1),(3,1),(4,1),(5,1),(6,1),(7,1),(8,1),(9,1),(10,6)]:=⟨_,Tryz.underlying56,fun w=>by simp [DJ w,Et w,Yd w]⟩
theorem Nq:CF Tryz.prog 96:=Tryz.call96
theorem YG:IA Tryz.prog 133 21 1:=NJ Tryz.underlying133 Et
theorem bc:ZV Tryz.prog 3 (.int .i64 0):=FP (by kernel_rfl)
theorem dt:BY Tryz.prog 3 8:=VR (by kernel_rfl)
theorem Gr:IS Tryz.prog 169 1:=Ns Tryz.underlying169 DJ
theorem Mu:FA Tryz.prog 29 0 0:=Bz Tryz.underlying29 rfl Et
theorem EH:CF Tryz.prog 127:=Tryz.call127
theorem bG:FA Tryz.prog 26 0 0:=Bz Tryz.underlying26 rfl Et
theorem dK:CF Tryz.prog 52:=Tryz.call52
theorem TB:CF Tryz.prog 102:=Tryz.call102
theorem aD:CF Tryz.prog 101:=Tryz.call101
theorem bX:CF Tryz.prog 43:=Tryz.call43
theorem dz:CF Tryz.prog 46:=Tryz.call46
theorem VK:Ha Tryz.prog 163 [(0,165),(165,1),(166,1)]:=⟨_,Tryz.underlying163,fun w=>by simp [EE w,DJ w,SE w]⟩
theorem Uh:ZV Tryz.prog 163 (.agg (Ag.enc (default:Ag)).toArray):=FP (by kernel_rfl)
theorem VH:CF Tryz.prog 124:=Tryz.call124
theorem VB:CF Tryz.prog 100:=Tryz.call100
theorem aH:Sz Tryz.prog 104 1:=D3 (by kernel_rfl)
theorem Ra:FA Tryz.prog 107 0 0:=Bz Tryz.underlying107 rfl aH
theorem YI:P2 Tryz.prog 104:=JY Tryz.underlying104 rfl
theorem UK:∃ i,Tryz.prog.info? 107=some i∧i.size≠0:=by
  have h:(Tryz.prog.info? 107).map (·.size)=some 2:=by kernel_rfl
  obtain⟨i,h1,h2⟩:=Option.map_eq_some_iff.1 h
  exact⟨i,h1,by omega⟩
theorem ah:CF Tryz.prog 71:=Tryz.call71
theorem Uk:Sz Tryz.prog 105 1:=D3 (by kernel_rfl)
theorem E6:FA Tryz.prog 107 1 1:=Bz Tryz.underlying107 rfl Uk
theorem Ic:P2 Tryz.prog 105:=JY Tryz.underlying105 rfl
theorem Vw:Sz Tryz.prog 5 1:=D3 (by kernel_rfl)
theorem aN:ZV Tryz.prog 5 (.int .u8 0):=FP (by kernel_rfl)
theorem ek:BY Tryz.prog 5 1:=VR (by kernel_rfl)
theorem fa:Tryz.prog.cellsOf 5=1:=by kernel_rfl
theorem fH:CF Tryz.prog 49:=Tryz.call49
theorem Ui:ZV Tryz.prog 107 (.agg (Db.enc ⟨none,⟨none,0,0⟩⟩).toArray):=FP (by kernel_rfl)
theorem Zt:CF Tryz.prog 50:=Tryz.call50
theorem Pp:CF Tryz.prog 51:=Tryz.call51
theorem bR:FA Tryz.prog 56 8 8:=Bz Tryz.underlying56 rfl Et
theorem bJ:FA Tryz.prog 56 4 4:=Bz Tryz.underlying56 rfl DJ
theorem bC:FA Tryz.prog 56 9 9:=Bz Tryz.underlying56 rfl Et
theorem bB:FA Tryz.prog 56 5 5:=Bz Tryz.underlying56 rfl DJ
theorem ez:CF Tryz.prog 53:=Tryz.call53
theorem Zg:CF Tryz.prog 54:=Tryz.call54
theorem HA:FA Tryz.prog 65 0 0:=Bz Tryz.underlying65 rfl MY
theorem Ih:FA Tryz.prog 65 3 3:=Bz Tryz.underlying65 rfl Et
theorem bZ:CF Tryz.prog 44:=Tryz.call44
theorem JI:FA Tryz.prog 65 4 4:=Bz Tryz.underlying65 rfl Ks
theorem Dt:FA Tryz.prog 98 4 16:=Bz Tryz.underlying98 rfl Fb
theorem eQ:CF Tryz.prog 82:=Tryz.call82
theorem RK:FA Tryz.prog 98 5 21:=Bz Tryz.underlying98 rfl MY
theorem Q4:FA Tryz.prog 101 3 254:=Bz Tryz.underlying101 rfl SE
theorem ed:IS Tryz.prog 53 16:=Ns Tryz.underlying53 N7
theorem F4:FA Tryz.prog 101 1 165:=Bz Tryz.underlying101 rfl cb
theorem Tu:Sz Tryz.prog 98 22:=D3 (by kernel_rfl)
theorem Oi:IA Tryz.prog 99 4 22:=NJ Tryz.underlying99 Tu
theorem JV:FA Tryz.prog 98 0 0:=Bz Tryz.underlying98 rfl DJ
theorem IU:FA Tryz.prog 98 1 1:=Bz Tryz.underlying98 rfl DJ
theorem fA:CF Tryz.prog 23:=Tryz.call23
theorem Te:CF Tryz.prog 64:=Tryz.call64
theorem EP:FA Tryz.prog 101 0 0:=Bz Tryz.underlying101 rfl EE
theorem cJ:CF Tryz.prog 114:=Tryz.call114
theorem WM:CF Tryz.prog 79:=Tryz.call79
theorem Lp:ZV Tryz.prog 151 (.agg (Order.enc (default:Order)).toArray):=FP (by kernel_rfl)
theorem S3:Ha Tryz.prog 151 [(0,1),(1,1),(2,1),(3,1),(4,1),(5,1)]:=⟨_,Tryz.underlying151,fun w=>by simp [DJ w,Ks w,Et w]⟩
theorem ED:Sz Tryz.prog 151 6:=D3 (by kernel_rfl)
theorem CB:Nk Tryz.prog 151 6:=FF Tryz.underlying151 rfl ED
theorem eN:CF Tryz.prog 87:=Tryz.call87
theorem bz:CF Tryz.prog 76:=Tryz.call76
theorem Zy:CF Tryz.prog 174:=Tryz.call174
theorem YR:CF Tryz.prog 176:=Tryz.call176
theorem cA:CF Tryz.prog 179:=Tryz.call179
theorem Xy:IS Tryz.prog 105 1:=Ns Tryz.underlying105 Vw
theorem dh:P2 Tryz.prog 5:=JY Tryz.underlying5 rfl
theorem cf:CF Tryz.prog 167:=Tryz.call167
theorem ck:CF Tryz.prog 168:=Tryz.call168
theorem Zx:CF Tryz.prog 180:=Tryz.call180
theorem cT:Sz Tryz.prog 133 21:=D3 (by kernel_rfl)
theorem ae:Nk Tryz.prog 133 21:=FF Tryz.underlying133 rfl cT
theorem bx:CF Tryz.prog 169:=Tryz.call169
theorem eZ:CF Tryz.prog 59:=Tryz.call59
theorem cU:CF Tryz.prog 181:=Tryz.call181
theorem cn:CF Tryz.prog 170:=Tryz.call170
theorem Z9:CF Tryz.prog 171:=Tryz.call171
theorem dj:CF Tryz.prog 30:=Tryz.call30
theorem cz:CF Tryz.prog 172:=Tryz.call172
theorem de:CF Tryz.prog 151:=Tryz.call151
theorem I3:CF Tryz.prog 150:=Tryz.call150
theorem aG:CF Tryz.prog 152:=Tryz.call152
theorem cc:CF Tryz.prog 153:=Tryz.call153
theorem cg:CF Tryz.prog 94:=Tryz.call94
theorem Rl:FA Tryz.prog 151 5 5:=Bz Tryz.underlying151 rfl Et
theorem GF:FA Tryz.prog 151 3 3:=Bz Tryz.underlying151 rfl Et
theorem Gk:FA Tryz.prog 151 1 1:=Bz Tryz.underlying151 rfl DJ
theorem Uv:CF Tryz.prog 154:=Tryz.call154
theorem HR:FA Tryz.prog 151 2 2:=Bz Tryz.underlying151 rfl Ks
theorem Z5:CF Tryz.prog 155:=Tryz.call155
theorem aE:CF Tryz.prog 156:=Tryz.call156
theorem IL:FA Tryz.prog 151 4 4:=Bz Tryz.underlying151 rfl Et
theorem Zv:CF Tryz.prog 128:=Tryz.call128
theorem Uf:CF Tryz.prog 136:=Tryz.call136
theorem aF:CF Tryz.prog 125:=Tryz.call125
theorem Z8:CF Tryz.prog 131:=Tryz.call131
theorem YB:CF Tryz.prog 132:=Tryz.call132
theorem QW:CF Tryz.prog 134:=Tryz.call134
theorem cl:CF Tryz.prog 161:=Tryz.call161
theorem Z0:CF Tryz.prog 133:=Tryz.call133
theorem Ox:CF Tryz.prog 135:=Tryz.call135
theorem DG:FA Tryz.prog 151 0 0:=Bz Tryz.underlying151 rfl DJ
theorem cj:CF Tryz.prog 137:=Tryz.call137
theorem cH:CF Tryz.prog 138:=Tryz.call138
theorem cG:CF Tryz.prog 139:=Tryz.call139
theorem UZ:CF Tryz.prog 140:=Tryz.call140
theorem dw:CF Tryz.prog 99:=Tryz.call99
theorem bw:CF Tryz.prog 103:=Tryz.call103
theorem dZ:CF Tryz.prog 104:=Tryz.call104
theorem cK:CF Tryz.prog 105:=Tryz.call105
theorem cN:CF Tryz.prog 106:=Tryz.call106
theorem cR:CF Tryz.prog 107:=Tryz.call107
theorem Y8:CF Tryz.prog 84:=Tryz.call84
theorem Kt:Sz Tryz.prog 69 10:=D3 (by kernel_rfl)
theorem Vk:Ha Tryz.prog 98 [(0,1),(1,1),(2,10),(12,4),(16,5),(21,1)]:=⟨_,Tryz.underlying98,fun w=>by simp [DJ w,Kt w,Mf w,Fb w,MY w]⟩
theorem Wf:ZV Tryz.prog 98 (.agg (A2.enc (default:A2)).toArray):=FP (by kernel_rfl)
theorem dA:CF Tryz.prog 122:=Tryz.call122
theorem ay:CF Tryz.prog 67:=Tryz.call67
theorem LF:FA Tryz.prog 98 3 12:=Bz Tryz.underlying98 rfl Mf
theorem fD:CF Tryz.prog 91:=Tryz.call91
theorem fK:CF Tryz.prog 92:=Tryz.call92
theorem eF:CF Tryz.prog 93:=Tryz.call93
theorem eX:CF Tryz.prog 95:=Tryz.call95
theorem eE:CF Tryz.prog 97:=Tryz.call97
theorem dH:CF Tryz.prog 186:=Tryz.call186
theorem cO:CF Tryz.prog 175:=Tryz.call175
theorem dP:CF Tryz.prog 158:=Tryz.call158
theorem dD:CF Tryz.prog 126:=Tryz.call126
theorem W5:CF Tryz.prog 62:=Tryz.call62
theorem eA:CF Tryz.prog 98:=Tryz.call98
theorem Lc:FA Tryz.prog 98 2 2:=Bz Tryz.underlying98 rfl Kt
theorem Ri:FA Tryz.prog 69 5 9:=Bz Tryz.underlying69 rfl DJ
theorem eU:CF Tryz.prog 83:=Tryz.call83
theorem eY:CF Tryz.prog 77:=Tryz.call77
theorem eD:CF Tryz.prog 78:=Tryz.call78
theorem SQ:CF Tryz.prog 65:=Tryz.call65
theorem dB:Sz Tryz.prog 67 3:=D3 (by kernel_rfl)
theorem K2:FA Tryz.prog 69 3 3:=Bz Tryz.underlying69 rfl dB
theorem K9:IA Tryz.prog 67 3 1:=NJ Tryz.underlying67 DJ
theorem KQ:FA Tryz.prog 69 4 6:=Bz Tryz.underlying69 rfl dB
theorem F1:FA Tryz.prog 69 0 0:=Bz Tryz.underlying69 rfl DJ
theorem K6:FA Tryz.prog 69 1 1:=Bz Tryz.underlying69 rfl DJ
theorem G8:FA Tryz.prog 69 2 2:=Bz Tryz.underlying69 rfl Et
theorem aY:ZV Tryz.prog 69 (.agg (AR.enc (default:AR)).toArray):=FP (by kernel_rfl)
theorem bK:CF Tryz.prog 73:=Tryz.call73
theorem EC:Nk Tryz.prog 69 10:=FF Tryz.underlying69 rfl Kt
theorem aT:CF Tryz.prog 55:=Tryz.call55
theorem Sg:CF Tryz.prog 74:=Tryz.call74
theorem cP:ZV Tryz.prog 145 (.agg (CM (n:=2) A0 (Vector.replicate 2 default)).toArray):=FP (by kernel_rfl)
theorem fG:CF Tryz.prog 80:=Tryz.call80
theorem eg:CF Tryz.prog 81:=Tryz.call81
theorem ZS:CF Tryz.prog 75:=Tryz.call75
theorem fI:CF Tryz.prog 56:=Tryz.call56
theorem ch:CF Tryz.prog 57:=Tryz.call57
theorem fE:CF Tryz.prog 58:=Tryz.call58
theorem IW:FA Tryz.prog 75 0 0:=Bz Tryz.underlying75 rfl Et
theorem LL:FA Tryz.prog 75 1 1:=Bz Tryz.underlying75 rfl Ks
theorem LO:FA Tryz.prog 75 2 2:=Bz Tryz.underlying75 rfl Ks
theorem bE:CF Tryz.prog 70:=Tryz.call70
theorem eK:CF Tryz.prog 45:=Tryz.call45
theorem FK:ZV Tryz.prog 44 (.agg (BG.enc (default:BG)).toArray):=FP (by kernel_rfl)
theorem Qs:FA Tryz.prog 101 2 253:=Bz Tryz.underlying101 rfl DJ
theorem dV:Sz Tryz.prog 42 1:=D3 (by kernel_rfl)
theorem NY:Ha Tryz.prog 44 [(0,1),(1,1)]:=⟨_,Tryz.underlying44,fun w=>by simp [dV w,Et w]⟩
theorem ET:Sz Tryz.prog 44 2:=D3 (by kernel_rfl)
theorem IQ:Nk Tryz.prog 44 2:=FF Tryz.underlying44 rfl ET
theorem LV:FA Tryz.prog 41 0 0:=Bz Tryz.underlying41 rfl DJ
theorem Xp:FA Tryz.prog 41 2 2:=Bz Tryz.underlying41 rfl DJ
theorem eJ:CF Tryz.prog 60:=Tryz.call60
theorem N0:FA Tryz.prog 41 1 1:=Bz Tryz.underlying41 rfl DJ
theorem fF:CF Tryz.prog 61:=Tryz.call61
theorem Tp:FA Tryz.prog 41 3 3:=Bz Tryz.underlying41 rfl Et
theorem ei:CF Tryz.prog 29:=Tryz.call29
theorem eS:CF Tryz.prog 63:=Tryz.call63
theorem eI:CF Tryz.prog 66:=Tryz.call66
theorem aO:CF Tryz.prog 37:=Tryz.call37
theorem bb:Ha Tryz.prog 41 [(0,1),(1,1),(2,1),(3,1)]:=⟨_,Tryz.underlying41,fun w=>by simp [DJ w,Et w]⟩
theorem Xk:ZV Tryz.prog 41 (.agg (BF.enc (default:BF)).toArray):=FP (by kernel_rfl)
theorem JQ:CF Tryz.prog 38:=Tryz.call38
theorem aa:CF Tryz.prog 21:=Tryz.call21
theorem W1:FA Tryz.prog 44 0 0:=Bz Tryz.underlying44 rfl dV
theorem X1:P2 Tryz.prog 42:=JY Tryz.underlying42 rfl
theorem bL:CF Tryz.prog 24:=Tryz.call24
theorem bY:CF Tryz.prog 26:=Tryz.call26
theorem en:CF Tryz.prog 33:=Tryz.call33
theorem ZN:Sz Tryz.prog 41 4:=D3 (by kernel_rfl)
theorem bq:IS Tryz.prog 22 4:=Ns Tryz.underlying22 ZN
theorem Cm:Nk Tryz.prog 41 4:=FF Tryz.underlying41 rfl ZN
theorem dQ:CF Tryz.prog 28:=Tryz.call28
theorem eH:CF Tryz.prog 39:=Tryz.call39
theorem bt:CF Tryz.prog 32:=Tryz.call32
theorem eV:CF Tryz.prog 40:=Tryz.call40
theorem eM:XC Tryz.prog 1 42 (fun n:Int=> .int .i64 n):=Zd Tryz.underlying42
theorem fi:XC Tryz.prog 1 9 (fun s:As=>BW s):=Y7 Tryz.underlying9
theorem dy:XC Tryz.prog 2 44 (fun x:BG=> .agg (BG.enc x).toArray):=UP Tryz.underlying44 (by kernel_rfl) (.cons (by decide) rfl (.inr ⟨X1,rfl,fun _=>rfl⟩) BG.l0 eM (by decide) (.cons (by decide) rfl (.inr ⟨CK,rfl,fun _=>rfl⟩) BG.l1 fi (by decide) .nil)) (fun x y=>by rw [Bool.eq_iff_iff];cases x;cases y;simp)
theorem Pm  (w:World):Ee Tryz.prog 15 #[] w fun v w'=>v = .agg AI.new.enc.toArray∧B9 w w':=by
 refine Ao [] [] Tryz.func15 rfl rfl rfl (St.start w []) ?_
 refine Gs ?_
 refine A6 rfl NX rfl (fun b1=>?_)
 refine AT (AA (Gs ?_))
 refine A6 rfl NX rfl (fun b2=>?_)
 refine AT (AA (CH ?_))
 refine Gt (E7 Tryz.underlying23 DJ V9 rfl (.cons (AQ.arr (n:=6) (i:=0) B5 (by decide) (by decide)) rfl rfl rfl (.cons (AQ.arr (n:=6) (i:=1) B5 (by decide) (by decide)) rfl rfl rfl (.cons (AQ.arr (n:=6) (i:=2) B5 (by decide) (by decide)) rfl rfl rfl (.cons (AQ.arr (n:=6) (i:=3) B5 (by decide) (by decide)) rfl rfl rfl (.cons (AQ.arr (n:=6) (i:=4) B5 (by decide) (by decide)) rfl rfl rfl (.cons (AQ.arr (n:=6) (i:=5) B5 (by decide) (by decide)) rfl rfl rfl .nil))))))) ?_
 refine Gt (E7 Tryz.underlying24 Ks cV rfl (.cons (AQ.arr (n:=6) (i:=5) HX (by decide) (by decide)) rfl rfl rfl .nil)) ?_
 refine Gt (BL WZ OX rfl (.cons Room.l0 rfl rfl rfl (.cons Room.l2 rfl rfl rfl (.cons Room.l3 rfl rfl rfl .nil)))) ?_
 refine Gt (E7 Tryz.underlying23 DJ V9 rfl (.cons (AQ.arr (n:=6) (i:=0) B5 (by decide) (by decide)) rfl rfl rfl (.cons (AQ.arr (n:=6) (i:=1) B5 (by decide) (by decide)) rfl rfl rfl (.cons (AQ.arr (n:=6) (i:=2) B5 (by decide) (by decide)) rfl rfl rfl (.cons (AQ.arr (n:=6) (i:=3) B5 (by decide) (by decide)) rfl rfl rfl (.cons (AQ.arr (n:=6) (i:=4) B5 (by decide) (by decide)) rfl rfl rfl (.cons (AQ.arr (n:=6) (i:=5) B5 (by decide) (by decide)) rfl rfl rfl .nil))))))) ?_
 refine Gt (BL WZ OX rfl (.cons Room.l0 rfl rfl rfl (.cons Room.l2 rfl rfl rfl .nil))) ?_
 refine Gt (E7 Tryz.underlying23 DJ V9 rfl (.cons (AQ.arr (n:=6) (i:=0) B5 (by decide) (by decide)) rfl rfl rfl (.cons (AQ.arr (n:=6) (i:=1) B5 (by decide) (by decide)) rfl rfl rfl (.cons (AQ.arr (n:=6) (i:=2) B5 (by decide) (by decide)) rfl rfl rfl (.cons (AQ.arr (n:=6) (i:=3) B5 (by decide) (by decide)) rfl rfl rfl (.cons (AQ.arr (n:=6) (i:=4) B5 (by decide) (by decide)) rfl rfl rfl (.cons (AQ.arr (n:=6) (i:=5) B5 (by decide) (by decide)) rfl rfl rfl .nil))))))) ?_
 refine Gt (BL WZ OX rfl (.cons Room.l0 rfl rfl rfl (.cons Room.l2 rfl rfl rfl (.cons Room.l1 rfl rfl rfl .nil)))) ?_
 refine Gt (E7 Tryz.underlying23 DJ V9 rfl (.cons (AQ.arr (n:=6) (i:=0) B5 (by decide) (by decide)) rfl rfl rfl (.cons (AQ.arr (n:=6) (i:=1) B5 (by decide) (by decide)) rfl rfl rfl (.cons (AQ.arr (n:=6) (i:=2) B5 (by decide) (by decide)) rfl rfl rfl (.cons (AQ.arr (n:=6) (i:=3) B5 (by decide) (by decide)) rfl rfl rfl (.cons (AQ.arr (n:=6) (i:=4) B5 (by decide) (by decide)) rfl rfl rfl (.cons (AQ.arr (n:=6) (i:=5) B5 (by decide) (by decide)) rfl rfl rfl .nil))))))) ?_
 refine Gt (BL WZ OX rfl (.cons Room.l0 rfl rfl rfl (.cons Room.l2 rfl rfl rfl (.cons Room.l1 rfl rfl rfl .nil)))) ?_
 refine Gt (E7 Tryz.underlying23 DJ V9 rfl (.cons (AQ.arr (n:=6) (i:=0) B5 (by decide) (by decide)) rfl rfl rfl (.cons (AQ.arr (n:=6) (i:=1) B5 (by decide) (by decide)) rfl rfl rfl (.cons (AQ.arr (n:=6) (i:=2) B5 (by decide) (by decide)) rfl rfl rfl (.cons (AQ.arr (n:=6) (i:=3) B5 (by decide) (by decide)) rfl rfl rfl (.cons (AQ.arr (n:=6) (i:=4) B5 (by decide) (by decide)) rfl rfl rfl (.cons (AQ.arr (n:=6) (i:=5) B5 (by decide) (by decide)) rfl rfl rfl .nil))))))) ?_
 refine Gt (E7 Tryz.underlying24 Ks cV rfl (.cons (AQ.arr (n:=6) (i:=2) HX (by decide) (by decide)) rfl rfl rfl .nil)) ?_
 refine Gt (BL WZ OX rfl (.cons Room.l0 rfl rfl rfl (.cons Room.l2 rfl rfl rfl (.cons Room.l3 rfl rfl rfl (.cons Room.l1 rfl rfl rfl .nil))))) ?_
 refine Gt (E7 Tryz.underlying23 DJ V9 rfl (.cons (AQ.arr (n:=6) (i:=0) B5 (by decide) (by decide)) rfl rfl rfl (.cons (AQ.arr (n:=6) (i:=1) B5 (by decide) (by decide)) rfl rfl rfl (.cons (AQ.arr (n:=6) (i:=2) B5 (by decide) (by decide)) rfl rfl rfl (.cons (AQ.arr (n:=6) (i:=3) B5 (by decide) (by decide)) rfl rfl rfl (.cons (AQ.arr (n:=6) (i:=4) B5 (by decide) (by decide)) rfl rfl rfl (.cons (AQ.arr (n:=6) (i:=5) B5 (by decide) (by decide)) rfl rfl rfl .nil))))))) ?_
 refine Gt (BL WZ OX rfl (.cons Room.l0 rfl rfl rfl (.cons Room.l2 rfl rfl rfl .nil))) ?_
 refine Xb (cs:=CM (n:=6) Room.enc (Vector.replicate 6 default)) (cs':=CM (n:=6) Room.enc AI.UI) rfl Tryz.underlying95 Q3 OX (by decide) (by decide) (by kernel_rfl) (.cons (AQ.arr (n:=6) (i:=0) Room.fl (by decide) (by decide)) rfl rfl rfl (.cons (AQ.arr (n:=6) (i:=1) Room.fl (by decide) (by decide)) rfl rfl rfl (.cons (AQ.arr (n:=6) (i:=2) Room.fl (by decide) (by decide)) rfl rfl rfl (.cons (AQ.arr (n:=6) (i:=3) Room.fl (by decide) (by decide)) rfl rfl rfl (.cons (AQ.arr (n:=6) (i:=4) Room.fl (by decide) (by decide)) rfl rfl rfl (.cons (AQ.arr (n:=6) (i:=5) Room.fl (by decide) (by decide)) rfl rfl rfl .nil)))))) rfl (fun b3=>?_)
 refine Gt (Av rfl Tryz.underlying95 rfl) (Gm rfl (Gn (.t5 0 1 20 21 22) (Ak ?_)))
 refine Bt (.t5 22 0 1 20 21) ?_
 refine BZ (.t .h) ?_
 refine Ch (fun(k:Int)=>0≤k∧k≤6) (fun(k:Int)=>(6 - k).toNat) (fun(k:Int)=> [(22, .int .i64 k)]) (fun(k:Int)=> [Af.box b2 35 (AI.enc (AI.TF k.toNat))]) (0) ?_ rfl rfl (fun k hI1=>?_)
 · exact⟨Int.le_refl _,by omega⟩
 obtain⟨hI11,hI12⟩:=hI1
 refine Gs (Gt (BC rfl rfl) (AT (AA (Au ?_))))
 refine Gc (fun c1=>?_) (fun c1=>?_)
 ·
  have c1p:=kz c1
  dsimp only at c1p
  refine Aa ?_
  refine AB (.t5 0 1 20 21 22) ?_
  refine AA (Au (Ak (Gs (Gm rfl ?_))))
  refine Gt (Bs dx (by decide) (Kn.own .m1) rfl rfl (by omega) (by dsimp only;omega)) ?_
  refine Gt (Qr rfl PO (by decide) Room.fl (Kn.own .m1) (by simp;omega)) ?_
  refine A6 rfl OX rfl (fun b4=>?_)
  refine Ga rfl ?_
  refine AO (AJ (AQ.id Room.fl.len Room.fl.one) rfl rfl rfl Q3 rfl .h) ?_
  refine Gn (.t7 0 1 2 3 20 21 22) (AK (Gm rfl (Gt (AU rfl PO .m0 (AQ.id Room.fl.len Room.fl.one) rfl) (Gt (Aj HE rfl) ?_))))
  refine Gt (AV OQ rfl rfl (by omega) (by omega)) ?_
  refine AO (AJ (AI.l0.comp (AQ.ar (n:=6) Room.fl (by omega))) rfl rfl rfl Q3 rfl (.t .h)) ?_
  refine AT (AB (.t5 0 1 20 21 22) ?_)
  refine AW (AA (AK ?_))
  refine Gt (Ay rfl rfl (IntWalk.i64_in _ (by omega))) ?_
  refine Gm rfl ?_
  refine AT (AB (.t5 0 1 20 21 22) ?_)
  refine B7 (k+1) ?_ ?_ (.t5 22 0 1 20 21) (by rw [AI.Wp (by omega)];exact(.cons _ (.refl _)))
  · exact⟨by omega,by omega⟩
  · omega
 have c1p:=kz c1
 dsimp only at c1p
 obtain rfl:k=6:=by omega
 refine Bl (AY (AY (Am ?_)))
 refine AB (.t2 0 1) ?_
 refine AA (CH (Gt (BL Qv Kq rfl (.cons Ap.l0 rfl rfl rfl (.cons Ap.l1 rfl rfl rfl .nil))) (Gt (BL Qv Kq rfl (.cons Ap.l0 rfl rfl rfl (.cons Ap.l1 rfl rfl rfl (.cons Ap.l3 rfl rfl rfl .nil)))) (Gt (BL Qv Kq rfl (.cons Ap.l0 rfl rfl rfl (.cons Ap.l1 rfl rfl rfl .nil))) (Gt (BL Qv Kq rfl (.cons Ap.l0 rfl rfl rfl (.cons Ap.l1 rfl rfl rfl (.cons Ap.l3 rfl rfl rfl .nil)))) (Gt (BL Qv Kq rfl (.cons Ap.l0 rfl rfl rfl (.cons Ap.l2 rfl rfl rfl (.cons Ap.l3 rfl rfl rfl .nil)))) (Gt (BL Qv Kq rfl (.cons Ap.l0 rfl rfl rfl (.cons Ap.l3 rfl rfl rfl .nil))) ?_)))))))
 refine Gt (BL Qv Kq rfl (.cons Ap.l0 rfl rfl rfl .nil)) (Gt (BL Qv Kq rfl (.cons Ap.l0 rfl rfl rfl (.cons Ap.l1 rfl rfl rfl (.cons Ap.l4 rfl rfl rfl .nil)))) (Gt (BL Qv Kq rfl (.cons Ap.l0 rfl rfl rfl (.cons Ap.l2 rfl rfl rfl (.cons Ap.l3 rfl rfl rfl .nil)))) ?_))
 refine Xb (cs:=CM (n:=9) Ap.enc (Vector.replicate 9 default)) (cs':=CM (n:=9) Ap.enc AI.Rh) rfl Tryz.underlying96 Nb Kq (by decide) (by decide) (by kernel_rfl) (.cons (AQ.arr (n:=9) (i:=0) Ap.fl (by decide) (by decide)) rfl rfl rfl (.cons (AQ.arr (n:=9) (i:=1) Ap.fl (by decide) (by decide)) rfl rfl rfl (.cons (AQ.arr (n:=9) (i:=2) Ap.fl (by decide) (by decide)) rfl rfl rfl (.cons (AQ.arr (n:=9) (i:=3) Ap.fl (by decide) (by decide)) rfl rfl rfl (.cons (AQ.arr (n:=9) (i:=4) Ap.fl (by decide) (by decide)) rfl rfl rfl (.cons (AQ.arr (n:=9) (i:=5) Ap.fl (by decide) (by decide)) rfl rfl rfl (.cons (AQ.arr (n:=9) (i:=6) Ap.fl (by decide) (by decide)) rfl rfl rfl (.cons (AQ.arr (n:=9) (i:=7) Ap.fl (by decide) (by decide)) rfl rfl rfl (.cons (AQ.arr (n:=9) (i:=8) Ap.fl (by decide) (by decide)) rfl rfl rfl .nil))))))))) rfl (fun b5=>?_)
 refine Gt (Av rfl Tryz.underlying96 rfl) (Gm rfl (Gn (.t5 0 1 41 42 43) (Ak ?_)))
 refine Bt (.t5 43 0 1 41 42) ?_
 refine BZ (.t .h) ?_
 refine Ch (fun(k:Int)=>0≤k∧k≤9) (fun(k:Int)=>(9 - k).toNat) (fun(k:Int)=> [(43, .int .i64 k)]) (fun(k:Int)=> [Af.box b2 35 (AI.enc (AI.Jy k.toNat))]) (0) ?_ rfl rfl (fun k hI2=>?_)
 · exact⟨Int.le_refl _,by omega⟩
 obtain⟨hI21,hI22⟩:=hI2
 refine Gs (Gt (BC rfl rfl) (AT (AA (Au ?_))))
 refine Gc (fun c2=>?_) (fun c2=>?_)
 ·
  have c2p:=kz c2
  dsimp only at c2p
  refine Aa ?_
  refine AB (.t5 0 1 41 42 43) ?_
  refine AA (Au (Ak (Gs (Gm rfl ?_))))
  refine Gt (Bs fJ (by decide) (Kn.own .m1) rfl rfl (by omega) (by dsimp only;omega)) ?_
  refine Gt (Qr rfl NI (by decide) Ap.fl (Kn.own .m1) (by simp;omega)) ?_
  refine A6 rfl Kq rfl (fun b6=>?_)
  refine Ga rfl ?_
  refine AO (AJ (AQ.id Ap.fl.len Ap.fl.one) rfl rfl rfl Nb rfl .h) ?_
  refine Gn (.t7 0 1 4 5 41 42 43) (AK (Gm rfl (Gt (AU rfl NI .m0 (AQ.id Ap.fl.len Ap.fl.one) rfl) (Gt (Aj Cz rfl) ?_))))
  refine Gt (AV Gd rfl rfl (by omega) (by omega)) ?_
  refine AO (AJ (AI.l1.comp (AQ.ar (n:=9) Ap.fl (by omega))) rfl rfl rfl Nb rfl (.t .h)) ?_
  refine AT (AB (.t5 0 1 41 42 43) ?_)
  refine AW (AA (AK ?_))
  refine Gt (Ay rfl rfl (IntWalk.i64_in _ (by omega))) ?_
  refine Gm rfl ?_
  refine AT (AB (.t5 0 1 41 42 43) ?_)
  refine B7 (k+1) ?_ ?_ (.t5 43 0 1 41 42) (by rw [AI.WV (by omega)];exact(.cons _ (.refl _)))
  · exact⟨by omega,by omega⟩
  · omega
 have c2p:=kz c2
 dsimp only at c2p
 obtain rfl:k=9:=by omega
 refine Bl (AY (AY (Am ?_)))
 refine AB (.t2 0 1) ?_
 refine AA (Gs (Gt (BL Yn L0 rfl (.cons An.l0 rfl rfl rfl (.cons An.l1 rfl rfl rfl (.cons An.l2 rfl rfl rfl (.cons An.l4 rfl rfl rfl .nil))))) (Gt (Aj Br rfl) ?_)))
 refine Gt (AV DB rfl rfl (by decide) (by decide)) ?_
 refine AO (AJ (AI.l2.comp (AQ.arr (n:=6) An.fl (by decide) (by decide))) rfl rfl rfl Kr rfl .h) ?_
 refine Gn (.t2 0 1) (Gs (Gt (BL Yn L0 rfl (.cons An.l0 rfl rfl rfl (.cons An.l1 rfl rfl rfl (.cons An.l3 rfl rfl rfl (.cons An.l4 rfl rfl rfl .nil))))) (Gt (Aj Br rfl) ?_)))
 refine Gt (AV DB rfl rfl (by decide) (by decide)) ?_
 refine AO (AJ (AI.l2.comp (AQ.arr (n:=6) An.fl (by decide) (by decide))) rfl rfl rfl Kr rfl .h) ?_
 refine Gn (.t2 0 1) (Gs (Gt (AU rfl Be .m0 (AQ.id AI.fl.len AI.fl.one) rfl) ?_))
 refine AO (AJ (AQ.id AI.fl.len AI.fl.one) rfl rfl rfl EE rfl (.t (.t (.t .h)))) ?_
 refine Gn (.t1 0) (Ae ?_)
 refine AZ rfl (.cell rfl .m3 (.inl ⟨(by rw [AI.fl.len];exact Be),rfl⟩) .n) ?_
 intro w1 hS;refine⟨?_,hS.Al⟩;rfl
theorem Hb  : Jp Tryz.prog 37 #[] [] (fun v B=>∃(b:Nat) (V:AL) (ls:Vector BI 4) (ev:List Ing.Event),v = .pointer (some ⟨b,0,none⟩)∧A4 V ls ev=AH.new∧B = [Af.box b 101 (AL.enc V),Af.D0 (CJ 9 (AL.Ar V) ls),Af.own (AL.last V) 56 16 ((ev).flatMap Ing.Event.enc)]):=by
 intro w hS0
 refine Ao _ _ Tryz.func37 rfl rfl rfl (hS0) ?_
 refine Gs (Ga rfl (Gn (.nil _) (Gs ?_)))
 refine BE rfl eR .n (fun w hS=>Pm w) ?_
 refine Gt (BL bo cQ rfl (.cons AL.l0 rfl rfl rfl .nil)) ?_
 refine B4 rfl rfl rfl (fun b1=>?_)
 refine Ga rfl (Gn (.t1 0) (Ae ?_))
 refine AZ rfl (.tmp rfl .n) ?_
 intro w1 hS
 have hS:=(hS.perm (Ax.perm (.c .h .n))).A3
 have h2:=(St.Ys hS (l:=CJ 9 Nn Ng) (fun r hr=>Xu 9 w1 r hr)).Cr 56 16
 refine⟨_,⟨b1,⟨AI.new,Nn,0,⟨none,0,0⟩⟩,Ng,[],rfl,rfl,rfl⟩,h2.perm (ZI _ _ _)⟩
theorem B1 {t0:Nat}(h:Hd)(xs:List As)(hb:xs.length≤17592186044416):Fx Tryz.prog 69 #[h.val] [] (fun w=>Rd w h t0 1 (xs.flatMap A9)) (fun v B=>∃ h':Hd,v=h'.val∧h'.len=xs.length∧B = [Af.own h' 9 1 (xs.flatMap A9)]):=by
 intro w hS0 hH
 have r0:=hH
 have hl:=r0.K5 DZ (by decide)
 refine Ao _ _ Tryz.func69 rfl rfl rfl (hS0) ?_
 refine Gs (Ga rfl (Gn (.t1 0) (CH (Gm rfl (Gt (Tn Tryz.underlying52 rfl) (Gn (.t2 0 4) ?_))))))
 refine Gc (fun c1=>?_) (fun c1=>?_)
 ·
  refine Gs (Ga rfl (Gn (.t1 2) (Ae (AE ?_))))
  refine AZ rfl (.tmp rfl .n) ?_
  intro w1 hS
  have hS:=(hS.perm (Ax.perm .n)).A3
  have hx:xs = []:=by
    rcases xs with _ | ⟨x,xs⟩
    · rfl
    · exfalso
      obtain⟨b,o,C,fz,e1,_⟩:=r0.2 (by simp [A9])
      rw [e1] at c1
      cases c1
  subst hx
  exact⟨_,⟨⟨none,0,0⟩,rfl,rfl,rfl⟩,hS.Cr _ _⟩
 have c1p:=kz c1
 refine Aa ?_
 refine AB (.t1 0) ?_
 refine AA (Gs ?_)
 refine Zj A9 rfl Tryz.underlying52 Et (fun b1=>?_)
 refine Gm rfl ?_
 refine JH (e:=A9) rfl Tryz.underlying52 Et Sk rfl Xh (by decide) rfl rfl (fun w hS=>Src.D9 Tryz.underlying52 ((Kn.HJ r0) w hS)) rfl rfl (by omega) (fun _=> .h) (fun h1 h1l=>?_)
 refine Ga rfl (Gn (.t1 2) (Ae ?_))
 refine AZ rfl (.tmp rfl .n) ?_
 intro w1 hS
 have hS:=(hS.perm (Ax.perm (.c .h .n))).A3
 exact⟨_,⟨_,rfl,by omega,rfl⟩,hS⟩
theorem Nt {t0:Nat}(l:BK)(qs:List As)(hb:qs.length≤17592186044416):Fx Tryz.prog 91 #[.agg l.enc.toArray] [] (fun w=>Rd w l.queue t0 1 (qs.flatMap A9)∧l.queue.len≤l.queue.cap) (fun v B=>(qs = []∧v = .tuple #[.agg l.enc.toArray,BW [], .bool false]∧B = [])∨(∃ q r,qs=q :: r∧∃ h':Hd,v = .tuple #[.agg (BK.enc ⟨l.now,l.CL,l.ret,h'⟩).toArray,BW q, .bool true]∧h'.len=r.length∧B = [Af.own h' 9 1 (r.flatMap A9)])):=by
 intro w hS0 hH
 obtain⟨r0,k0⟩:=hH
 have hl0:=r0.K5 DZ (by decide)
 refine Ao _ _ Tryz.func91 rfl rfl rfl (hS0) ?_
 refine Gs ?_
 refine B4 rfl rfl rfl (fun b1=>?_)
 refine A6 rfl ZX rfl (fun b2=>?_)
 refine Ga rfl (Ga rfl (Gn (.t2 1 2) (CH (Gt (Aj Ew rfl) (Gt (AG rfl Ej .m1 BK.l3 rfl rfl) (Gt (Av rfl Tryz.underlying52 rfl) (Gt (Ai rfl rfl) ?_)))))))
 refine Gn (.t3 1 2 9) ?_
 refine Gc (fun c1=>?_) (fun c1=>?_)
 ·
  have c1p:=kz c1
  have hq:qs = []:=List.length_eq_zero_iff.1 (by omega)
  refine Gs (Gt (AU rfl IH .m1 (AQ.id BK.fl.len BK.fl.one) rfl) ?_)
  refine AO (AJ (AQ.id BK.fl.len BK.fl.one) rfl rfl rfl Mf rfl .h) ?_
  refine Ga rfl (Ga rfl (Gn (.t3 2 3 4) (Ae (AE ?_))))
  refine AZ rfl (.cell rfl .m0 (.inl ⟨(by rw [BK.fl.len];exact IH),rfl⟩) (.tmp rfl (.tmp rfl .n))) ?_
  intro w1 hS
  have hS:=(hS.perm (Ax.perm .n)).A3
  exact⟨_, .inl ⟨hq,rfl,rfl⟩,hS⟩
 have c1p:=kz c1
 obtain⟨q,r,rfl⟩:=Bj.VA (qs:=qs) (by omega)
 rw [List.length_cons] at hl0 hb
 refine Aa ?_
 refine AB (.t2 1 2) ?_
 refine AA (Gs (Gt (Aj Ew rfl) (Gt (AG rfl Ej .m1 BK.l3 rfl rfl) ?_)))
 refine Gt (Bs Ir (by decide) (Kn.HJ r0) rfl rfl (by omega) (by omega)) ?_
 refine Gt (DO rfl CK (Kn.HJ r0) (by simp)) ?_
 refine Ga rfl (Gn (.t3 1 2 5) (Gs (Gt (Aj Ew rfl) (Gt (AG rfl Ej .m1 BK.l3 rfl rfl) ?_))))
 refine Gt (Sn Tryz.underlying52 Et rfl rfl (by decide) (by omega)) ?_
 refine BB rfl WU (.c rfl .n) .n (B1 _ r (by omega)) (fun w hS=>by have h:=(Kn.cut (l:=1) (r:=l.queue.len) DZ (Kn.HJ r0) (by omega) (Nat.le_refl _) (WY.of k0)) w hS;rw [show(((q :: r).take l.queue.len).drop 1)=r from by rw [List.take_of_length_le (by simp;omega)];rfl] at h;exact h) (fun v2 B hv=>?_)
 obtain⟨y3,rfl,y4,rfl⟩:=hv
 refine Gt (Aj Ew rfl) ?_
 refine AO (AJ BK.l3 rfl rfl rfl MY rfl (.t (.t .h))) ?_
 refine Gn (.t3 1 2 5) (Gs (Gt (AU rfl IH .m2 (AQ.id BK.fl.len BK.fl.one) rfl) (Gm rfl ?_)))
 refine AO (AJ (AQ.id BK.fl.len BK.fl.one) rfl rfl rfl Mf rfl (.t .h)) ?_
 refine Ga rfl (Ga rfl (Gn (.t3 2 3 4) (Ae ?_)))
 refine AZ rfl (.cell rfl .m1 (.inl ⟨(by rw [BK.fl.len];exact IH),rfl⟩) (.tmp rfl (.tmp rfl .n))) ?_
 intro w1 hS
 have hS:=(hS.perm (Ax.perm (.c .h .n))).A3
 exact⟨_, .inr ⟨q,r,rfl,_,rfl,by assumption,rfl⟩,hS⟩
theorem NZ (p:Aw)(w:World):Ee Tryz.prog 92 #[.agg p.enc.toArray] w fun v w'=>v = .agg (Aw.enc ⟨p.wait,0,false,p.ring,p.cut⟩).toArray∧B9 w w':=by
 refine Ao [] [] Tryz.func92 rfl rfl rfl (St.start w []) ?_
 refine Gs ?_
 refine B4 rfl rfl rfl (fun b1=>?_)
 refine A6 rfl UL rfl (fun b2=>?_)
 refine Gn (.t2 1 2) (Gs (Gt (Aj M1 rfl) ?_))
 refine AO (AJ Aw.l2 rfl rfl rfl Ks rfl (.t .h)) ?_
 refine Gt (Aj KC rfl) ?_
 refine AO (AJ Aw.l1 rfl rfl rfl DJ rfl (.t .h)) ?_
 refine Gn (.t2 1 2) (Gs (Gt (AU rfl Cv .m1 (AQ.id Aw.fl.len Aw.fl.one) rfl) ?_))
 refine AO (AJ (AQ.id Aw.fl.len Aw.fl.one) rfl rfl rfl Fb rfl .h) ?_
 refine Gn (.t1 2) (Ae ?_)
 refine AZ rfl (.cell rfl .m0 (.inl ⟨(by rw [Aw.fl.len];exact Cv),rfl⟩) .n) ?_
 intro w1 hS;refine⟨?_,hS.Al⟩;rfl
theorem He (s:As)(c:UInt8)(hs:s.length≤10000000)(w:World):Ee Tryz.prog 116 #[BW s, .int .u8 (c.toNat:Int)] w fun v w'=>v=BW (Words.Rn c s)∧B9 w w':=by
 refine Ao [] [] Tryz.func116 rfl rfl rfl (St.start w []) ?_
 refine Gs (Ga rfl (Gn (.t2 0 1) (Au (Ak ?_))))
 refine Bt (.t2 0 1) ?_
 refine Ch (fun(r:As)=>Words.Rn c s=Words.Rn c r∧r.length≤s.length) (fun(r:As)=>r.length) (fun(r:As)=> [(0,BW r)]) (fun(r:As)=> []) (s) ?_ rfl rfl (fun r hI1=>?_)
 · exact⟨rfl,Nat.le_refl _⟩
 obtain⟨hI11,hI12⟩:=hI1
 refine CH (Gm rfl (Gt (BO rfl Tryz.underlying9 rfl) (Gt (Cn rfl rfl) (Gm rfl (Bg 8 rfl rfl (fun q=>AD rfl) (Bg 8 rfl rfl (fun q=>AD rfl) (Bg 8 rfl rfl (fun q=>BO rfl Tryz.underlying9 (Bc rfl q)) ?_)))))))
 refine Bg 8 rfl rfl (fun q=>by have q1:=q;(try simp at q1);exact Fi (Bc rfl q) rfl (IntWalk.i64_in _ (by omega))) ?_
 refine Bg 8 rfl rfl (fun q=>by have q1:=q;(try simp at q1);exact Bp Tryz.underlying9 (Bc rfl q) (Bc rfl q) (by omega) (by omega)) ?_
 refine Bg 8 rfl rfl (fun q=>AD rfl) (Bg 8 rfl rfl (fun q=>Ai (Bc rfl q) (Bc rfl q)) (Gt (BM rfl rfl (fun h=>h)) (Gn (.t3 0 1 16) ?_)))
 refine Gc (fun c1=>?_) (fun c1=>?_)
 ·
  have c1p:=kz c1
  have hlt:0 < r.length:=by simp at c1;omega
  refine Aa ?_
  refine AB (.t2 0 1) ?_
  refine AA (Ak (AK (Gm rfl (Gm rfl (Gt (BO rfl Tryz.underlying9 rfl) ?_)))))
  refine Gt (Fi rfl rfl (IntWalk.i64_in _ (by omega))) ?_
  refine Gt (I7 Tryz.underlying9 rfl rfl (by omega) (by omega)) ?_
  refine Ga rfl ?_
  refine AT (AB (.t2 0 1) ?_)
  refine AW ?_
  refine B7 _ ?_ ?_ (.t2 0 1) (.refl _)
  · exact⟨by rw [hI11,Words.cD c1]<;>rfl,by first | (simp;done) | (simp;omega)⟩
  · first | (simp;done) | (simp;omega)
 refine Bl (AY (AY (Am ?_)))
 refine AB (.t1 0) ?_
 refine AA (Gs (Gm rfl (Ga rfl (Gn (.t1 4) (Ae ?_)))))
 refine AZ rfl (.tmp rfl .n) ?_
 intro w1 hS;refine⟨?_,hS.Al⟩;rw [hI11,Words.cB c1];rfl
theorem FD (s:As)(c:UInt8)(hs:s.length≤10000000)(w:World):Ee Tryz.prog 115 #[BW s, .int .u8 (c.toNat:Int)] w fun v w'=>v=BW (Words.Pe c s)∧B9 w w':=by
 refine Ao [] [] Tryz.func115 rfl rfl rfl (St.start w []) ?_
 refine Gs (Ga rfl (Gn (.t2 0 1) (Au (Ak ?_))))
 refine Bt (.t2 0 1) ?_
 refine Ch (fun(r:As)=>Words.Pe c s=Words.Pe c r∧r.length≤s.length) (fun(r:As)=>r.length) (fun(r:As)=> [(0,BW r)]) (fun(r:As)=> []) (s) ?_ rfl rfl (fun r hI1=>?_)
 · exact⟨rfl,Nat.le_refl _⟩
 obtain⟨hI11,hI12⟩:=hI1
 refine CH (Gm rfl (Gt (BO rfl Tryz.underlying9 rfl) (Gt (Cn rfl rfl) (Gm rfl (Bg 8 rfl rfl (fun q=>AD rfl) ?_)))))
 refine Bg 8 rfl rfl (fun q=>by have q1:=q;(try simp at q1);exact Bp Tryz.underlying9 (Bc rfl q) rfl (by decide) (by omega)) ?_
 refine Bg 8 rfl rfl (fun q=>AD rfl) (Bg 8 rfl rfl (fun q=>Ai (Bc rfl q) (Bc rfl q)) (Gt (BM rfl rfl (fun h=>h)) (Gn (.t3 0 1 13) ?_)))
 refine Gc (fun c1=>?_) (fun c1=>?_)
 ·
  have c1p:=kz c1
  have hlt:0 < r.length:=by simp at c1;omega
  refine Aa ?_
  refine AB (.t2 0 1) ?_
  refine AA (Ak (AK (Gm rfl ?_)))
  refine Gt (Gy Tryz.underlying9 rfl rfl (by decide) (by omega)) ?_
  refine Ga rfl ?_
  refine AT (AB (.t2 0 1) ?_)
  refine AW ?_
  refine B7 _ ?_ ?_ (.t2 0 1) (.refl _)
  · exact⟨by rw [hI11,Words.dT c1]<;>rfl,by first | (simp;done) | (simp;omega)⟩
  · first | (simp;done) | (simp;omega)
 refine Bl (AY (AY (Am ?_)))
 refine AB (.t1 0) ?_
 refine AA (Gs (Gm rfl (Ga rfl (Gn (.t1 4) (Ae ?_)))))
 refine AZ rfl (.tmp rfl .n) ?_
 intro w1 hS;refine⟨?_,hS.Al⟩;rw [hI11,Words.db c1];rfl
theorem IB (s:As)(hs:s.length≤10000000)(w:World):Ee Tryz.prog 94 #[BW s,BW [32]] w fun v w'=>v=BW (Words.Pe 32 (Words.Rn 32 s))∧B9 w w':=by
 refine Ao [] [] Tryz.func94 rfl rfl rfl (St.start w []) ?_
 refine Gs (Ga rfl (Gn (.t2 0 1) (CH (Gm rfl (Gt (Bv rfl rfl) (Gm rfl (Bf 9 rfl rfl (fun q=>AD rfl) ?_)))))))
 refine Bf 9 rfl rfl (fun q=>Bv (cF rfl q) rfl) ?_
 refine Gt (BU rfl rfl (fun h=>by rw [h];rfl)) ?_
 refine Gn (.t3 0 1 12) ?_
 refine Gc (fun c1=>?_) (fun c1=>?_)
 ·
  refine Gs (Gm rfl (Ga rfl (Gn (.t1 4) (Ae (AE ?_)))))
  refine AZ rfl (.tmp rfl .n) ?_
  intro w1 hS;refine⟨?_,hS.Al⟩;have e:s = []:=by simpa using c1
  subst e;rfl
 have c1p:=kz c1
 refine Aa ?_
 refine AB (.t2 0 1) ?_
 refine AA (CH (Gm rfl (Gt (BO rfl Tryz.underlying9 rfl) (Gt (Ai rfl rfl) (Gm rfl (Bg 17 rfl rfl (fun q=>AD rfl) ?_))))))
 refine Bg 17 rfl rfl (fun q=>by have q1:=q;(try simp at q1);exact Bp Tryz.underlying9 (Bc rfl q) rfl (by decide) (by(try simp only [List.length_cons,List.length_nil]);omega)) ?_
 refine Bg 17 rfl rfl (fun q=>BC (Bc rfl q) rfl) (Gt (BM rfl rfl (fun h=>h)) (Gn (.t3 0 1 21) ?_))
 refine HG rfl rfl ?_
 refine Au ?_
 refine BN (N:=8) [0,0,2,7,0,16,63,127] mix (by kernel_rfl) rfl ?_
 refine Pf 0 rfl (AD rfl) (Pf 1 rfl (AD rfl) ?_)
 refine Pf 2 rfl (Bp Tryz.underlying9 rfl rfl (by decide) (by(try simp only [List.length_cons,List.length_nil]);omega)) ?_
 refine Bh 3 rfl rfl (by kernel_rfl) (Lv (K3 (EB dF (.c rfl (.c rfl .n)) (fun w hS=>He _ 32 hs w)))) ?_
 refine Pf 4 rfl (AD rfl) ?_
 refine Pf 5 rfl (Bp Tryz.underlying9 rfl rfl (by decide) (by(try simp only [List.length_cons,List.length_nil]);omega)) ?_
 refine Bh 6 rfl rfl (by kernel_rfl) (Lv (K3 (EB aA (.c rfl (.c rfl .n)) (fun w hS=>FD _ 32 (by have:=Words.RJ 32 s;omega) w)))) ?_
 refine Pf 7 rfl (A1 rfl) ?_
 refine Az (by kernel_rfl) ?_
 refine AB (.t1 4) ?_
 refine AA (Ae (AE ?_))
 refine AZ rfl (.tmp rfl .n) ?_
 intro w1 hS;refine⟨?_,hS.Al⟩;rfl
theorem Kw (X:AI)(i:Int)(h0:0≤i)(h9:i < 9)(w:World):Ee Tryz.prog 68 #[.agg X.enc.toArray, .int .i64 i] w fun v w'=>v = .bool (X.Ck i)∧B9 w w':=by
 refine Ao [] [] Tryz.func68 rfl rfl rfl (St.start w []) ?_
 refine Gs ?_
 refine B4 rfl rfl rfl (fun b1=>?_)
 refine Ga rfl (Gn (.t2 1 2) (Gs (Gm rfl (Gt (Aj Cz rfl) ?_))))
 refine Gt (AV Gd rfl rfl (by omega) (by omega)) ?_
 refine Gt (AU rfl NI .m0 (AI.l1.comp (AQ.ar (n:=9) Ap.fl (by omega))) rfl) ?_
 refine A6 rfl Kq rfl (fun b2=>?_)
 refine AO (AJ (AQ.id Ap.fl.len Ap.fl.one) rfl rfl rfl Nb rfl .h) ?_
 refine Gn (.t2 2 5) (CH (Gt (Aj HC rfl) (Gt (AG rfl A5 .m0 Ap.l1 rfl rfl) (Gt (BC rfl rfl) (Gm rfl (Bf 15 rfl rfl (fun q=>Aj HC rfl) (Bf 15 rfl rfl (fun q=>AG (cF rfl q) A5 .m0 Ap.l1 rfl rfl) ?_)))))))
 refine Bf 15 rfl rfl (fun q=>Cn (cF rfl q) rfl) ?_
 refine Gt (BU rfl rfl (fun h=>by rw [h];rfl)) ?_
 refine Gm rfl (Bf 20 rfl rfl (fun q=>Aj HC rfl) (Bf 20 rfl rfl (fun q=>AG (cF rfl q) A5 .m0 Ap.l1 rfl rfl) (Bf 20 rfl rfl (fun q=>Ai (cF rfl q) rfl) (Bf 20 rfl rfl (fun q=>AD (cF rfl q)) ?_))))
 refine C8 (t:=24) rfl rfl rfl (fun qc q=>Aj GX rfl) ?_
 refine C8 (t:=24) rfl rfl rfl (fun qc q=>AG (Bc rfl (by rw [qc,q];rfl)) DM .m0 Ap.l4 rfl rfl) ?_
 refine Bf 20 rfl rfl (fun q=>BM (cF rfl q) rfl (fun h=>by rw [q,h];rfl)) ?_
 refine Gt (BU rfl rfl (fun h=>by rw [h];rfl)) ?_
 refine Gm rfl (Bf 29 rfl rfl (fun q=>Aj DN rfl) (Bf 29 rfl rfl (fun q=>AG (cF rfl q) A5 .m0 Ap.l3 rfl rfl) (Bf 29 rfl rfl (fun q=>BC (cF rfl q) rfl) ?_)))
 refine Gt (BU rfl rfl (fun h=>by rw [h];rfl)) ?_
 refine Gn (.t3 2 5 33) ?_
 refine Gc (fun c1=>?_) (fun c1=>?_)
 ·
  refine Gs (Ga rfl (Gn (.t1 4) (Ae (AE ?_))))
  refine AZ rfl (.tmp rfl .n) ?_
  intro w1 hS;refine⟨congrArg Value.bool ?_,hS.Al⟩;simp only [AI.Ck,c1,↓reduceIte,Bool.false_eq_true]
 have c1p:=kz c1
 refine Aa ?_
 refine AB (.t2 2 5) ?_
 refine AA (Gs (Gt (Aj HC rfl) (Gt (AG rfl A5 .m0 Ap.l1 rfl rfl) (Gt (Ai rfl rfl) (Gm rfl (Bg 37 rfl rfl (fun q=>Aj GX rfl) (Bg 37 rfl rfl (fun q=>AG (Bc rfl q) DM .m0 Ap.l4 rfl rfl) ?_)))))))
 refine Gt (BM rfl rfl (fun h=>h)) (Ga rfl (Gn (.t3 2 5 6) (CH (Gt (Aj Fh rfl) (Gt (AG rfl A5 .m0 Ap.l2 rfl rfl) (Gn (.t4 2 5 6 42) (Ak ?_)))))))
 refine Gs (Gt (Ai rfl rfl) (Ga rfl (Gn (.t5 2 5 6 42 43) ?_)))
 refine Gc (fun c2=>?_) (fun c2=>?_)
 ·
  refine Gs (Gt (Aj DN rfl) (Gt (AG rfl A5 .m0 Ap.l3 rfl rfl) (Gt (BC rfl rfl) (Gm rfl (Bg 48 rfl rfl (fun q=>AD rfl) (Bg 48 rfl rfl (fun q=>BX (Bc rfl q)) (Gt (BM rfl rfl (fun h=>h)) ?_)))))))
  refine Ga rfl (Gn (.t1 4) (Ae (AS (AE ?_))))
  refine AZ rfl (.tmp rfl .n) ?_
  intro w1 hS;refine⟨congrArg Value.bool ?_,hS.Al⟩;simp only [AI.Ck,c1,c2,↓reduceIte,Bool.false_eq_true]
 have c2p:=kz c2
 refine Gs (Gt (Ai rfl rfl) (Ga rfl (Gn (.t5 2 5 6 42 52) ?_)))
 refine Gc (fun c3=>?_) (fun c3=>?_)
 ·
  have c3p:=kz c3
  refine Gs (Gt (Aj DN rfl) (Gt (AG rfl A5 .m0 Ap.l3 rfl rfl) (Gt (BC rfl rfl) (Gm rfl (Bg 57 rfl rfl (fun q=>Aj DN rfl) (Bg 57 rfl rfl (fun q=>AG (Bc rfl q) A5 .m0 Ap.l3 rfl rfl) (Bg 57 rfl rfl (fun q=>Aj Br rfl) ?_)))))))
  refine Bg 57 rfl rfl (fun q=>by have q1:=q;(try simp at q1);exact AV DB (Bc rfl q) (Bc rfl q) (by omega) (by omega)) ?_
  refine Bg 57 rfl rfl (fun q=>Aj Ij (Bc rfl q)) ?_
  refine Bg 57 rfl rfl (fun q=>by have q1:=q;(try simp at q1);exact AG (Bc rfl q) DM .m1 ((AI.l2.comp (AQ.ar (n:=6) An.fl (by omega))).comp An.l1) rfl rfl) ?_
  refine Gt (BM rfl rfl (fun h=>h)) (Ga rfl (Gn (.t1 4) (Ae (AS (AE ?_)))))
  refine AZ rfl (.tmp rfl .n) ?_
  intro w1 hS;refine⟨congrArg Value.bool ?_,hS.Al⟩;simp only [AI.Ck,c1,c2,c3,↓reduceIte,Bool.false_eq_true]
 have c3p:=kz c3
 refine Gs (Gt (Ai rfl rfl) (Ga rfl (Gn (.t4 2 5 6 65) ?_)))
 refine Gc (fun c4=>?_) (fun c4=>?_)
 ·
  have c4p:=kz c4
  refine CH (Gt (Aj DN rfl) (Gt (AG rfl A5 .m0 Ap.l3 rfl rfl) (Gt (CO rfl rfl) (Gm rfl (Bf 70 rfl rfl (fun q=>Aj DN rfl) (Bf 70 rfl rfl (fun q=>AG (cF rfl q) A5 .m0 Ap.l3 rfl rfl) (Bf 70 rfl rfl (fun q=>Aj Cz rfl) ?_)))))))
  refine Bf 70 rfl rfl (fun q=>by have q1:=q;(try simp at q1);exact AV Gd (cF rfl q) (cF rfl q) (by omega) (by omega)) ?_
  refine Bf 70 rfl rfl (fun q=>Aj HC (cF rfl q)) ?_
  refine Bf 70 rfl rfl (fun q=>by have q1:=q;(try simp at q1);exact AG (cF rfl q) A5 .m1 ((AI.l1.comp (AQ.ar (n:=9) Ap.fl (by omega))).comp Ap.l1) rfl rfl) ?_
  refine Bf 70 rfl rfl (fun q=>Cb (cF rfl q) rfl) ?_
  refine Gt (BU rfl rfl (fun h=>by rw [h];rfl)) ?_
  refine Gm rfl (Bf 79 rfl rfl (fun q=>AD rfl) ?_)
  refine Gt (BU rfl rfl (fun h=>by rw [h];rfl)) ?_
  refine Gn (.t3 2 5 81) ?_
  refine Gc (fun c5=>?_) (fun c5=>?_)
  ·
   refine Gs (Ga rfl (Gn (.t1 4) (Ae (AE (AS (AE ?_))))))
   refine AZ rfl (.tmp rfl .n) ?_
   intro w1 hS;refine⟨congrArg Value.bool ?_,hS.Al⟩;simp only [AI.Ck,c1,c2,c3,c4,c5,↓reduceIte,Bool.false_eq_true]
  have c5p:=kz c5
  refine Aa ?_
  refine AB (.t2 2 5) ?_
  refine AA (Gs (Gm rfl (AT (AA (Ak ?_)))))
  refine Bt (.t3 82 2 5) ?_
  refine Ho (fun(k:Int) (t:Ap)=>0≤k∧k≤10∧X.Ck i=X.J6 (10 - k).toNat t) (fun(k:Int) (t:Ap)=>(10 - k).toNat) (fun(k:Int) (t:Ap)=> [(82, .int .i64 k)]) (fun(k:Int) (t:Ap)=> [Af.box b2 29 (Ap.enc t)]) (0) (X.AP.at i) ?_ rfl rfl (fun k t hI1=>?_)
  · refine⟨Int.le_refl _,by omega,?_⟩;simp only [AI.Ck,c1,c2,c3,c4,c5,↓reduceIte,Bool.false_eq_true];rfl
  obtain⟨hI11,hI12,hI13⟩:=hI1
  refine Gs (Gt (BC rfl rfl) (AT (AA (Au ?_))))
  refine Gc (fun c6=>?_) (fun c6=>?_)
  ·
   have c6p:=kz c6
   rw [show(10 - k).toNat=(10 - (k+1)).toNat+1 from by omega,AI.J6,show decide ((10 - (k+1)).toNat=0)=decide (k=9) from decide_eq_decide.2 ⟨by omega,by omega⟩] at hI13
   refine Aa ?_
   refine AB (.t3 2 5 82) ?_
   refine AA (Au (Ak (Gs (Gm rfl (Ga rfl (Gn (.t4 2 5 7 82) (CH ?_)))))))
   refine Gt (Aj Fh rfl) (Gt (AG rfl A5 .m0 Ap.l2 rfl rfl) (Gt (Cb rfl rfl) (Gn (.t5 2 5 7 82 87) ?_)))
   refine Gc (fun c7=>?_) (fun c7=>?_)
   ·
    refine Gs (Ga rfl (Gn (.t1 4) (Ae (AE (AS (AE (AE ?_)))))))
    refine AS (AS (AE ?_))
    refine AZ rfl (.tmp rfl .n) ?_
    intro w1 hS;refine⟨congrArg Value.bool ?_,hS.Al⟩;rw [hI13];simp only [c1,c2,c3,c4,c5,c6,c7,↓reduceIte,Bool.false_eq_true]
   have c7p:=kz c7
   refine Aa ?_
   refine AB (.t4 2 5 7 82) ?_
   refine AA (CH (Gm rfl (Gt (Ai rfl rfl) (Gm rfl (Bf 90 rfl rfl (fun q=>Aj DN rfl) (Bf 90 rfl rfl (fun q=>AG (cF rfl q) A5 .m0 Ap.l3 rfl rfl) (Bf 90 rfl rfl (fun q=>BC (cF rfl q) rfl) ?_)))))))
   refine Gt (BU rfl rfl (fun h=>by rw [h];rfl)) ?_
   refine Gm rfl (Bf 95 rfl rfl (fun q=>Aj DN rfl) (Bf 95 rfl rfl (fun q=>AG (cF rfl q) A5 .m0 Ap.l3 rfl rfl) (Bf 95 rfl rfl (fun q=>CO (cF rfl q) rfl) ?_)))
   refine Gt (BU rfl rfl (fun h=>by rw [h];rfl)) ?_
   refine Gn (.t4 2 5 82 99) ?_
   refine Gc (fun c8=>?_) (fun c8=>?_)
   ·
    refine Gs (Ga rfl (Gn (.t1 4) (Ae (AE (AS (AE (AE ?_)))))))
    refine AS (AS (AE ?_))
    refine AZ rfl (.tmp rfl .n) ?_
    intro w1 hS;refine⟨congrArg Value.bool ?_,hS.Al⟩;rw [hI13];simp only [c1,c2,c3,c4,c5,c6,c7,c8,↓reduceIte,Bool.false_eq_true]
   have c8p:=kz c8
   refine Aa ?_
   refine AB (.t3 2 5 82) ?_
   refine AA (AK (Gt (Aj DN rfl) (Gt (AG rfl A5 .m0 Ap.l3 rfl rfl) (Gt (Aj Cz rfl) ?_))))
   refine Gt (AV Gd rfl rfl (by omega) (by omega)) ?_
   refine Gt (AU rfl NI .m1 (AI.l1.comp (AQ.ar (n:=9) Ap.fl (by omega))) rfl) ?_
   refine AO (AJ (AQ.id Ap.fl.len Ap.fl.one) rfl rfl rfl Nb rfl .h) ?_
   refine AT (AB (.t3 2 5 82) ?_)
   refine AW (AA (AK ?_))
   refine Gt (Ay rfl rfl (IntWalk.i64_in _ (by omega))) ?_
   refine Gm rfl ?_
   refine AT (AB (.t3 2 5 82) ?_)
   refine Dn (k+1) (X.AP.at t.at_) ?_ ?_ (.t3 82 2 5) (.refl _)
   · exact⟨by omega,by omega,by rw [hI13];simp only [c1,c2,c3,c4,c5,c6,c7,c8,↓reduceIte,Bool.false_eq_true]⟩
   · omega
  have c6p:=kz c6
  obtain rfl:k=10:=by omega
  refine Bl (AY (AY (Am ?_)))
  refine AB (.nil _) ?_
  refine AW (AA (Gs (Ga rfl (AT (AA (Ae ?_))))))
  refine AZ rfl (.tmp rfl .n) ?_
  intro w1 hS;refine⟨congrArg Value.bool ?_,hS.Al⟩;rw [hI13];rfl
 refine Aa ?_
 refine AB (.nil _) ?_
 refine AW (AA (Gs (Ga rfl (AT (AA (Ae ?_))))))
 refine AZ rfl (.tmp rfl .n) ?_
 intro w1 hS;refine⟨congrArg Value.bool ?_,hS.Al⟩;simp only [AI.Ck,c1,c2,c3,c4,↓reduceIte,Bool.false_eq_true]
theorem Hs (X:AI)(w:World):Ee Tryz.prog 43 #[.agg X.enc.toArray] w fun v w'=>v = .bool X.Bk∧B9 w w':=by
 refine Ao [] [] Tryz.func43 rfl rfl rfl (St.start w []) ?_
 refine Gs ?_
 refine B4 rfl rfl rfl (fun b1=>?_)
 refine Ga rfl (Gn (.t1 1) (CH (Gt (Aj HE rfl) (Gt (AU rfl dk .m0 AI.l0 rfl) (Gm rfl (Gn (.t3 1 11 12) (Ak ?_)))))))
 refine Bt (.t3 12 1 11) ?_
 refine Ch (fun(k:Int)=>0≤k∧k≤6∧X.Bk=(CA 6 X.MI (6 - k).toNat && (CA 6 (fun k=>!AI.Dq (X.AN.at k)) 6 && CA 9 X.Ck 9))) (fun(k:Int)=>(6 - k).toNat) (fun(k:Int)=> [(12, .int .i64 k)]) (fun(k:Int)=> []) (0) ?_ rfl rfl (fun k hI1=>?_)
 · exact⟨Int.le_refl _,by omega,rfl⟩
 obtain⟨hI11,hI12,hI13⟩:=hI1
 refine Gs (Gt (BC rfl rfl) (AT (AA (Au ?_))))
 refine Gc (fun c1=>?_) (fun c1=>?_)
 ·
  have c1p:=kz c1
  rw [Da _ (by omega)] at hI13
  refine Aa ?_
  refine AB (.t3 1 11 12) ?_
  refine AA (Au (Ak (Gs ?_)))
  refine Gt (GZ Room.fl Tryz.underlying27 PO rfl rfl (by omega) (by omega)) ?_
  refine A6 rfl OX rfl (fun b2=>?_)
  refine AO (AJ (AQ.id Room.fl.len Room.fl.one) rfl rfl rfl Q3 rfl .h) ?_
  refine Gn (.t4 1 4 11 12) (Gs (Gt (Aj Mm rfl) (Gt (AU rfl Z6 .m0 Room.l2 rfl) (Gm rfl (Gn (.t6 1 4 11 12 16 17) (Ak ?_))))))
  refine Bt (.t6 17 1 4 11 12 16) ?_
  refine Ch (fun(d:Int)=>0≤d∧d≤6∧X.MI k=CA 6 (fun d=>!AI.IC (X.BV.at k) d) (6 - d).toNat) (fun(d:Int)=>(6 - d).toNat) (fun(d:Int)=> [(17, .int .i64 d)]) (fun(d:Int)=> []) (0) ?_ rfl rfl (fun d hI2=>?_)
  · exact⟨Int.le_refl _,by omega,rfl⟩
  obtain⟨hI21,hI22,hI23⟩:=hI2
  refine Gs (Gt (BC rfl rfl) (AT (AA (Au ?_))))
  refine Gc (fun c2=>?_) (fun c2=>?_)
  ·
   have c2p:=kz c2
   rw [Da _ (by omega)] at hI23
   refine Aa ?_
   refine AB (.t6 1 4 11 12 16 17) ?_
   refine AA (Au (Ak (Gs (Gm rfl ?_))))
   refine Gt (KY B5 Tryz.underlying23 DJ A5 rfl rfl (by omega) (by omega) rfl) ?_
   refine Ga rfl (Ga rfl (Gn (.t8 1 4 5 6 11 12 16 17) (Gs (Gm rfl (Gt (BC rfl rfl) (Gm rfl (Bf 23 rfl rfl (fun q=>AD rfl) ?_)))))))
   refine Bf 23 rfl rfl (fun q=>Cn (cF rfl q) rfl) ?_
   refine Gt (BU rfl rfl (fun h=>by rw [h];rfl)) ?_
   refine Gm rfl (Bf 27 rfl rfl (fun q=>AD rfl) (Bf 27 rfl rfl (fun q=>Ai (cF rfl q) rfl) (Bf 27 rfl rfl (fun q=>AD (cF rfl q)) ?_)))
   refine C8 (t:=30) rfl rfl rfl (fun qc q=>AD rfl) ?_
   refine C8 (t:=30) rfl rfl rfl (fun qc q=>Aj Ma rfl) ?_
   refine C8 (t:=30) rfl rfl rfl (fun qc q=>by have q1:=q;have qc1:=qc;(try simp at q1 qc1);exact AV WD (Bc rfl (by rw [qc,q];rfl)) (Bc rfl (by rw [qc,q];rfl)) (by omega) (by omega)) ?_
   refine C8 (t:=30) rfl rfl rfl (fun qc q=>by have q1:=q;have qc1:=qc;(try simp at q1 qc1);exact AG (Bc rfl (by rw [qc,q];rfl)) DM .m0 (Room.l3.comp (AQ.ar (n:=6) HX (by omega))) rfl rfl) ?_
   refine Bf 27 rfl rfl (fun q=>BM (cF rfl q) rfl (fun h=>by rw [q,h];rfl)) ?_
   refine Gt (BU rfl rfl (fun h=>by rw [h];rfl)) ?_
   refine Gn (.t7 1 4 11 12 16 17 36) ?_
   refine Gc (fun c3=>?_) (fun c3=>?_)
   ·
    refine Gs (Ga rfl (Gn (.t1 2) (Ae (AS (AE (AE (AS ?_)))))))
    refine AS (AE (AE (AS (AE ?_))))
    refine AZ rfl (.tmp rfl .n) ?_
    intro w1 hS;refine⟨congrArg Value.bool ?_,hS.Al⟩;rw [hI13,hI23,AI.IC,c3];rfl
   have c3p:=kz c3
   refine Aa ?_
   refine AB (.t6 1 4 11 12 16 17) ?_
   refine AW (AA (AK ?_))
   refine Gt (Ay rfl rfl (IntWalk.i64_in _ (by omega))) ?_
   refine Gm rfl ?_
   refine AT (AB (.t6 1 4 11 12 16 17) ?_)
   refine B7 (d+1) ?_ ?_ (.t6 17 1 4 11 12 16) (.refl _)
   · exact⟨by omega,by omega,by rw [hI23,AI.IC,c3];rfl⟩
   · omega
  have c2p:=kz c2
  obtain rfl:d=6:=by omega
  refine Bl (AY (AY (Am ?_)))
  refine AB (.t3 1 11 12) ?_
  refine AW (AA (AK ?_))
  refine Gt (Ay rfl rfl (IntWalk.i64_in _ (by omega))) ?_
  refine Gm rfl ?_
  refine AT (AB (.t3 1 11 12) ?_)
  refine B7 (k+1) ?_ ?_ (.t3 12 1 11) (.cons _ (.refl _))
  · exact⟨by omega,by omega,by rw [hI13,hI23];rfl⟩
  · omega
 have c1p:=kz c1
 obtain rfl:k=6:=by omega
 refine Bl (AY (AY (Am ?_)))
 refine AB (.t1 1) ?_
 refine AA (CH (Gt (Aj Br rfl) (Gt (AU rfl Zw .m0 AI.l2 rfl) (Gm rfl (Gn (.t3 1 40 41) (Ak ?_))))))
 refine Bt (.t3 41 1 40) ?_
 refine Ch (fun(b:Int)=>0≤b∧b≤6∧X.Bk=(CA 6 (fun k=>!AI.Dq (X.AN.at k)) (6 - b).toNat && CA 9 X.Ck 9)) (fun(b:Int)=>(6 - b).toNat) (fun(b:Int)=> [(41, .int .i64 b)]) (fun(b:Int)=> []) (0) ?_ rfl rfl (fun b hI3=>?_)
 · exact⟨Int.le_refl _,by omega,hI13⟩
 obtain⟨hI31,hI32,hI33⟩:=hI3
 refine Gs (Gt (BC rfl rfl) (AT (AA (Au ?_))))
 refine Gc (fun c4=>?_) (fun c4=>?_)
 ·
  have c4p:=kz c4
  rw [Da _ (by omega)] at hI33
  refine Aa ?_
  refine AB (.t3 1 40 41) ?_
  refine AA (Au (Ak (Gs ?_)))
  refine Gt (GZ An.fl Tryz.underlying33 GC rfl rfl (by omega) (by omega)) ?_
  refine A6 rfl L0 rfl (fun b3=>?_)
  refine AO (AJ (AQ.id An.fl.len An.fl.one) rfl rfl rfl Kr rfl .h) ?_
  refine Gn (.t4 1 8 40 41) (Gs (Gt (Aj C9 rfl) (Gt (AG rfl A5 .m0 An.l3 rfl rfl) (Gt (BC rfl rfl) (Gm rfl (Bf 47 rfl rfl (fun q=>Aj C9 rfl) (Bf 47 rfl rfl (fun q=>AG (cF rfl q) A5 .m0 An.l3 rfl rfl) ?_)))))))
  refine Bf 47 rfl rfl (fun q=>CO (cF rfl q) rfl) ?_
  refine Gt (BU rfl rfl (fun h=>by rw [h];rfl)) ?_
  refine Gm rfl (Bf 52 rfl rfl (fun q=>Aj KJ rfl) (Bf 52 rfl rfl (fun q=>AG (cF rfl q) A5 .m0 An.l4 rfl rfl) (Bf 52 rfl rfl (fun q=>BC (cF rfl q) rfl) ?_)))
  refine Gt (BU rfl rfl (fun h=>by rw [h];rfl)) ?_
  refine Gm rfl (Bf 57 rfl rfl (fun q=>Aj KJ rfl) (Bf 57 rfl rfl (fun q=>AG (cF rfl q) A5 .m0 An.l4 rfl rfl) (Bf 57 rfl rfl (fun q=>Cn (cF rfl q) rfl) ?_)))
  refine Gt (BU rfl rfl (fun h=>by rw [h];rfl)) ?_
  refine Gm rfl (Bf 62 rfl rfl (fun q=>Aj GS rfl) (Bf 62 rfl rfl (fun q=>AG (cF rfl q) A5 .m0 An.l5 rfl rfl) (Bf 62 rfl rfl (fun q=>BC (cF rfl q) rfl) ?_)))
  refine Gt (BU rfl rfl (fun h=>by rw [h];rfl)) ?_
  refine Gm rfl (Bf 67 rfl rfl (fun q=>Aj GS rfl) (Bf 67 rfl rfl (fun q=>AG (cF rfl q) A5 .m0 An.l5 rfl rfl) (Bf 67 rfl rfl (fun q=>Cn (cF rfl q) rfl) ?_)))
  refine Gt (BU rfl rfl (fun h=>by rw [h];rfl)) ?_
  refine Gm rfl (Bf 72 rfl rfl (fun q=>Aj Ij rfl) (Bf 72 rfl rfl (fun q=>AG (cF rfl q) DM .m0 An.l1 rfl rfl) (Bf 72 rfl rfl (fun q=>BX (cF rfl q)) (Bf 72 rfl rfl (fun q=>AD (cF rfl q)) ?_))))
  refine C8 (t:=76) rfl rfl rfl (fun qc q=>Aj GS rfl) ?_
  refine C8 (t:=76) rfl rfl rfl (fun qc q=>AG (Bc rfl (by rw [qc,q];rfl)) A5 .m0 An.l5 rfl rfl) ?_
  refine C8 (t:=76) rfl rfl rfl (fun qc q=>Cb (Bc rfl (by rw [qc,q];rfl)) rfl) ?_
  refine Bf 72 rfl rfl (fun q=>BM (cF rfl q) rfl (fun h=>by rw [q,h];rfl)) ?_
  refine Gt (BU rfl rfl (fun h=>by rw [h];rfl)) ?_
  refine Gm rfl (Bf 82 rfl rfl (fun q=>Aj Ij rfl) (Bf 82 rfl rfl (fun q=>AG (cF rfl q) DM .m0 An.l1 rfl rfl) (Bf 82 rfl rfl (fun q=>Aj KJ rfl) (Bf 82 rfl rfl (fun q=>AG (cF rfl q) A5 .m0 An.l4 rfl rfl) (Bf 82 rfl rfl (fun q=>Cn (cF rfl q) rfl) (Bf 82 rfl rfl (fun q=>J7 Tryz.underlying4 (cF rfl q) (cF rfl q)) ?_))))))
  refine Gt (BU rfl rfl (fun h=>by rw [h];rfl)) ?_
  refine Gn (.t4 1 40 41 89) ?_
  refine Gc (fun c5=>?_) (fun c5=>?_)
  ·
   refine Gs (Ga rfl (Gn (.t1 2) (Ae (AS (AE (AE (AS ?_)))))))
   refine AE ?_
   refine AZ rfl (.tmp rfl .n) ?_
   intro w1 hS;refine⟨congrArg Value.bool ?_,hS.Al⟩;rw [hI33,AI.Dq,c5];rfl
  have c5p:=kz c5
  refine Aa ?_
  refine AB (.t3 1 40 41) ?_
  refine AW (AA (AK ?_))
  refine Gt (Ay rfl rfl (IntWalk.i64_in _ (by omega))) ?_
  refine Gm rfl ?_
  refine AT (AB (.t3 1 40 41) ?_)
  refine B7 (b+1) ?_ ?_ (.t3 41 1 40) (.cons _ (.refl _))
  · exact⟨by omega,by omega,by rw [hI33,AI.Dq,c5];rfl⟩
  · omega
 have c4p:=kz c4
 obtain rfl:b=6:=by omega
 refine Bl (AY (AY (Am ?_)))
 refine AB (.t1 1) ?_
 refine AA (CH (Gm rfl (AT (AA (Ak ?_)))))
 refine Bt (.t2 91 1) ?_
 refine Ch (fun(t:Int)=>0≤t∧t≤9∧X.Bk=CA 9 X.Ck (9 - t).toNat) (fun(t:Int)=>(9 - t).toNat) (fun(t:Int)=> [(91, .int .i64 t)]) (fun(t:Int)=> []) (0) ?_ rfl rfl (fun t hI4=>?_)
 · exact⟨Int.le_refl _,by omega,hI33⟩
 obtain⟨hI41,hI42,hI43⟩:=hI4
 refine Gs (Gt (BC rfl rfl) (AT (AA (Au ?_))))
 refine Gc (fun c6=>?_) (fun c6=>?_)
 ·
  have c6p:=kz c6
  rw [Da _ (by omega)] at hI43
  refine Aa ?_
  refine AB (.t2 1 91) ?_
  refine AA (Au (Ak (Gs (Gm rfl (Ga rfl (Gn (.t3 1 9 91) (Gs ?_)))))))
  refine Gt (AU rfl Be .m0 (AQ.id AI.fl.len AI.fl.one) rfl) (Gm rfl ?_)
  refine BE rfl eG (.c rfl (.c rfl .n)) (fun w hS=>Kw X _ (by omega) (by omega) w) ?_
  refine Gt (BX rfl) (Gn (.t3 1 91 97) ?_)
  refine Gc (fun c7=>?_) (fun c7=>?_)
  ·
   refine Gs (Ga rfl (Gn (.t1 2) (Ae (AS (AE (AE (AS ?_)))))))
   refine AE ?_
   refine AZ rfl (.tmp rfl .n) ?_
   intro w1 hS;refine⟨congrArg Value.bool ?_,hS.Al⟩;rw [hI43,show X.Ck t=false by simpa using c7];rfl
  have c7p:=kz c7
  refine Aa ?_
  refine AB (.t2 1 91) ?_
  refine AW (AA (AK ?_))
  refine Gt (Ay rfl rfl (IntWalk.i64_in _ (by omega))) ?_
  refine Gm rfl ?_
  refine AT (AB (.t2 1 91) ?_)
  refine B7 (t+1) ?_ ?_ (.t2 91 1) (.refl _)
  · exact⟨by omega,by omega,by rw [hI43,show X.Ck t=true by simpa using c7];rfl⟩
  · omega
 have c6p:=kz c6
 obtain rfl:t=9:=by omega
 refine Bl (AY (AY (Am ?_)))
 refine AB (.nil _) ?_
 refine AA (Gs (Ga rfl (AT (AA (Ae ?_)))))
 refine AZ rfl (.tmp rfl .n) ?_
 intro w1 hS;refine⟨congrArg Value.bool ?_,hS.Al⟩;rw [hI43];rfl
theorem Me (s:As)(hs:s.length≤100000000)(w:World):Ee Tryz.prog 46 #[BW s] w fun v w'=>v = .bool (AF.FX s)∧B9 w w':=by
 refine Ao [] [] Tryz.func46 rfl rfl rfl (St.start w []) ?_
 refine Gs (Ga rfl (Gn (.t1 0) (CH (Gm rfl (Gt (BO rfl Tryz.underlying9 rfl) (Gm rfl (Gn (.t3 0 5 6) ?_)))))))
 refine Ak ?_
 refine Bt (.t3 6 0 5) ?_
 refine Ch (fun(k:Int)=>0≤k∧k≤(s.length:Int)∧AF.H4 s 0=AF.H4 s k.toNat) (fun(k:Int)=>((s.length:Int) - k).toNat) (fun(k:Int)=> [(6, .int .i64 k)]) (fun(k:Int)=> []) (0) ?_ rfl rfl (fun k hI1=>?_)
 · exact⟨by omega,by omega,rfl⟩
 obtain⟨hI11,hI12,hI13⟩:=hI1
 refine Gs (Gt (BC rfl rfl) (AT (AA (Au ?_))))
 refine Gc (fun c1=>?_) (fun c1=>?_)
 ·
  have c1p:=kz c1
  have hst:=AF.Va (s:=s) hI11 (by omega)
  refine Aa ?_
  refine AB (.t3 0 5 6) ?_
  refine AA (Au (Ak (Gs (Gm rfl (Ga rfl (Gn (.t4 0 3 5 6) (Gs ?_)))))))
  refine Gm rfl (Gm rfl ?_)
  refine Gt (Bp Tryz.underlying9 rfl rfl (by omega) (by omega)) ?_
  refine Gt (BC rfl rfl) (Gm rfl (Bf 13 rfl rfl (fun q=>AD rfl) (Bf 13 rfl rfl (fun q=>AD rfl) ?_)))
  refine Bf 13 rfl rfl (fun q=>by have q1:=q;(try simp at q1);exact Bp Tryz.underlying9 (cF rfl q) (cF rfl q) (by omega) (by omega)) ?_
  refine Bf 13 rfl rfl (fun q=>Cn (cF rfl q) rfl) ?_
  refine Gt (BU rfl rfl (fun h=>by rw [h];rfl)) ?_
  refine Gn (.t4 0 5 6 18) ?_
  refine Gc (fun c2=>?_) (fun c2=>?_)
  ·
   rw [show AF.low (s.getD k.toNat 0)=true from c2] at hst
   refine Gs (Ga rfl (Gn (.t1 2) (Ae (AS (AE (AE (AS ?_)))))))
   refine AE ?_
   refine AZ rfl (.tmp rfl .n) ?_
   intro w1 hS;refine⟨?_,hS.Al⟩;exact congrArg Value.bool (by rw [AF.FX,hI13,hst];rfl)
  have c2p:=kz c2
  rw [show AF.low (s.getD k.toNat 0)=false from c2] at hst
  refine Aa ?_
  refine AB (.t3 0 5 6) ?_
  refine AW (AA (AK ?_))
  refine Gt (Ay rfl rfl (IntWalk.i64_in _ (by omega))) ?_
  refine Gm rfl ?_
  refine AT (AB (.t3 0 5 6) ?_)
  refine B7 (k+1) ?_ ?_ (.t3 6 0 5) (.refl _)
  · exact⟨by omega,by omega,by rw [hI13,hst];rfl⟩
  · omega
 have c1p:=kz c1
 obtain rfl:k=(s.length:Int):=by omega
 rw [AF.YY] at hI13
 refine Bl (AY (AY (Am ?_)))
 refine AB (.t1 0) ?_
 refine AA (Gs (Gm rfl (Gt (BO rfl Tryz.underlying9 rfl) (Gt (CO rfl rfl) (Gm rfl (Bg 23 rfl rfl (fun q=>AD rfl) (Bg 23 rfl rfl (fun q=>BO rfl Tryz.underlying9 (Bc rfl q)) ?_)))))))
 refine Bg 23 rfl rfl (fun q=>Ia (Bc rfl q) rfl) (Gt (BM rfl rfl (fun h=>h)) (Gm rfl (Bg 28 rfl rfl (fun q=>AD rfl) (Bg 28 rfl rfl (fun q=>Dp (Bc rfl q) rfl) (Gt (BM rfl rfl (fun h=>h)) (Gm rfl (Bg 32 rfl rfl (fun q=>AD rfl) ?_)))))))
 refine Bg 32 rfl rfl (fun q=>Dp (Bc rfl q) rfl) (Gt (BM rfl rfl (fun h=>h)) (Ga rfl (Gn (.t1 2) (Ae ?_))))
 refine AZ rfl (.tmp rfl .n) ?_
 intro w1 hS;refine⟨?_,hS.Al⟩;exact congrArg Value.bool (by rw [AF.FX,hI13];simp only [Bool.true_and];rfl)
theorem Ge (X:AI)(b:Int)(w:World):Ee Tryz.prog 159 #[.agg X.enc.toArray, .int .i64 b] w fun v w'=>v = .bool (X.Aq b)∧B9 w w':=by
 refine Ao [] [] Tryz.func159 rfl rfl rfl (St.start w []) ?_
 refine Gs ?_
 refine B4 rfl rfl rfl (fun b1=>?_)
 refine Ga rfl (Gn (.t2 1 2) (Gs (Gm rfl (Gt (CO rfl rfl) (Gm rfl (Bg 7 rfl rfl (fun q=>AD rfl) (Bg 7 rfl rfl (fun q=>BC (Bc rfl q) rfl) ?_)))))))
 refine Gt (BM rfl rfl (fun h=>h)) (Gm rfl (Bg 11 rfl rfl (fun q=>AD rfl) (Bg 11 rfl rfl (fun q=>Aj Br rfl) ?_)))
 refine Bg 11 rfl rfl (fun q=>by have q1:=q;(try simp at q1);exact AV DB (Bc rfl q) (Bc rfl q) (by omega) (by omega)) ?_
 refine Bg 11 rfl rfl (fun q=>Aj Ij (Bc rfl q)) ?_
 refine Bg 11 rfl rfl (fun q=>by have q1:=q;(try simp at q1);exact AG (Bc rfl q) DM .m0 ((AI.l2.comp (AQ.ar (n:=6) An.fl (by omega))).comp An.l1) rfl rfl) ?_
 refine Gt (BM rfl rfl (fun h=>h)) (Ga rfl (Gn (.t1 4) (Ae ?_)))
 refine AZ rfl (.tmp rfl .n) ?_
 intro w1 hS;refine⟨?_,hS.Al⟩;rfl
theorem N8 (X:AI)(i:Int)(w:World):Ee Tryz.prog 19 #[.agg X.enc.toArray, .int .i64 i] w fun v w'=>v = .tuple #[.int .i64 (X.room i).1, .bool (X.room i).2]∧B9 w w':=by
 refine Ao [] [] Tryz.func19 rfl rfl rfl (St.start w []) ?_
 refine Gs ?_
 refine B4 rfl rfl rfl (fun b1=>?_)
 refine Ga rfl (Ga rfl (Gn (.t2 1 2) (Gs (Ga rfl (AT (AA (CH ?_)))))))
 refine Gm rfl (AT (AA (Ak ?_)))
 refine Bt (.t4 1 6 8 2) ?_
 refine D1 (fun(k:Int) (j:Int) (o:Bool)=>0≤k∧k≤10∧X.room i=X.Jt (10 - k).toNat j o) (fun(k:Int) (j:Int) (o:Bool)=>(10 - k).toNat) (fun(k:Int) (j:Int) (o:Bool)=> [(1, .int .i64 j),(6, .bool o),(8, .int .i64 k)]) (fun(k:Int) (j:Int) (o:Bool)=> []) (0) (i) (true) ?_ rfl rfl (fun k j o hI1=>?_)
 · exact⟨Int.le_refl _,by omega,rfl⟩
 obtain⟨hI11,hI12,hI13⟩:=hI1
 refine Gs (Gt (BC rfl rfl) (AT (AA (Au ?_))))
 refine Gc (fun c1=>?_) (fun c1=>?_)
 ·
  have c1p:=kz c1
  rw [show(10 - k).toNat=(10 - (k+1)).toNat+1 from by omega,AI.Jt] at hI13
  refine Aa ?_
  refine AB (.t4 1 2 6 8) ?_
  refine AA (Au (Ak (CH (Gm rfl (Gt (BC rfl rfl) (Gm rfl (Bf 12 rfl rfl (fun q=>AD rfl) ?_)))))))
  refine Bf 12 rfl rfl (fun q=>CO (cF rfl q) rfl) ?_
  refine Gt (BU rfl rfl (fun h=>by rw [h];rfl)) ?_
  refine Gn (.t5 1 2 6 8 15) ?_
  refine Gc (fun c2=>?_) (fun c2=>?_)
  ·
   refine Gs (Ga rfl (Ga rfl (Gn (.t2 4 5) (Ae (AE (AS (AE ?_)))))))
   refine AE (AS (AE ?_))
   refine AZ rfl (.tmp rfl (.tmp rfl .n)) ?_
   intro w1 hS;refine⟨?_,hS.Al⟩;rw [hI13];simp only [c1,c2,↓reduceIte,Bool.false_eq_true];rfl
  have c2p:=kz c2
  refine Aa ?_
  refine AB (.t4 1 2 6 8) ?_
  refine AA (Gs (Gm rfl (Gt (Aj Cz rfl) ?_)))
  refine Gt (AV Gd rfl rfl (by omega) (by omega)) ?_
  refine Gt (AU rfl NI .m0 (AI.l1.comp (AQ.ar (n:=9) Ap.fl (by omega))) rfl) ?_
  refine A6 rfl Kq rfl (fun b2=>?_)
  refine AO (AJ (AQ.id Ap.fl.len Ap.fl.one) rfl rfl rfl Nb rfl .h) ?_
  refine Gn (.t4 2 6 7 8) (CH (Gt (Aj Fh rfl) (Gt (AG rfl A5 .m0 Ap.l2 rfl rfl) (Gn (.t5 2 6 7 8 21) (Ak (Gs (Gt (Ai rfl rfl) ?_)))))))
  refine Ga rfl (Gn (.t6 2 6 7 8 21 22) ?_)
  refine Gc (fun c3=>?_) (fun c3=>?_)
  ·
   refine Gs (Gt (Aj DN rfl) (Gt (AG rfl A5 .m0 Ap.l3 rfl rfl) (Gm rfl (Ga rfl (Ga rfl (Gn (.t2 4 5) (Ae ?_)))))))
   refine AS (AE (AS (AE (AE (AS (AE ?_))))))
   refine AZ rfl (.tmp rfl (.tmp rfl .n)) ?_
   intro w1 hS;refine⟨?_,hS.Al⟩;rw [hI13];simp only [c1,c2,c3,↓reduceIte,Bool.false_eq_true];rfl
  have c3p:=kz c3
  refine Gs (Gt (Ai rfl rfl) (Ga rfl (Gn (.t6 2 6 7 8 21 27) ?_)))
  refine Gc (fun c4=>?_) (fun c4=>?_)
  ·
   have c4p:=kz c4
   refine CH (Gt (Aj DN rfl) (Gt (AG rfl A5 .m0 Ap.l3 rfl rfl) (Gt (BC rfl rfl) (Gm rfl (Bf 32 rfl rfl (fun q=>Aj DN rfl) (Bf 32 rfl rfl (fun q=>AG (cF rfl q) A5 .m0 Ap.l3 rfl rfl) (Bf 32 rfl rfl (fun q=>CO (cF rfl q) rfl) ?_)))))))
   refine Gt (BU rfl rfl (fun h=>by rw [h];rfl)) ?_
   refine Gn (.t4 2 6 7 36) ?_
   refine Gc (fun c5=>?_) (fun c5=>?_)
   ·
    refine Gs (Ga rfl (Ga rfl (Gn (.t2 4 5) (Ae (AE (AS (AE ?_)))))))
    refine AS (AE (AE (AS (AE ?_))))
    refine AZ rfl (.tmp rfl (.tmp rfl .n)) ?_
    intro w1 hS;refine⟨?_,hS.Al⟩;rw [hI13];simp only [c1,c2,c3,c4,c5,↓reduceIte,Bool.false_eq_true];rfl
   have c5p:=kz c5
   refine Aa ?_
   refine AB (.t3 2 6 7) ?_
   refine AA (Gs (Gt (Aj DN rfl) (Gt (AG rfl A5 .m0 Ap.l3 rfl rfl) (Gt (Aj Br rfl) ?_))))
   refine Gt (AV DB rfl rfl (by omega) (by omega)) ?_
   refine Gt (Aj C9 rfl) ?_
   refine Gt (AG rfl A5 .m1 ((AI.l2.comp (AQ.ar (n:=6) An.fl (by omega))).comp An.l3) rfl rfl) ?_
   refine Gm rfl (Ga rfl (Ga rfl (Gn (.t2 4 5) (Ae (AS (AE (AS ?_)))))))
   refine AE (AE (AS (AE ?_)))
   refine AZ rfl (.tmp rfl (.tmp rfl .n)) ?_
   intro w1 hS;refine⟨?_,hS.Al⟩;rw [hI13];simp only [c1,c2,c3,c4,c5,↓reduceIte,Bool.false_eq_true];rfl
  have c4p:=kz c4
  refine Gs (Gt (Ai rfl rfl) (Ga rfl (Gn (.t5 2 6 7 8 44) ?_)))
  refine Gc (fun c6=>?_) (fun c6=>?_)
  ·
   have c6p:=kz c6
   refine Aa ?_
   refine AB (.t4 2 6 7 8) ?_
   refine AW (AA (Gs (Gt (Aj DN rfl) (Gt (AG rfl A5 .m0 Ap.l3 rfl rfl) (Ga rfl (Gn (.t4 1 2 6 8) (Gs ?_)))))))
   refine Gm rfl (Gt (CO rfl rfl) (Gm rfl (Bg 50 rfl rfl (fun q=>AD rfl) (Bg 50 rfl rfl (fun q=>BC (Bc rfl q) rfl) (Gt (BM rfl rfl (fun h=>h)) (Gm rfl (Bg 54 rfl rfl (fun q=>AD rfl) ?_)))))))
   refine Bg 54 rfl rfl (fun q=>Aj Cz rfl) ?_
   refine Bg 54 rfl rfl (fun q=>by have q1:=q;(try simp at q1);exact AV Gd (Bc rfl q) (Bc rfl q) (by omega) (by omega)) ?_
   refine Bg 54 rfl rfl (fun q=>Aj GX (Bc rfl q)) ?_
   refine Bg 54 rfl rfl (fun q=>by have q1:=q;(try simp at q1);exact AG (Bc rfl q) DM .m1 ((AI.l1.comp (AQ.ar (n:=9) Ap.fl (by omega))).comp Ap.l4) rfl rfl) ?_
   refine Bg 54 rfl rfl (fun q=>BX (Bc rfl q)) (Gt (BM rfl rfl (fun h=>h)) (Gn (.t5 1 2 6 8 61) ?_))
   refine Gc (fun c7=>?_) (fun c7=>?_)
   ·
    have c7p:=kz c7
    refine AK (Ga rfl ?_)
    refine AT (AB (.t4 1 2 6 8) ?_)
    refine AW (AA (AK ?_))
    refine Gt (Ay rfl rfl (IntWalk.i64_in _ (by omega))) ?_
    refine Gm rfl ?_
    refine AT (AB (.t4 1 2 6 8) ?_)
    refine B0 (k+1) ((X.AP.at j).at_) (false) ?_ ?_ (.t4 1 6 8 2) (.cons _ (.refl _))
    · exact⟨by omega,by omega,by rw [hI13];simp only [c1,c2,c3,c4,c6,c7,↓reduceIte,Bool.false_eq_true]⟩
    · omega
   have c7p:=kz c7
   refine Aa ?_
   refine AB (.t4 1 2 6 8) ?_
   refine AW (AA (AK ?_))
   refine Gt (Ay rfl rfl (IntWalk.i64_in _ (by omega))) ?_
   refine Gm rfl ?_
   refine AT (AB (.t4 1 2 6 8) ?_)
   refine B0 (k+1) ((X.AP.at j).at_) (o) ?_ ?_ (.t4 1 6 8 2) (.cons _ (.refl _))
   · exact⟨by omega,by omega,by rw [hI13];simp only [c1,c2,c3,c4,c6,c7,↓reduceIte,Bool.false_eq_true]⟩
   · omega
  refine Gs (Ga rfl (Ga rfl (Gn (.t2 4 5) (Ae (AS (AE (AS ?_)))))))
  refine AE (AE (AS (AE ?_)))
  refine AZ rfl (.tmp rfl (.tmp rfl .n)) ?_
  intro w1 hS;refine⟨?_,hS.Al⟩;rw [hI13];simp only [c1,c2,c3,c4,c6,↓reduceIte,Bool.false_eq_true];rfl
 have c1p:=kz c1
 obtain rfl:k=10:=by omega
 refine Bl (AY (AY (Am ?_)))
 refine AB (.nil _) ?_
 refine AA (Gs (Ga rfl (Ga rfl (AT (AA (Ae ?_))))))
 refine AZ rfl (.tmp rfl (.tmp rfl .n)) ?_
 intro w1 hS;refine⟨?_,hS.Al⟩;rw [hI13];rfl
theorem El (X:AI)(r:Int)(w:World):Ee Tryz.prog 129 #[.agg X.enc.toArray, .int .i64 r] w fun v w'=>v = .bool (X.Hf r)∧B9 w w':=by
 refine Ao [] [] Tryz.func129 rfl rfl rfl (St.start w []) ?_
 refine Gs ?_
 refine B4 rfl rfl rfl (fun b1=>?_)
 refine Ga rfl (Gn (.t2 1 2) (CH (Gm rfl (Gt (BC rfl rfl) (Gm rfl (Bf 11 rfl rfl (fun q=>AD rfl) (Bf 11 rfl rfl (fun q=>CO (cF rfl q) rfl) ?_)))))))
 refine Gt (BU rfl rfl (fun h=>by rw [h];rfl)) ?_
 refine Gn (.t3 1 2 14) ?_
 refine Gc (fun c1=>?_) (fun c1=>?_)
 ·
  refine Gs (Ga rfl (Gn (.t1 4) (Ae (AE ?_))))
  refine AZ rfl (.tmp rfl .n) ?_
  intro w1 hS;refine⟨congrArg Value.bool ?_,hS.Al⟩;rw [show X.Hf r=_ from BJ c1]
 have c1p:=kz c1
 have hr:0≤r∧r < 6:=by simp at c1;omega
 refine Aa ?_
 refine AB (.t2 1 2) ?_
 refine AA (CH (Gm rfl (Gt (Aj HE rfl) ?_)))
 refine Gt (AV OQ rfl rfl (by omega) (by omega)) ?_
 refine Gt (Aj bD rfl) ?_
 refine Gt (AG rfl DM .m0 ((AI.l0.comp (AQ.ar (n:=6) Room.fl (by omega))).comp Room.l1) rfl rfl) ?_
 refine Gt (BX rfl) (Gn (.t3 1 2 20) ?_)
 refine Gc (fun c2=>?_) (fun c2=>?_)
 ·
  refine Gs (Ga rfl (Gn (.t1 4) (Ae (AE ?_))))
  refine AZ rfl (.tmp rfl .n) ?_
  intro w1 hS;refine⟨congrArg Value.bool ?_,hS.Al⟩;rw [show X.Hf r=_ from(AX c1).trans (BJ c2)]
 have c2p:=kz c2
 refine Aa ?_
 refine AB (.t2 1 2) ?_
 refine AA (CH (Gt (Aj Cz rfl) (Gt (AU rfl Ym .m0 AI.l1 rfl) (Gm rfl (Gn (.t4 1 2 22 23) (Ak ?_))))))
 refine Bt (.t4 23 1 2 22) ?_
 refine Ch (fun(k:Int)=>0≤k∧k≤9∧CA 9 (fun i=>!X.lit r i) 9=CA 9 (fun i=>!X.lit r i) (9 - k).toNat) (fun(k:Int)=>(9 - k).toNat) (fun(k:Int)=> [(23, .int .i64 k)]) (fun(k:Int)=> []) (0) ?_ rfl rfl (fun k hI1=>?_)
 · exact⟨by omega,by omega,rfl⟩
 obtain⟨hI11,hI12,hI13⟩:=hI1
 refine Gs (Gt (BC rfl rfl) (AT (AA (Au ?_))))
 refine Gc (fun c3=>?_) (fun c3=>?_)
 ·
  have c3p:=kz c3
  rw [Da _ (by omega)] at hI13
  refine Aa ?_
  refine AB (.t4 1 2 22 23) ?_
  refine AA (Au (Ak (Gs (Gm rfl ?_))))
  refine Gt (GZ Ap.fl Tryz.underlying30 NI rfl rfl (by omega) (by omega)) ?_
  refine A6 rfl Kq rfl (fun b2=>?_)
  refine Ga rfl ?_
  refine AO (AJ (AQ.id Ap.fl.len Ap.fl.one) rfl rfl rfl Nb rfl .h) ?_
  refine Gn (.t6 1 2 5 6 22 23) (CH (Gt (Aj HC rfl) (Gt (AG rfl A5 .m0 Ap.l1 rfl rfl) (Gt (Cb rfl rfl) (Gm rfl (Bf 30 rfl rfl (fun q=>Aj GX rfl) (Bf 30 rfl rfl (fun q=>AG (cF rfl q) DM .m0 Ap.l4 rfl rfl) ?_)))))))
  refine Bf 30 rfl rfl (fun q=>BX (cF rfl q)) ?_
  refine Gt (BU rfl rfl (fun h=>by rw [h];rfl)) ?_
  refine Gn (.t6 1 2 5 22 23 34) ?_
  refine Gc (fun c4=>?_) (fun c4=>?_)
  ·
   have c4p:=kz c4
   refine Bl (AY (Am ?_))
   refine AB (.t4 1 2 22 23) ?_
   refine AA (AK ?_)
   refine Gt (Ay rfl rfl (IntWalk.i64_in _ (by omega))) ?_
   refine Gm rfl ?_
   refine AT (AB (.t4 1 2 22 23) ?_)
   refine B7 (k+1) ?_ ?_ (.t4 23 1 2 22) (.cons _ (.refl _))
   · exact⟨by omega,by omega,by rw [hI13,show X.lit r k=false from by rw [AI.lit,c4];first | rfl | exact Bool.and_false _];rfl⟩
   · omega
  have c4p:=kz c4
  refine Aa ?_
  refine AB (.t5 1 2 5 22 23) ?_
  refine AA (Gs (Gt (AU rfl Be .m1 (AQ.id AI.fl.len AI.fl.one) rfl) (Gm rfl ?_)))
  refine BE rfl eO (.c rfl (.c rfl .n)) (fun w hS=>N8 _ _ w) ?_
  refine Gm rfl (Gt (AM rfl rfl) (Gt (AM rfl rfl) (Ga rfl (Ga rfl (Gn (.t6 1 2 7 8 22 23) (Gs (Gm rfl ?_)))))))
  refine Gm rfl (Gt (Ai rfl rfl) (Gm rfl (Bg 44 rfl rfl (fun q=>AD rfl) (Gt (BM rfl rfl (fun h=>h)) (Gn (.t5 1 2 22 23 46) ?_)))))
  refine Gc (fun c5=>?_) (fun c5=>?_)
  ·
   refine Gs (Ga rfl (Gn (.t1 4) (Ae (AS (AE (AE (AS ?_)))))))
   refine AE ?_
   refine AZ rfl (.tmp rfl .n) ?_
   intro w1 hS;refine⟨congrArg Value.bool ?_,hS.Al⟩;rw [show X.Hf r=_ from(AX c1).trans (AX c2),hI13,show X.lit r k=true from by rw [AI.lit,c4,c5];rfl];rfl
  have c5p:=kz c5
  refine Aa ?_
  refine AB (.t4 1 2 22 23) ?_
  refine AW (AA (AK ?_))
  refine Gt (Ay rfl rfl (IntWalk.i64_in _ (by omega))) ?_
  refine Gm rfl ?_
  refine AT (AB (.t4 1 2 22 23) ?_)
  refine B7 (k+1) ?_ ?_ (.t4 23 1 2 22) (.cons _ (.refl _))
  · exact⟨by omega,by omega,by rw [hI13,show X.lit r k=false from by rw [AI.lit,c5];first | rfl | exact Bool.and_false _];rfl⟩
  · omega
 have c3p:=kz c3
 obtain rfl:k=9:=by omega
 refine Bl (AY (AY (Am ?_)))
 refine AB (.nil _) ?_
 refine AA (Gs (Ga rfl (AT (AA (Ae ?_)))))
 refine AZ rfl (.tmp rfl .n) ?_
 intro w1 hS;refine⟨congrArg Value.bool ?_,hS.Al⟩;rw [show X.Hf r=_ from(AX c1).trans (AX c2),hI13];rfl
theorem ID (X:AI)(b:Int)(w:World):Ee Tryz.prog 160 #[.agg X.enc.toArray, .int .i64 b] w fun v w'=>v = .bool (X.hidden b)∧B9 w w':=by
 refine Ao [] [] Tryz.func160 rfl rfl rfl (St.start w []) ?_
 refine Gs ?_
 refine B4 rfl rfl rfl (fun b1=>?_)
 refine Ga rfl (Gn (.t2 1 2) (CH (Gt (Aj Cz rfl) (Gt (AU rfl Ym .m0 AI.l1 rfl) (Gm rfl (Gn (.t3 1 8 9) (Ak ?_)))))))
 refine Bt (.t3 9 1 8) ?_
 refine Ch (fun(k:Int)=>0≤k∧k≤9∧CA 9 (fun i=>!X.MN b i) 9=CA 9 (fun i=>!X.MN b i) (9 - k).toNat) (fun(k:Int)=>(9 - k).toNat) (fun(k:Int)=> [(9, .int .i64 k)]) (fun(k:Int)=> []) (0) ?_ rfl rfl (fun k hI1=>?_)
 · exact⟨by omega,by omega,rfl⟩
 obtain⟨hI11,hI12,hI13⟩:=hI1
 refine Gs (Gt (BC rfl rfl) (AT (AA (Au ?_))))
 refine Gc (fun c1=>?_) (fun c1=>?_)
 ·
  have c1p:=kz c1
  rw [Da _ (by omega)] at hI13
  refine Aa ?_
  refine AB (.t3 1 8 9) ?_
  refine AA (Au (Ak (Gs ?_)))
  refine Gt (GZ Ap.fl Tryz.underlying30 NI rfl rfl (by omega) (by omega)) ?_
  refine A6 rfl Kq rfl (fun b2=>?_)
  refine AO (AJ (AQ.id Ap.fl.len Ap.fl.one) rfl rfl rfl Nb rfl .h) ?_
  refine Gn (.t4 1 6 8 9) (Gs (Gt (Aj HC rfl) (Gt (AG rfl A5 .m0 Ap.l1 rfl rfl) (Gt (Ai rfl rfl) (Gm rfl (Bg 15 rfl rfl (fun q=>Aj GX rfl) (Bg 15 rfl rfl (fun q=>AG (Bc rfl q) DM .m0 Ap.l4 rfl rfl) ?_)))))))
  refine Gt (BM rfl rfl (fun h=>h)) (Gm rfl (Bg 19 rfl rfl (fun q=>Aj Fh rfl) (Bg 19 rfl rfl (fun q=>AG (Bc rfl q) A5 .m0 Ap.l2 rfl rfl) (Bg 19 rfl rfl (fun q=>Ai (Bc rfl q) rfl) (Gt (BM rfl rfl (fun h=>h)) (Gm rfl (Bg 24 rfl rfl (fun q=>Aj DN rfl) ?_)))))))
  refine Bg 24 rfl rfl (fun q=>AG (Bc rfl q) A5 .m0 Ap.l3 rfl rfl) (Bg 24 rfl rfl (fun q=>AD rfl) (Bg 24 rfl rfl (fun q=>Ai (Bc rfl q) (Bc rfl q)) (Gt (BM rfl rfl (fun h=>h)) (Gn (.t4 1 8 9 29) ?_))))
  refine Gc (fun c2=>?_) (fun c2=>?_)
  ·
   refine Gs (Ga rfl (Gn (.t1 4) (Ae (AS (AE (AE (AS ?_)))))))
   refine AE ?_
   refine AZ rfl (.tmp rfl .n) ?_
   intro w1 hS;refine⟨congrArg Value.bool ?_,hS.Al⟩;rw [AI.hidden,hI13,show X.MN b k=true from c2];rfl
  have c2p:=kz c2
  refine Aa ?_
  refine AB (.t3 1 8 9) ?_
  refine AW (AA (AK ?_))
  refine Gt (Ay rfl rfl (IntWalk.i64_in _ (by omega))) ?_
  refine Gm rfl ?_
  refine AT (AB (.t3 1 8 9) ?_)
  refine B7 (k+1) ?_ ?_ (.t3 9 1 8) (.cons _ (.refl _))
  · exact⟨by omega,by omega,by rw [hI13,show X.MN b k=false from c2];rfl⟩
  · omega
 have c1p:=kz c1
 obtain rfl:k=9:=by omega
 refine Bl (AY (AY (Am ?_)))
 refine AB (.nil _) ?_
 refine AA (Gs (Ga rfl (AT (AA (Ae ?_)))))
 refine AZ rfl (.tmp rfl .n) ?_
 intro w1 hS;refine⟨congrArg Value.bool ?_,hS.Al⟩;rw [AI.hidden,hI13];rfl
theorem DS (X:AI)(a b:Int)(w:World):Ee Tryz.prog 130 #[.agg X.enc.toArray, .int .i64 a, .int .i64 b] w fun v w'=>v = .bool (X.I2 a b)∧B9 w w':=by
 refine Ao [] [] Tryz.func130 rfl rfl rfl (St.start w []) ?_
 refine Gs ?_
 refine B4 rfl rfl rfl (fun b1=>?_)
 refine Ga rfl (Gn (.t3 1 2 3) (CH (Gt (AU rfl Be .m0 (AQ.id AI.fl.len AI.fl.one) rfl) (Gm rfl ?_))))
 refine BE rfl Xl (.c rfl (.c rfl .n)) (fun w hS=>Ge _ _ w) ?_
 refine Gt (BX rfl) (Gm rfl (Bf 13 rfl rfl (fun q=>AU rfl Be .m0 (AQ.id AI.fl.len AI.fl.one) rfl) (Bf 13 rfl rfl (fun q=>AD rfl) ?_)))
 refine RA (t:=13) rfl rfl rfl (fun q=>by have q1:=q;(try simp at q1);exact EB Xl (.c (cF rfl q) (.c (cF rfl q) .n)) (fun w hS=>Ge _ _ w)) ?_
 refine Bf 13 rfl rfl (fun q=>BX (cF rfl q)) ?_
 refine Gt (BU rfl rfl (fun h=>by rw [h];rfl)) ?_
 refine Gn (.t4 1 2 3 18) ?_
 refine Gc (fun c1=>?_) (fun c1=>?_)
 ·
  refine Gs (Ga rfl (Gn (.t1 6) (Ae (AE ?_))))
  refine AZ rfl (.tmp rfl .n) ?_
  intro w1 hS;refine⟨congrArg Value.bool ?_,hS.Al⟩;rw [show X.I2 a b=_ from(BJ c1)]
 have c1p:=kz c1
 have hr:(0≤a∧a < 6)∧0≤b∧b < 6:=by simp at c1;have h1:=AI.HV c1.1;have h2:=AI.HV c1.2;omega
 refine Aa ?_
 refine AB (.t3 1 2 3) ?_
 refine AA (CH (Gm rfl (Gm rfl (Gt (Ai rfl rfl) (Gn (.t4 1 2 3 21) ?_)))))
 refine Gc (fun c2=>?_) (fun c2=>?_)
 ·
  refine Gs (Ga rfl (Gn (.t1 6) (Ae (AE ?_))))
  refine AZ rfl (.tmp rfl .n) ?_
  intro w1 hS;refine⟨congrArg Value.bool ?_,hS.Al⟩;rw [show X.I2 a b=_ from((AX c1).trans (BJ c2))]
 have c2p:=kz c2
 refine Aa ?_
 refine AB (.t3 1 2 3) ?_
 refine AA (Au ?_)
 refine BN (N:=12) [0,0,3,7,0,0,48,112,0,0,783,2047] mix (by kernel_rfl) rfl ?_
 refine Pf 0 rfl (AD rfl) (Pf 1 rfl (Aj Br rfl) ?_)
 refine Pf 2 rfl (AV DB rfl rfl (by omega) (by omega)) ?_
 refine Pf 3 rfl (AU rfl GC .m0 (AI.l2.comp (AQ.ar (n:=6) An.fl (by omega))) rfl) ?_
 refine Pf 4 rfl (AD rfl) (Pf 5 rfl (Aj Br rfl) ?_)
 refine Pf 6 rfl (AV DB rfl rfl (by omega) (by omega)) ?_
 refine Pf 7 rfl (AU rfl GC .m0 (AI.l2.comp (AQ.ar (n:=6) An.fl (by omega))) rfl) ?_
 refine EV 8 9 rfl rfl (by kernel_rfl) ?_ ?_
 ·
  refine A6 rfl L0 rfl (fun b2=>?_)
  refine BH rfl ⟨?_,?_⟩
  · exact(Po rfl (AU rfl GC .m1 (AI.l2.comp (AQ.ar (n:=6) An.fl (by omega))) rfl) rfl rfl (Po rfl (AV DB rfl rfl (by omega) (by omega)) rfl rfl (Po rfl (Aj Br rfl) rfl rfl (Po rfl (AD rfl) rfl rfl (Po rfl (AU rfl GC .m1 (AI.l2.comp (AQ.ar (n:=6) An.fl (by omega))) rfl) rfl rfl (Po rfl (AV DB rfl rfl (by omega) (by omega)) rfl rfl (Po rfl (Aj Br rfl) rfl rfl (Po rfl (AD rfl) rfl rfl Ac))))))))
  refine Ab 9 rfl (by kernel_rfl) ?_
  refine A6 rfl L0 rfl (fun b3=>?_)
  refine BH rfl ⟨?_,?_⟩
  · exact(Po rfl (AU rfl GC .m2 (AI.l2.comp (AQ.ar (n:=6) An.fl (by omega))) rfl) rfl rfl (Po rfl (AV DB rfl rfl (by omega) (by omega)) rfl rfl (Po rfl (Aj Br rfl) rfl rfl (Po rfl (AD rfl) rfl rfl (Po rfl (AU rfl GC .m2 (AI.l2.comp (AQ.ar (n:=6) An.fl (by omega))) rfl) rfl rfl (Po rfl (AV DB rfl rfl (by omega) (by omega)) rfl rfl (Po rfl (Aj Br rfl) rfl rfl (Po rfl (AD rfl) rfl rfl Ac))))))))
  refine Ab 10 rfl (by kernel_rfl) ?_
  refine AO (AJ (AQ.id An.fl.len An.fl.one) rfl rfl rfl Kr rfl (.t .h)) ?_
  refine A7 rfl ⟨?_,?_⟩
  · exact(Po rfl (AU rfl GC .m2 (AI.l2.comp (AQ.ar (n:=6) An.fl (by omega))) rfl) rfl rfl (Po rfl (AV DB rfl rfl (by omega) (by omega)) rfl rfl (Po rfl (Aj Br rfl) rfl rfl (Po rfl (AD rfl) rfl rfl (Pk (Pk (Pk (Pk Ac))))))))
  refine Ab 11 rfl (by kernel_rfl) ?_
  refine AO (AJ (AQ.id An.fl.len An.fl.one) rfl rfl rfl Kr rfl .h) ?_
  refine A7 rfl ⟨?_,?_⟩
  · exact(Pk (Pk (Pk (Pk (Pk (Pk (Pk (Pk Ac))))))))
  refine Az (by kernel_rfl) ?_
  refine AB (.t4 2 3 7 8) ?_
  refine AA (Gs (Gt (Aj C9 rfl) (Gt (AG rfl A5 .m1 An.l3 rfl rfl) (Gt (Aj C9 rfl) (Gt (AG rfl A5 .m0 An.l3 rfl rfl) (Gt (Ai rfl rfl) (Gm rfl ?_)))))))
  refine Bg 35 rfl rfl (fun q=>AU rfl Be .m2 (AQ.id AI.fl.len AI.fl.one) rfl) (Bg 35 rfl rfl (fun q=>Aj C9 rfl) (Bg 35 rfl rfl (fun q=>AG (Bc rfl q) A5 .m1 An.l3 rfl rfl) ?_))
  refine LD (t:=35) rfl rfl rfl (fun q=>EB Ue (.c (Bc rfl q) (.c (Bc rfl q) .n)) (fun w hS=>El _ _ w)) ?_
  refine Gt (BM rfl rfl (fun h=>h)) (Gm rfl (Bg 41 rfl rfl (fun q=>Aj YK rfl) (Bg 41 rfl rfl (fun q=>AG (Bc rfl q) DM .m1 An.l2 rfl rfl) (Bg 41 rfl rfl (fun q=>AD (Bc rfl q)) ?_))))
  refine Ct (t:=44) rfl rfl rfl (fun qc q=>AU rfl Be .m2 (AQ.id AI.fl.len AI.fl.one) rfl) ?_
  refine Ct (t:=44) rfl rfl rfl (fun qc q=>AD rfl) ?_
  refine U6 (t:=44) rfl rfl rfl (fun qc q=>by have q1:=q;have qc1:=qc;(try simp at q1 qc1);exact EB Zu (.c (Bc rfl (by rw [qc,q];rfl)) (.c (Bc rfl (by rw [qc,q];rfl)) .n)) (fun w hS=>ID _ _ w)) ?_
  refine Ct (t:=44) rfl rfl rfl (fun qc q=>BX (Bc rfl (by rw [qc,q];rfl))) ?_
  refine Bg 41 rfl rfl (fun q=>BU (Bc rfl q) rfl (fun h=>by rw [q,h];rfl)) ?_
  refine Gt (BM rfl rfl (fun h=>h)) (Ga rfl (Gn (.t1 6) (Ae ?_)))
  refine AZ rfl (.tmp rfl .n) ?_
  intro w1 hS;refine⟨congrArg Value.bool ?_,hS.Al⟩;rw [show X.I2 a b=_ from((AX c1).trans (AX c2))]
 ·
  refine A6 rfl L0 rfl (fun b4=>?_)
  refine BH rfl ⟨?_,?_⟩
  · exact(Po rfl (AU rfl GC .m1 (AI.l2.comp (AQ.ar (n:=6) An.fl (by omega))) rfl) rfl rfl (Po rfl (AV DB rfl rfl (by omega) (by omega)) rfl rfl (Po rfl (Aj Br rfl) rfl rfl (Po rfl (AD rfl) rfl rfl (Po rfl (AU rfl GC .m1 (AI.l2.comp (AQ.ar (n:=6) An.fl (by omega))) rfl) rfl rfl (Po rfl (AV DB rfl rfl (by omega) (by omega)) rfl rfl (Po rfl (Aj Br rfl) rfl rfl (Po rfl (AD rfl) rfl rfl Ac))))))))
  refine Ab 8 rfl (by kernel_rfl) ?_
  refine A6 rfl L0 rfl (fun b5=>?_)
  refine BH rfl ⟨?_,?_⟩
  · exact(Po rfl (AU rfl GC .m2 (AI.l2.comp (AQ.ar (n:=6) An.fl (by omega))) rfl) rfl rfl (Po rfl (AV DB rfl rfl (by omega) (by omega)) rfl rfl (Po rfl (Aj Br rfl) rfl rfl (Po rfl (AD rfl) rfl rfl (Po rfl (AU rfl GC .m2 (AI.l2.comp (AQ.ar (n:=6) An.fl (by omega))) rfl) rfl rfl (Po rfl (AV DB rfl rfl (by omega) (by omega)) rfl rfl (Po rfl (Aj Br rfl) rfl rfl (Po rfl (AD rfl) rfl rfl Ac))))))))
  refine Ab 10 rfl (by kernel_rfl) ?_
  refine AO (AJ (AQ.id An.fl.len An.fl.one) rfl rfl rfl Kr rfl .h) ?_
  refine A7 rfl ⟨?_,?_⟩
  · exact(Po rfl (AU rfl GC .m2 (AI.l2.comp (AQ.ar (n:=6) An.fl (by omega))) rfl) rfl rfl (Po rfl (AV DB rfl rfl (by omega) (by omega)) rfl rfl (Po rfl (Aj Br rfl) rfl rfl (Po rfl (AD rfl) rfl rfl (Pk (Pk (Pk (Pk Ac))))))))
  refine Ab 11 rfl (by kernel_rfl) ?_
  refine AO (AJ (AQ.id An.fl.len An.fl.one) rfl rfl rfl Kr rfl (.t .h)) ?_
  refine A7 rfl ⟨?_,?_⟩
  · exact(Pk (Pk (Pk (Pk (Pk (Pk (Pk (Pk Ac))))))))
  refine Az (by kernel_rfl) ?_
  refine AB (.t4 2 3 7 8) ?_
  refine AA (Gs (Gt (Aj C9 rfl) (Gt (AG rfl A5 .m0 An.l3 rfl rfl) (Gt (Aj C9 rfl) (Gt (AG rfl A5 .m1 An.l3 rfl rfl) (Gt (Ai rfl rfl) (Gm rfl ?_)))))))
  refine Bg 35 rfl rfl (fun q=>AU rfl Be .m2 (AQ.id AI.fl.len AI.fl.one) rfl) (Bg 35 rfl rfl (fun q=>Aj C9 rfl) (Bg 35 rfl rfl (fun q=>AG (Bc rfl q) A5 .m0 An.l3 rfl rfl) ?_))
  refine LD (t:=35) rfl rfl rfl (fun q=>EB Ue (.c (Bc rfl q) (.c (Bc rfl q) .n)) (fun w hS=>El _ _ w)) ?_
  refine Gt (BM rfl rfl (fun h=>h)) (Gm rfl (Bg 41 rfl rfl (fun q=>Aj YK rfl) (Bg 41 rfl rfl (fun q=>AG (Bc rfl q) DM .m0 An.l2 rfl rfl) (Bg 41 rfl rfl (fun q=>AD (Bc rfl q)) ?_))))
  refine Ct (t:=44) rfl rfl rfl (fun qc q=>AU rfl Be .m2 (AQ.id AI.fl.len AI.fl.one) rfl) ?_
  refine Ct (t:=44) rfl rfl rfl (fun qc q=>AD rfl) ?_
  refine U6 (t:=44) rfl rfl rfl (fun qc q=>by have q1:=q;have qc1:=qc;(try simp at q1 qc1);exact EB Zu (.c (Bc rfl (by rw [qc,q];rfl)) (.c (Bc rfl (by rw [qc,q];rfl)) .n)) (fun w hS=>ID _ _ w)) ?_
  refine Ct (t:=44) rfl rfl rfl (fun qc q=>BX (Bc rfl (by rw [qc,q];rfl))) ?_
  refine Bg 41 rfl rfl (fun q=>BU (Bc rfl q) rfl (fun h=>by rw [q,h];rfl)) ?_
  refine Gt (BM rfl rfl (fun h=>h)) (Ga rfl (Gn (.t1 6) (Ae ?_)))
  refine AZ rfl (.tmp rfl .n) ?_
  intro w1 hS;refine⟨congrArg Value.bool ?_,hS.Al⟩;rw [show X.I2 a b=_ from((AX c1).trans (AX c2))]
theorem NQ (k:Int)(w:World):Ee Tryz.prog 173 #[.int .i64 k] w fun v w'=>v = .bool (AI.cZ k)∧B9 w w':=by
 refine Ao [] [] Tryz.func173 rfl rfl rfl (St.start w []) ?_
 refine Gs (Ga rfl (Gn (.t1 0) (Gs (Gm rfl (Gt (Ai rfl rfl) (Gm rfl (Bf 5 rfl rfl (fun q=>AD rfl) ?_)))))))
 refine Bf 5 rfl rfl (fun q=>Ai (cF rfl q) rfl) ?_
 refine Gt (BU rfl rfl (fun h=>by rw [h];rfl)) ?_
 refine Gm rfl (Bf 9 rfl rfl (fun q=>AD rfl) (Bf 9 rfl rfl (fun q=>Ai (cF rfl q) rfl) ?_))
 refine Gt (BU rfl rfl (fun h=>by rw [h];rfl)) ?_
 refine Ga rfl (Gn (.t1 2) (Ae ?_))
 refine AZ rfl (.tmp rfl .n) ?_
 intro w1 hS;refine⟨?_,hS.Al⟩;rfl
theorem KG (X:AI)(b:Int)(e:Ing.Event)(w:World):Ee Tryz.prog 157 #[.agg X.enc.toArray, .int .i64 b, .agg e.enc.toArray] w fun v w'=>v = .int .i64 (X.Dv b e)∧B9 w w':=by
 refine Ao [] [] Tryz.func157 rfl rfl rfl (St.start w []) ?_
 refine Gs ?_
 refine B4 rfl rfl rfl (fun b1=>?_)
 refine B4 rfl rfl rfl (fun b2=>?_)
 refine Ga rfl (Gn (.t3 1 3 5) (Au (Ak (Gs (Gt (AU rfl Be .m1 (AQ.id AI.fl.len AI.fl.one) rfl) (Gm rfl ?_))))))
 refine BE rfl Xl (.c rfl (.c rfl .n)) (fun w hS=>Ge _ _ w) ?_
 refine Gt (BX rfl) (Ga rfl (Gn (.t4 1 3 5 8) ?_))
 refine Gc (fun c1=>?_) (fun c1=>?_)
 ·
  refine Gs (Ga rfl (Gn (.t1 6) (Ae (AS (AE ?_)))))
  refine AZ rfl (.tmp rfl .n) ?_
  intro w1 hS;refine⟨?_,hS.Al⟩;rw [show X.Dv b e=_ from(BJ c1)];rfl
 have c1p:=kz c1
 have hr:0≤b∧b < 6:=by simp at c1;have h1:=AI.HV c1;omega
 refine Gs (Gm rfl (Gt (Aj Qm rfl) (Gt (AG rfl A5 .m0 Ing.Event.l2 rfl rfl) (Gt (Ai rfl rfl) (Ga rfl (Gn (.t4 1 3 5 13) ?_))))))
 refine Gc (fun c2=>?_) (fun c2=>?_)
 ·
  refine CH (Gt (Aj HD rfl) (Gt (AG rfl A5 .m0 Ing.Event.l3 rfl rfl) (Gt (BC rfl rfl) (Gm rfl (Bf 21 rfl rfl (fun q=>Aj HD rfl) (Bf 21 rfl rfl (fun q=>AG (cF rfl q) A5 .m0 Ing.Event.l3 rfl rfl) (Bf 21 rfl rfl (fun q=>CO (cF rfl q) rfl) ?_)))))))
  refine Gt (BU rfl rfl (fun h=>by rw [h];rfl)) ?_
  refine Gm rfl (Bf 26 rfl rfl (fun q=>AU rfl Be .m1 (AQ.id AI.fl.len AI.fl.one) rfl) (Bf 26 rfl rfl (fun q=>AD rfl) (Bf 26 rfl rfl (fun q=>Aj HD rfl) (Bf 26 rfl rfl (fun q=>AG (cF rfl q) A5 .m0 Ing.Event.l3 rfl rfl) ?_))))
  refine RA (t:=26) rfl rfl rfl (fun q=>by have q1:=q;(try simp at q1);exact EB O5 (.c (cF rfl q) (.c (cF rfl q) (.c (cF rfl q) .n))) (fun w hS=>DS _ _ _ w)) ?_
  refine Gt (BU rfl rfl (fun h=>by rw [h];rfl)) ?_
  refine Gn (.t1 32) ?_
  refine Gc (fun c3=>?_) (fun c3=>?_)
  ·
   refine Gs (Ga rfl (Gn (.t1 6) (Ae (AE (AS (AE ?_))))))
   refine AZ rfl (.tmp rfl .n) ?_
   intro w1 hS;refine⟨?_,hS.Al⟩;rw [show X.Dv b e=_ from((AX c1).trans ((BJ c2).trans (BJ c3)))];rfl
  refine Aa ?_
  refine AB (.nil _) ?_
  refine AA (Gs (Ga rfl (AT (AA (Ae (AS (AE ?_)))))))
  refine AZ rfl (.tmp rfl .n) ?_
  intro w1 hS;refine⟨?_,hS.Al⟩;rw [show X.Dv b e=_ from((AX c1).trans ((BJ c2).trans (AX c3)))];rfl
 have c2p:=kz c2
 refine Au ?_
 refine BN (N:=14) [0,1,3,7,15,15,63,127,255,15,527,2047,4095,8191] mix (by kernel_rfl) rfl ?_
 refine Pf 0 rfl (Aj Tq rfl) (Pf 1 rfl (AG rfl A5 .m0 Ing.Event.l0 rfl rfl) (Pf 2 rfl (Ai rfl rfl) (Pf 3 rfl (AD rfl) (Hx 4 37 rfl rfl rfl (fun q=>AD rfl) (Hx 5 37 rfl rfl rfl (fun q=>Aj Br rfl) ?_)))))
 refine Bh 6 rfl rfl (by kernel_rfl) (HH (t:=37) rfl rfl (fun q=>by have q1:=q;(try simp at q1);exact I1 (AV DB (cF rfl q) (cF rfl q) (by omega) (by omega)))) ?_
 refine Hx 7 37 rfl rfl rfl (fun q=>Aj C9 (cF rfl q)) ?_
 refine Bh 8 rfl rfl (by kernel_rfl) (HH (t:=37) rfl rfl (fun q=>by have q1:=q;(try simp at q1);exact I1 (AG (cF rfl q) A5 .m1 ((AI.l2.comp (AQ.ar (n:=6) An.fl (by omega))).comp An.l3) rfl rfl))) ?_
 refine Hx 9 37 rfl rfl rfl (fun q=>Aj Xz rfl) (Hx 10 37 rfl rfl rfl (fun q=>AG (cF rfl q) A5 .m0 Ing.Event.l1 rfl rfl) (Hx 11 37 rfl rfl rfl (fun q=>Cb (cF rfl q) (cF rfl q)) ?_))
 refine Pf 12 rfl (BU rfl rfl (fun h=>by rw [h];rfl)) ?_
 refine Pf 13 rfl (A1 rfl) ?_
 refine Az (by kernel_rfl) ?_
 refine AB (.t4 1 3 5 33) ?_
 refine AA ?_
 refine Gc (fun c4=>?_) (fun c4=>?_)
 ·
  refine Gs (Ga rfl (Gn (.t1 6) (Ae (AS (AE ?_)))))
  refine AZ rfl (.tmp rfl .n) ?_
  intro w1 hS;refine⟨?_,hS.Al⟩;rw [show X.Dv b e=_ from((AX c1).trans ((AX c2).trans (BJ c4)))];rfl
 have c4p:=kz c4
 refine Aa ?_
 refine AB (.t3 1 3 5) ?_
 refine AW (AA (Gs (Ga rfl (AT (AA (CH (Gt (AU rfl Be .m1 (AQ.id AI.fl.len AI.fl.one) rfl) ?_)))))))
 refine Gm rfl (Gt (Aj Qm rfl) (Gt (AG rfl A5 .m0 Ing.Event.l2 rfl rfl) ?_))
 refine BE rfl O5 (.c rfl (.c rfl (.c rfl .n))) (fun w hS=>DS _ _ _ w) ?_
 refine Gt (BX rfl) (Gn (.t5 1 3 5 7 52) ?_)
 refine Gc (fun c5=>?_) (fun c5=>?_)
 ·
  have c5p:=kz c5
  refine CH (Gt (Aj Tq rfl) (Gt (AG rfl A5 .m0 Ing.Event.l0 rfl rfl) ?_))
  refine BE rfl dI (.c rfl .n) (fun w hS=>NQ _ w) ?_
  refine Gt (BX rfl) (Gn (.t5 1 3 5 7 56) ?_)
  refine Gc (fun c6=>?_) (fun c6=>?_)
  ·
   refine Gs (Ga rfl (Gn (.t1 6) (Ae (AE (AE ?_)))))
   refine AZ rfl (.tmp rfl .n) ?_
   intro w1 hS;refine⟨?_,hS.Al⟩;rw [show X.Dv b e=_ from((AX c1).trans ((AX c2).trans ((AX c4).trans ((BJ c5).trans (BJ c6)))))];rfl
  have c6p:=kz c6
  refine Aa ?_
  refine AB (.t4 1 3 5 7) ?_
  refine AA (AK (Gm rfl ?_))
  refine Gt (Ay rfl rfl (IntWalk.i64_in _ (by omega))) ?_
  refine Ga rfl (Gn (.t4 1 3 5 7) (CH (Gt (Aj HD rfl) (Gt (AG rfl A5 .m0 Ing.Event.l3 rfl rfl) (Gt (CO rfl rfl) (Gm rfl (Bg 62 rfl rfl (fun q=>Aj HD rfl) ?_)))))))
  refine Bg 62 rfl rfl (fun q=>AG (Bc rfl q) A5 .m0 Ing.Event.l3 rfl rfl) (Bg 62 rfl rfl (fun q=>BC (Bc rfl q) rfl) (Gt (BM rfl rfl (fun h=>h)) (Gm rfl (Bg 67 rfl rfl (fun q=>AU rfl Be .m1 (AQ.id AI.fl.len AI.fl.one) rfl) (Bg 67 rfl rfl (fun q=>AD rfl) (Bg 67 rfl rfl (fun q=>Aj HD rfl) (Bg 67 rfl rfl (fun q=>AG (Bc rfl q) A5 .m0 Ing.Event.l3 rfl rfl) ?_)))))))
  refine LD (t:=67) rfl rfl rfl (fun q=>EB O5 (.c (Bc rfl q) (.c (Bc rfl q) (.c (Bc rfl q) .n))) (fun w hS=>DS _ _ _ w)) ?_
  refine Bg 67 rfl rfl (fun q=>BX (Bc rfl q)) (Gt (BM rfl rfl (fun h=>h)) (Gn (.t2 7 74) ?_))
  refine Gc (fun c7=>?_) (fun c7=>?_)
  ·
   have c7p:=kz c7
   refine AK (Gm rfl ?_)
   refine Gt (Ay rfl rfl (IntWalk.i64_in _ (by omega))) ?_
   refine Ga rfl (Gn (.t1 7) (Gs (Gm rfl (Ga rfl (Gn (.t1 6) (Ae ?_))))))
   refine AZ rfl (.tmp rfl .n) ?_
   intro w1 hS;refine⟨?_,hS.Al⟩;rw [show X.Dv b e=_ from((AX c1).trans ((AX c2).trans ((AX c4).trans ((BJ c5).trans ((AX c6).trans (BJ c7))))))];rfl
  refine Aa ?_
  refine AB (.t1 7) ?_
  refine AA (Gs (Gm rfl (Ga rfl (Gn (.t1 6) (Ae ?_)))))
  refine AZ rfl (.tmp rfl .n) ?_
  intro w1 hS;refine⟨?_,hS.Al⟩;rw [show X.Dv b e=_ from((AX c1).trans ((AX c2).trans ((AX c4).trans ((BJ c5).trans ((AX c6).trans (AX c7))))))];rfl
 have c5p:=kz c5
 refine Aa ?_
 refine AB (.t4 1 3 5 7) ?_
 refine AA (CH (Gt (Aj HD rfl) (Gt (AG rfl A5 .m0 Ing.Event.l3 rfl rfl) (Gt (CO rfl rfl) (Gm rfl (Bg 62 rfl rfl (fun q=>Aj HD rfl) (Bg 62 rfl rfl (fun q=>AG (Bc rfl q) A5 .m0 Ing.Event.l3 rfl rfl) ?_)))))))
 refine Bg 62 rfl rfl (fun q=>BC (Bc rfl q) rfl) (Gt (BM rfl rfl (fun h=>h)) (Gm rfl (Bg 67 rfl rfl (fun q=>AU rfl Be .m1 (AQ.id AI.fl.len AI.fl.one) rfl) (Bg 67 rfl rfl (fun q=>AD rfl) (Bg 67 rfl rfl (fun q=>Aj HD rfl) (Bg 67 rfl rfl (fun q=>AG (Bc rfl q) A5 .m0 Ing.Event.l3 rfl rfl) ?_))))))
 refine LD (t:=67) rfl rfl rfl (fun q=>EB O5 (.c (Bc rfl q) (.c (Bc rfl q) (.c (Bc rfl q) .n))) (fun w hS=>DS _ _ _ w)) ?_
 refine Bg 67 rfl rfl (fun q=>BX (Bc rfl q)) (Gt (BM rfl rfl (fun h=>h)) (Gn (.t2 7 74) ?_))
 refine Gc (fun c8=>?_) (fun c8=>?_)
 ·
  have c8p:=kz c8
  refine AK (Gm rfl ?_)
  refine Gt (Ay rfl rfl (IntWalk.i64_in _ (by omega))) ?_
  refine Ga rfl (Gn (.t1 7) (Gs (Gm rfl (Ga rfl (Gn (.t1 6) (Ae ?_))))))
  refine AZ rfl (.tmp rfl .n) ?_
  intro w1 hS;refine⟨?_,hS.Al⟩;rw [show X.Dv b e=_ from((AX c1).trans ((AX c2).trans ((AX c4).trans ((AX c5).trans (BJ c8)))))];rfl
 refine Aa ?_
 refine AB (.t1 7) ?_
 refine AA (Gs (Gm rfl (Ga rfl (Gn (.t1 6) (Ae ?_)))))
 refine AZ rfl (.tmp rfl .n) ?_
 intro w1 hS;refine⟨?_,hS.Al⟩;rw [show X.Dv b e=_ from((AX c1).trans ((AX c2).trans ((AX c4).trans ((AX c5).trans (AX c8)))))];rfl
theorem J0 (X:AI)(e:Ing.Event)(w:World):Ee Tryz.prog 123 #[.agg X.enc.toArray, .agg e.enc.toArray] w fun v w'=>v = .agg (X.H2 e 6).enc.toArray∧B9 w w':=by
 refine Ao [] [] Tryz.func123 rfl rfl rfl (St.start w []) ?_
 refine Gs ?_
 refine B4 rfl rfl rfl (fun b1=>?_)
 refine B4 rfl rfl rfl (fun b2=>?_)
 refine A6 rfl Iv rfl (fun b3=>?_)
 refine Gn (.t3 2 3 4) (CH (Gm rfl (AT (AA (Ak ?_)))))
 refine Bt (.t4 6 2 3 4) ?_
 refine BZ (.t .h) ?_
 refine Ch (fun(k:Int)=>0≤k∧k≤6) (fun(k:Int)=>(6 - k).toNat) (fun(k:Int)=> [(6, .int .i64 k)]) (fun(k:Int)=> [Af.box b2 56 (Ing.Event.enc (X.H2 e k.toNat))]) (0) ?_ rfl rfl (fun k hI1=>?_)
 · exact⟨Int.le_refl _,by omega⟩
 obtain⟨hI11,hI12⟩:=hI1
 refine Gs (Gt (BC rfl rfl) (AT (AA (Au ?_))))
 refine Gc (fun c1=>?_) (fun c1=>?_)
 ·
  have c1p:=kz c1
  refine Aa ?_
  refine AB (.t4 2 3 4 6) ?_
  refine AA (Au (Ak (Gs (Gm rfl (Ga rfl (Gn (.t5 2 3 4 5 6) (AK ?_)))))))
  refine Gm rfl (Gt (AU rfl Be .m2 (AQ.id AI.fl.len AI.fl.one) rfl) (Gm rfl (Gt (AU rfl O1 .m0 (AQ.id Ing.Event.fl.len Ing.Event.fl.one) rfl) ?_)))
  refine BE rfl cS (.c rfl (.c rfl (.c rfl .n))) (fun w hS=>KG _ _ _ w) ?_
  refine Gt (Aj Nh rfl) ?_
  refine Gt (AV Sr rfl rfl (by omega) (by omega)) ?_
  refine AO (AJ (Ing.Event.l10.comp (AQ.ar (n:=6) B5 (by omega))) rfl rfl rfl DJ rfl .h) ?_
  refine AT (AB (.t4 2 3 4 6) ?_)
  refine AW (AA (AK ?_))
  refine Gt (Ay rfl rfl (IntWalk.i64_in _ (by omega))) ?_
  refine Gm rfl ?_
  refine AT (AB (.t4 2 3 4 6) ?_)
  refine B7 (k+1) ?_ ?_ (.t4 6 2 3 4) (by rw [AI.Wd (by omega)];exact(.refl _))
  · exact⟨by omega,by omega⟩
  · omega
 have c1p:=kz c1
 obtain rfl:k=6:=by omega
 refine Bl (AY (AY (Am ?_)))
 refine AB (.t2 3 4) ?_
 refine AA (Gs (Gt (AU rfl O1 .m0 (AQ.id Ing.Event.fl.len Ing.Event.fl.one) rfl) ?_))
 refine AO (AJ (AQ.id Ing.Event.fl.len Ing.Event.fl.one) rfl rfl rfl N7 rfl (.t .h)) ?_
 refine Gn (.t1 4) (Ae ?_)
 refine AZ rfl (.cell rfl .m1 (.inl ⟨(by rw [Ing.Event.fl.len];exact O1),rfl⟩) .n) ?_
 intro w1 hS;refine⟨?_,hS.Al⟩;rfl
theorem CU (b:Nat)(T:AF)(g:Hd)(e:Ing.Event)(hg:g.len=T.out.length)(hb:0≤T.b∧T.b < 6)(ho:e.other < 6)(hn:T.out.length≤100000):Jp Tryz.prog 96 #[.pointer (some ⟨b,0,none⟩), .agg e.enc.toArray] [Af.box b 163 (Ag.enc ⟨T.w,T.b,g⟩),Af.own g 56 16 (T.out.flatMap Ing.Event.enc)] (fun v B=>∃ g':Hd,v = .tuple #[]∧g'.len=(T.BS e).out.length∧B = [Af.box b 163 (Ag.enc ⟨(T.BS e).w,(T.BS e).b,g'⟩),Af.own g' 56 16 ((T.BS e).out.flatMap Ing.Event.enc)]):=by
 intro w hS0
 refine Ao _ _ Tryz.func96 rfl rfl rfl (hS0) ?_
 refine Gs ?_
 refine B4 rfl rfl rfl (fun b1=>?_)
 refine Gn (.t2 0 3) (Au ?_)
 refine BN (N:=12) [0,0,2,6,14,1,33,97,255,511,0,2047] mix (by kernel_rfl) rfl ?_
 refine Pf 0 rfl (AD rfl) (Pf 1 rfl (AD rfl) (Pf 2 rfl (Ba rfl) (Pf 3 rfl (Aj CW rfl) (Pf 4 rfl (AG rfl A5 .m1 Ag.l1 rfl rfl) (Pf 5 rfl (Ba rfl) (Pf 6 rfl (Aj BD rfl) (Pf 7 rfl (Aj Br rfl) ?_)))))))
 refine Pf 8 rfl (AV DB rfl rfl (by(try dsimp only at *);omega) (by(try dsimp only at *);omega)) ?_
 refine Pf 9 rfl (AU rfl GC .m1 ((Ag.l0.comp AI.l2).comp (AQ.arr (n:=6) An.fl (by(try dsimp only at *);omega) (by(try dsimp only at *);omega))) rfl) ?_
 refine Ab 10 rfl (by kernel_rfl) ?_
 refine A6 rfl L0 rfl (fun b2=>?_)
 refine BH rfl ⟨?_,?_⟩
 · exact(Po rfl (AU rfl GC .m2 ((Ag.l0.comp AI.l2).comp (AQ.arr (n:=6) An.fl (by(try dsimp only at *);omega) (by(try dsimp only at *);omega))) rfl) rfl rfl (Po rfl (AV DB rfl rfl (by(try dsimp only at *);omega) (by(try dsimp only at *);omega)) rfl rfl (Po rfl (Aj Br rfl) rfl rfl (Po rfl (Aj BD rfl) rfl rfl (Po rfl (Ba rfl) rfl rfl (Po rfl (AG rfl A5 .m2 Ag.l1 rfl rfl) rfl rfl (Po rfl (Aj CW rfl) rfl rfl (Po rfl (Ba rfl) rfl rfl (Po rfl (AD rfl) rfl rfl (Po rfl (AD rfl) rfl rfl Ac))))))))))
 refine Ab 11 rfl (by kernel_rfl) ?_
 refine AO (AJ (AQ.id An.fl.len An.fl.one) rfl rfl rfl Kr rfl .h) ?_
 refine A7 rfl ⟨?_,?_⟩
 · exact(Pk (Pk (Pk (Pk (Pk (Pk (Pk (Pk (Pk (Pk Ac))))))))))
 refine Az (by kernel_rfl) ?_
 refine AB (.t3 0 3 4) ?_
 refine AA (Au ?_)
 refine BN (N:=14) [0,1,3,7,0,16,0,64,15,271,831,1855,4095,8191] mix (by kernel_rfl) rfl ?_
 refine Pf 0 rfl (AD rfl) (Pf 1 rfl (Ba rfl) (Pf 2 rfl (Aj CW rfl) (Pf 3 rfl (AG rfl A5 .m2 Ag.l1 rfl rfl) (Pf 4 rfl (Aj LG rfl) (Pf 5 rfl (AG rfl CK .m0 An.l0 rfl rfl) (Pf 6 rfl (Aj C9 rfl) (Pf 7 rfl (AG rfl A5 .m0 An.l3 rfl rfl) ?_)))))))
 refine Pf 8 rfl (Aj Qm rfl) ?_
 refine Ab 9 rfl (by kernel_rfl) ?_
 refine AO (AJ Ing.Event.l2 rfl rfl rfl DJ rfl (.t .h)) ?_
 refine A7 rfl ⟨?_,?_⟩
 · exact(Pk (Po rfl (AG rfl A5 .m0 An.l3 rfl rfl) rfl rfl (Po rfl (Aj C9 rfl) rfl rfl (Po rfl (AG rfl CK .m0 An.l0 rfl rfl) rfl rfl (Po rfl (Aj LG rfl) rfl rfl (Pk (Pk (Pk (Pk Ac)))))))))
 refine Pf 10 rfl (Aj Xm rfl) ?_
 refine Ab 11 rfl (by kernel_rfl) ?_
 refine AO (AJ Ing.Event.l6 rfl rfl rfl Et rfl (.t .h)) ?_
 refine A7 rfl ⟨?_,?_⟩
 · exact(Pk (Pk (Po rfl (AG rfl A5 .m0 An.l3 rfl rfl) rfl rfl (Po rfl (Aj C9 rfl) rfl rfl (Pk (Pk (Pk (Pk (Pk (Pk Ac))))))))))
 refine Pf 12 rfl (Aj Xz rfl) ?_
 refine Ab 13 rfl (by kernel_rfl) ?_
 refine AO (AJ Ing.Event.l1 rfl rfl rfl DJ rfl (.t .h)) ?_
 refine A7 rfl ⟨?_,?_⟩
 · exact(Pk (Pk (Pk (Pk (Pk (Pk (Pk (Pk (Pk (Pk (Pk Ac)))))))))))
 refine Az (by kernel_rfl) ?_
 refine AB (.t2 0 3) ?_
 refine AA (CH (Gt (Aj HD rfl) (Gt (AG rfl A5 .m1 Ing.Event.l3 rfl rfl) (Gt (CO rfl rfl) (Gn (.t3 0 3 28) ?_)))))
 refine Gc (fun c1=>?_) (fun c1=>?_)
 ·
  have c1p:=kz c1
  refine BN (N:=11) [0,0,2,1,9,25,63,127,255,511,1023] mix (by kernel_rfl) rfl ?_
  refine Pf 0 rfl (AD rfl) (Pf 1 rfl (Aj HD rfl) (Pf 2 rfl (AG rfl A5 .m1 Ing.Event.l3 rfl rfl) (Pf 3 rfl (Ba rfl) (Pf 4 rfl (Aj BD rfl) (Pf 5 rfl (Aj Br rfl) ?_)))))
  refine Pf 6 rfl (AV DB rfl rfl (by(try dsimp only at *);omega) (by(try dsimp only at *);omega)) ?_
  refine Pf 7 rfl (Aj LG rfl) ?_
  refine Pf 8 rfl (AG rfl CK .m2 (((Ag.l0.comp AI.l2).comp (AQ.arr (n:=6) An.fl (by(try dsimp only at *);omega) (by(try dsimp only at *);omega))).comp An.l0) rfl rfl) ?_
  refine Pf 9 rfl (Aj YZ rfl) ?_
  refine Ab 10 rfl (by kernel_rfl) ?_
  refine AO (AJ Ing.Event.l7 rfl rfl rfl Et rfl (.t .h)) ?_
  refine A7 rfl ⟨?_,?_⟩
  · exact(Pk (Pk (Pk (Pk (Pk (Pk (Pk (Pk (Pk (Pk Ac))))))))))
  refine Az (by kernel_rfl) ?_
  refine AB (.t2 0 3) ?_
  refine AA ?_
  refine BN (N:=16) [0,0,2,6,14,0,32,96,224,0,992,2016,4094,8191,16383,32767] mix (by kernel_rfl) rfl ?_
  refine Pf 0 rfl (AD rfl) (Pf 1 rfl (AD rfl) (Pf 2 rfl (Ba rfl) (Pf 3 rfl (Aj CP rfl) (Pf 4 rfl (AG rfl Ds .m2 Ag.l2 rfl rfl) (Pf 5 rfl (AD rfl) (Pf 6 rfl (Ba rfl) (Pf 7 rfl (Aj BD rfl) ?_)))))))
  refine Pf 8 rfl (AU rfl Be .m2 Ag.l0 rfl) (Pf 9 rfl (AU rfl O1 .m1 (AQ.id Ing.Event.fl.len Ing.Event.fl.one) rfl) ?_)
  refine Bh 10 rfl rfl (by kernel_rfl) (Lv (K3 (EB Z7 (.c rfl (.c rfl .n)) (fun w hS=>J0 _ _ w)))) ?_
  refine Ab 11 rfl (by kernel_rfl) ?_
  refine F3 Ing.Event.enc Ing.Event.fl rfl Tryz.underlying53 N7 Iv rfl (by decide) (by decide) rfl rfl (fun b3=>?_)
  refine BH rfl ⟨?_,?_⟩
  · exact(Pk (Pk (Pk (Pk (Pk (Pk (Po rfl (AG rfl Ds .m3 Ag.l2 rfl rfl) rfl rfl (Po rfl (Aj CP rfl) rfl rfl (Po rfl (Ba rfl) rfl rfl (Po rfl (AD rfl) rfl rfl (Po rfl (AD rfl) rfl rfl Ac)))))))))))
  refine Ab 12 rfl (by kernel_rfl) ?_
  refine Ce Ing.Event.fl rfl Tryz.underlying53 N7 Iv rfl W2 (by decide) (by decide) rfl rfl (fun w hS=>Src.D9 Tryz.underlying53 ((Kn.own .m0) w hS)) (by(try dsimp only);omega) (fun _=>(.t (.t (.t (.t .h))))) (fun h1 h1l h1z=>?_)
  refine BH rfl ⟨?_,?_⟩
  · exact(Pk (Pk (Pk (Pk (Pk (Pk (Pk (Pk (Pk (Pk (Po rfl (AD rfl) rfl rfl Ac)))))))))))
  refine Pf 13 rfl (Ba rfl) (Pf 14 rfl (Aj CP rfl) ?_)
  refine Ab 15 rfl (by kernel_rfl) ?_
  refine AO (AJ Ag.l2 rfl rfl rfl SE rfl (.t (.t (.t .h)))) ?_
  refine A7 rfl ⟨?_,?_⟩
  · exact(Pk (Pk (Pk (Pk (Pk (Pk (Pk (Pk (Pk (Pk (Pk (Pk (Pk Ac)))))))))))))
  refine Az (by kernel_rfl) ?_
  refine Bo rfl .n ?_
  intro w1 hS
  have hS:=(hS.perm (Ax.perm (.c (.t (.t (.t .h))) (.c (.t (.t (.t .h))) .n)))).A3
  refine⟨_,⟨?gqTrue,rfl,?hlTrue,?hBTrue⟩,hS⟩
  case hBTrue=>rw [AF.BS,show T.Du e=_ from BJ c1];rfl
  case hlTrue=>simp only [AF.Cf];(try dsimp only at *);omega
 have c1p:=kz c1
 refine Aa ?_
 refine AB (.t2 0 3) ?_
 refine AA ?_
 refine BN (N:=16) [0,0,2,6,14,0,32,96,224,0,992,2016,4094,8191,16383,32767] mix (by kernel_rfl) rfl ?_
 refine Pf 0 rfl (AD rfl) (Pf 1 rfl (AD rfl) (Pf 2 rfl (Ba rfl) (Pf 3 rfl (Aj CP rfl) (Pf 4 rfl (AG rfl Ds .m2 Ag.l2 rfl rfl) (Pf 5 rfl (AD rfl) (Pf 6 rfl (Ba rfl) (Pf 7 rfl (Aj BD rfl) ?_)))))))
 refine Pf 8 rfl (AU rfl Be .m2 Ag.l0 rfl) (Pf 9 rfl (AU rfl O1 .m1 (AQ.id Ing.Event.fl.len Ing.Event.fl.one) rfl) ?_)
 refine Bh 10 rfl rfl (by kernel_rfl) (Lv (K3 (EB Z7 (.c rfl (.c rfl .n)) (fun w hS=>J0 _ _ w)))) ?_
 refine Ab 11 rfl (by kernel_rfl) ?_
 refine F3 Ing.Event.enc Ing.Event.fl rfl Tryz.underlying53 N7 Iv rfl (by decide) (by decide) rfl rfl (fun b4=>?_)
 refine BH rfl ⟨?_,?_⟩
 · exact(Pk (Pk (Pk (Pk (Pk (Pk (Po rfl (AG rfl Ds .m3 Ag.l2 rfl rfl) rfl rfl (Po rfl (Aj CP rfl) rfl rfl (Po rfl (Ba rfl) rfl rfl (Po rfl (AD rfl) rfl rfl (Po rfl (AD rfl) rfl rfl Ac)))))))))))
 refine Ab 12 rfl (by kernel_rfl) ?_
 refine Ce Ing.Event.fl rfl Tryz.underlying53 N7 Iv rfl W2 (by decide) (by decide) rfl rfl (fun w hS=>Src.D9 Tryz.underlying53 ((Kn.own .m0) w hS)) (by(try dsimp only);omega) (fun _=>(.t (.t (.t (.t .h))))) (fun h2 h2l h2z=>?_)
 refine BH rfl ⟨?_,?_⟩
 · exact(Pk (Pk (Pk (Pk (Pk (Pk (Pk (Pk (Pk (Pk (Po rfl (AD rfl) rfl rfl Ac)))))))))))
 refine Pf 13 rfl (Ba rfl) (Pf 14 rfl (Aj CP rfl) ?_)
 refine Ab 15 rfl (by kernel_rfl) ?_
 refine AO (AJ Ag.l2 rfl rfl rfl SE rfl (.t (.t (.t .h)))) ?_
 refine A7 rfl ⟨?_,?_⟩
 · exact(Pk (Pk (Pk (Pk (Pk (Pk (Pk (Pk (Pk (Pk (Pk (Pk (Pk Ac)))))))))))))
 refine Az (by kernel_rfl) ?_
 refine Bo rfl .n ?_
 intro w1 hS
 have hS:=(hS.perm (Ax.perm (.c (.t (.t (.t .h))) (.c (.t (.t (.t .h))) .n)))).A3
 refine⟨_,⟨?gqFalse,rfl,?hlFalse,?hBFalse⟩,hS⟩
 case hBFalse=>rw [AF.BS,show T.Du e=_ from AX c1];rfl
 case hlFalse=>simp only [AF.Cf];(try dsimp only at *);omega
theorem Gi (b:Nat)(T:AF)(g:Hd)(k:Int)(hg:g.len=T.out.length)(hb:0≤T.b∧T.b < 6)(hn:T.out.length≤100000):Jp Tryz.prog 124 #[.pointer (some ⟨b,0,none⟩), .int .i64 k] [Af.box b 163 (Ag.enc ⟨T.w,T.b,g⟩),Af.own g 56 16 (T.out.flatMap Ing.Event.enc)] (fun v B=>∃ g':Hd,v = .tuple #[]∧g'.len=(T.kind k).out.length∧B = [Af.box b 163 (Ag.enc ⟨(T.kind k).w,(T.kind k).b,g'⟩),Af.own g' 56 16 ((T.kind k).out.flatMap Ing.Event.enc)]):=by
 intro w hS0
 refine Ao _ _ Tryz.func124 rfl rfl rfl (hS0) ?_
 refine AK (Gm rfl (Gm rfl (Gt (BL N3 Iv rfl (.cons Ing.Event.l0 rfl rfl rfl (.cons Ing.Event.l3 rfl rfl rfl .nil))) ?_)))
 refine Ah rfl Nq (.c rfl (.c rfl .n)) (.c .h (.c .h .n)) (CU _ _ _ (AF.F8 k) hg hb (show(-1:Int) < 6 by decide) hn) (fun v1 B hv=>?_)
 obtain⟨y2,rfl,y3,rfl⟩:=hv
 refine AT ?_
 refine Bo rfl .n ?_
 intro w1 hS
 have hS:=(hS.perm (Ax.perm (.c .h (.c .h .n)))).A3
 exact⟨_,⟨_,rfl,by assumption,rfl⟩,hS⟩
theorem Bi (b:Nat)(T:AF)(g:Hd)(u:As)(hg:g.len=T.out.length)(hb:0≤T.b∧T.b < 6)(hn:T.out.length≤100000):Jp Tryz.prog 127 #[.pointer (some ⟨b,0,none⟩),BW u] [Af.box b 163 (Ag.enc ⟨T.w,T.b,g⟩),Af.own g 56 16 (T.out.flatMap Ing.Event.enc)] (fun v B=>∃ g':Hd,v = .tuple #[]∧g'.len=(T.tell u).out.length∧B = [Af.box b 163 (Ag.enc ⟨(T.tell u).w,(T.tell u).b,g'⟩),Af.own g' 56 16 ((T.tell u).out.flatMap Ing.Event.enc)]):=by
 intro w hS0
 refine Ao _ _ Tryz.func127 rfl rfl rfl (hS0) ?_
 refine AK (Gm rfl (Gm rfl (Gt (BL N3 Iv rfl (.cons Ing.Event.l0 rfl rfl rfl (.cons Ing.Event.l3 rfl rfl rfl (.cons Ing.Event.l9 rfl rfl rfl .nil)))) ?_)))
 refine Ah rfl Nq (.c rfl (.c rfl .n)) (.c .h (.c .h .n)) (CU _ _ _ { AF.F8 16 with text:=u } hg hb (show(-1:Int) < 6 by decide) hn) (fun v1 B hv=>?_)
 obtain⟨y2,rfl,y3,rfl⟩:=hv
 refine AT ?_
 refine Bo rfl .n ?_
 intro w1 hS
 have hS:=(hS.perm (Ax.perm (.c .h (.c .h .n)))).A3
 exact⟨_,⟨_,rfl,by assumption,rfl⟩,hS⟩
theorem IP (d:Int)(w:World)(gl0:GV 0 AI.DT w):Ee Tryz.prog 52 #[.int .i64 d] w fun v w'=>v=BW (AI.called d)∧B9 w w':=by
 refine Ao [] [] Tryz.func52 rfl rfl rfl (St.start w []) ?_
 refine Gs (Ga rfl (Gn (.t1 0) (CH (Gm rfl (Gt (BC rfl rfl) (Gm rfl (Bf 5 rfl rfl (fun q=>AD rfl) ?_)))))))
 refine Bf 5 rfl rfl (fun q=>CO (cF rfl q) rfl) ?_
 refine Gt (BU rfl rfl (fun h=>by rw [h];rfl)) ?_
 refine Gn (.t2 0 8) ?_
 refine Gc (fun c1=>?_) (fun c1=>?_)
 ·
  refine Gs (Ga rfl (Gn (.t1 2) (Ae (AE ?_))))
  refine AZ rfl (.tmp rfl .n) ?_
  intro w1 hS;refine⟨?_,hS.Al⟩;rw [show AI.called d=_ from BJ c1];rfl
 have c1p:=kz c1
 have hr:0≤d∧d < 6:=by simp at c1;omega
 refine Aa ?_
 refine AB (.t1 0) ?_
 refine AA (Gs (Gm rfl ?_))
 refine Gt (AV YG rfl rfl (by omega) (by omega)) ?_
 refine Gt (Rb gl0 rfl CK (AI.PV hr.1 hr.2)) (Ga rfl (Gn (.t1 2) (Ae ?_)))
 refine AZ rfl (.tmp rfl .n) ?_
 intro w1 hS;refine⟨?_,hS.Al⟩;rw [show AI.called d=_ from AX c1];rfl
theorem FV (X:AI)(Ca at_:Int):Jp Tryz.prog 102 #[.agg X.enc.toArray, .int .i64 Ca, .int .i64 at_] [] (fun v B=>∃ h':Hd,v=h'.val∧h'.len=(X.has Ca at_).length∧B = [Af.own h' 3 1 ((X.has Ca at_).flatMap A0)]):=by
 intro w hS0
 refine Ao _ _ Tryz.func102 rfl rfl rfl (hS0) ?_
 refine Gs ?_
 refine B4 rfl rfl rfl (fun b1=>?_)
 refine Ga rfl (Gn (.t3 1 2 3) (Gs (Ga rfl (AT (AA (CH (Gt (Aj Cz rfl) ?_)))))))
 refine Gt (AU rfl Ym .m0 AI.l1 rfl) (Gm rfl (Gn (.t5 1 2 7 11 12) (Ak ?_)))
 refine Bt (.t5 7 12 1 2 11) ?_
 refine FE A0 3 1 ?_
 refine D1 (fun(k:Int) (xs:List Int) (g:Hd)=>0≤k∧k≤9∧xs=X.Px Ca at_ k.toNat∧g.len=xs.length) (fun(k:Int) (xs:List Int) (g:Hd)=>(9 - k).toNat) (fun(k:Int) (xs:List Int) (g:Hd)=> [(7,g.val),(12, .int .i64 k)]) (fun(k:Int) (xs:List Int) (g:Hd)=> [Af.own g 3 1 (xs.flatMap A0)]) (0) ([]) (_) ?_ rfl rfl (fun k xs g hI1=>?_)
 · exact⟨by omega,by omega,rfl,rfl⟩
 obtain⟨hI11,hI12,hI13,hI14⟩:=hI1
 refine Gs (Gt (BC rfl rfl) (AT (AA (Au ?_))))
 refine Gc (fun c1=>?_) (fun c1=>?_)
 ·
  have c1p:=kz c1
  have hxl:=AI.Sl X Ca at_ k.toNat
  rw [← hI13] at hxl
  refine Aa ?_
  refine AB (.t5 1 2 7 11 12) ?_
  refine AA (Au (Ak (Gs (Gm rfl ?_))))
  refine Gt (GZ Ap.fl Tryz.underlying30 NI rfl rfl (by omega) (by omega)) ?_
  refine A6 rfl Kq rfl (fun b2=>?_)
  refine Ga rfl ?_
  refine AO (AJ (AQ.id Ap.fl.len Ap.fl.one) rfl rfl rfl Nb rfl .h) ?_
  refine Gn (.t7 1 2 7 8 9 11 12) (Gs (Gt (Aj Fh rfl) (Gt (AG rfl A5 .m0 Ap.l2 rfl rfl) (Gm rfl (Gt (Ai rfl rfl) (Gm rfl (Bg 20 rfl rfl (fun q=>Aj DN rfl) ?_)))))))
  refine Bg 20 rfl rfl (fun q=>AG (Bc rfl q) A5 .m0 Ap.l3 rfl rfl) (Bg 20 rfl rfl (fun q=>AD rfl) (Bg 20 rfl rfl (fun q=>Ai (Bc rfl q) (Bc rfl q)) (Gt (BM rfl rfl (fun h=>h)) (Gn (.t7 1 2 7 8 11 12 25) ?_))))
  refine Gc (fun c2=>?_) (fun c2=>?_)
  ·
   have c2p:=kz c2
   refine AK (Gm rfl (Gm rfl ?_))
   refine F3 A0 B5 rfl Tryz.underlying169 DJ bc rfl (by decide) (by decide) rfl rfl (fun b3=>?_)
   refine Ce B5 rfl Tryz.underlying169 DJ bc rfl dt (by decide) (by decide) rfl rfl (fun w hS=>Src.D9 Tryz.underlying169 ((Kn.own .m0) w hS)) (by(try dsimp only);omega) (fun _=>(.t (.t .h))) (fun h1 h1l h1z=>?_)
   refine Ga rfl ?_
   refine AT (AB (.t5 1 2 7 11 12) ?_)
   refine AW (AA (AK ?_))
   refine Gt (Ay rfl rfl (IntWalk.i64_in _ (by omega))) ?_
   refine Gm rfl ?_
   refine AT (AB (.t5 1 2 7 11 12) ?_)
   refine B0 (k+1) _ _ ?_ ?_ (.t5 7 12 1 2 11) (.cons _ (.cons _ (.refl _)))
   · exact⟨by omega,by omega,by rw [AI.bU hI11 c2,← hI13],(by(try dsimp only at *)<;>(try simp only [List.length_append,List.length_cons,List.length_nil])<;>omega)⟩
   · omega
  have c2p:=kz c2
  refine Aa ?_
  refine AB (.t5 1 2 7 11 12) ?_
  refine AW (AA (AK ?_))
  refine Gt (Ay rfl rfl (IntWalk.i64_in _ (by omega))) ?_
  refine Gm rfl ?_
  refine AT (AB (.t5 1 2 7 11 12) ?_)
  refine B0 (k+1) _ _ ?_ ?_ (.t5 7 12 1 2 11) (.cons _ (.refl _))
  · exact⟨by omega,by omega,by rw [AI.bV hI11 c2,← hI13],(by(try dsimp only at *)<;>(try simp only [List.length_append,List.length_cons,List.length_nil])<;>omega)⟩
  · omega
 have c1p:=kz c1
 obtain rfl:k=9:=by omega
 refine Bl (AY (AY (Am ?_)))
 refine AB (.t1 7) ?_
 refine AA (Gs (Gm rfl (Ga rfl (Gn (.t1 6) (Ae ?_)))))
 refine AZ rfl (.tmp rfl .n) ?_
 intro w1 hS
 have hS:=(hS.perm (Ax.perm (.c .h .n))).A3
 exact⟨_,⟨_,rfl,by rw [AI.Ts,← hI13];assumption,by rw [AI.Ts,← hI13]⟩,hS⟩
theorem Lt (b:Nat)(T:AF)(g:Hd)(u:As)(f:Hd)(l:List Int)(hg:g.len=T.out.length)(hb:0≤T.b∧T.b < 6)(hf:f.len=l.length)(hl:l.length≤9)(hi:∀ i∈l,0≤i∧i < 9)(hw:T.w.DL)(hu:u.length≤1000)(hn:T.out.length≤100000):Jp Tryz.prog 101 #[.pointer (some ⟨b,0,none⟩),BW u,f.val] [Af.box b 163 (Ag.enc ⟨T.w,T.b,g⟩),Af.own g 56 16 (T.out.flatMap Ing.Event.enc),Af.own f 3 1 (l.flatMap A0)] (fun v B=>∃ g':Hd,v = .tuple #[]∧g'.len=(T.list u l).out.length∧B = [Af.box b 163 (Ag.enc ⟨(T.list u l).w,(T.list u l).b,g'⟩),Af.own g' 56 16 ((T.list u l).out.flatMap Ing.Event.enc),Af.own f 3 1 (l.flatMap A0)]):=by
 intro w hS0
 refine Ao _ _ Tryz.func101 rfl rfl rfl (hS0) ?_
 refine CH (Gm rfl (Gt (Av rfl Tryz.underlying169 rfl) (Gm rfl (AT (AA (Ak ?_))))))
 refine Bt (.t6 1 10 0 2 8 9) ?_
 refine Ho (fun(k:Int) (x:As)=>0≤k∧k≤(l.length:Int)∧AF.IN T.w u l=AF.IN T.w x (l.drop k.toNat)∧x.length≤1000+k.toNat * 140737488351300) (fun(k:Int) (x:As)=>((l.length:Int) - k).toNat) (fun(k:Int) (x:As)=> [(1,BW x),(10, .int .i64 k)]) (fun(k:Int) (x:As)=> []) (0) (u) ?_ rfl rfl (fun k x hI1=>?_)
 · exact⟨by omega,by omega,by simp,by simp;omega⟩
 obtain⟨hI11,hI12,hI13,hI14⟩:=hI1
 refine Gs (Gt (BC rfl rfl) (AT (AA (Au ?_))))
 refine Gc (fun c1=>?_) (fun c1=>?_)
 ·
  have c1p:=kz c1
  have hx:=hi _ (Bj.E5 (xs:=l) (i:=k.toNat) (by omega))
  have hnl:=hw.th (l.getD k.toNat 0)
  refine Aa ?_
  refine AB (.t6 0 1 2 8 9 10) ?_
  refine AA (Au (Ak (Gs ?_)))
  refine Gt (Bs Gr (by decide) (Kn.own .m2) rfl rfl (by omega) (by omega)) ?_
  refine Gt (DP rfl A5 (Kn.own .m2) (by omega)) ?_
  refine Ga rfl (Gn (.t7 0 1 2 7 8 9 10) (Gs (Gm rfl (Gm rfl (Gm rfl (Gt (Ba rfl) (Gt (Aj BD rfl) ?_)))))))
  refine Gt (Aj Cz rfl) ?_
  refine Gt (AV Gd rfl rfl (by(try dsimp only at *);(try simp only [List.length_append,List.length_cons,List.length_nil]);omega) (by(try dsimp only at *);(try simp only [List.length_append,List.length_cons,List.length_nil]);omega)) ?_
  refine Gt (Aj Mu rfl) ?_
  refine Gt (AG rfl CK .m0 (((Ag.l0.comp AI.l1).comp (AQ.arr (n:=9) Ap.fl (by(try dsimp only at *);(try simp only [List.length_append,List.length_cons,List.length_nil]);omega) (by(try dsimp only at *);(try simp only [List.length_append,List.length_cons,List.length_nil]);omega))).comp Ap.l0) rfl rfl) ?_
  refine Gt (CZ rfl rfl (by(try dsimp only at *);(try simp only [List.length_append,List.length_cons,List.length_nil]);omega)) ?_
  refine Gt (CZ rfl rfl (by(try dsimp only at *);(try simp only [List.length_append,List.length_cons,List.length_nil]);omega)) ?_
  refine Ga rfl (Gn (.t7 0 1 2 7 8 9 10) (Gs (Gm rfl (Gm rfl (Gt (Ba rfl) (Gt (Aj BD rfl) (Gt (Aj Cz rfl) ?_)))))))
  refine Gt (AV Gd rfl rfl (by(try dsimp only at *);(try simp only [List.length_append,List.length_cons,List.length_nil]);omega) (by(try dsimp only at *);(try simp only [List.length_append,List.length_cons,List.length_nil]);omega)) ?_
  refine Gt (Aj GX rfl) ?_
  refine Gt (AG rfl DM .m0 (((Ag.l0.comp AI.l1).comp (AQ.arr (n:=9) Ap.fl (by(try dsimp only at *);(try simp only [List.length_append,List.length_cons,List.length_nil]);omega) (by(try dsimp only at *);(try simp only [List.length_append,List.length_cons,List.length_nil]);omega))).comp Ap.l4) rfl rfl) ?_
  refine Gn (.t7 0 1 2 8 9 10 32) ?_
  refine Gc (fun c2=>?_) (fun c2=>?_)
  ·
   have c2p:=kz c2
   refine AK (Gm rfl ?_)
   refine Gt (CZ rfl rfl (by(try dsimp only at *);(try simp only [List.length_append,List.length_cons,List.length_nil]);omega)) ?_
   refine Ga rfl ?_
   refine AT (AB (.t6 0 1 2 8 9 10) ?_)
   refine AW (AA (AK ?_))
   refine Gt (Ay rfl rfl (IntWalk.i64_in _ (by(try dsimp only at *);(try simp only [List.length_append,List.length_cons,List.length_nil]);omega))) ?_
   refine Gm rfl ?_
   refine AT (AB (.t6 0 1 2 8 9 10) ?_)
   refine Dn (k+1) _ ?_ ?_ (.t6 1 10 0 2 8 9) (.refl _)
   · exact⟨by omega,by omega,by rw [hI13,AF.Zm hI11 (by omega) c2],by simp only [List.length_append,List.length_cons,List.length_nil];omega⟩
   · omega
  have c2p:=kz c2
  refine Aa ?_
  refine AB (.t6 0 1 2 8 9 10) ?_
  refine AW (AA (AK ?_))
  refine Gt (Ay rfl rfl (IntWalk.i64_in _ (by(try dsimp only at *);(try simp only [List.length_append,List.length_cons,List.length_nil]);omega))) ?_
  refine Gm rfl ?_
  refine AT (AB (.t6 0 1 2 8 9 10) ?_)
  refine Dn (k+1) _ ?_ ?_ (.t6 1 10 0 2 8 9) (.refl _)
  · exact⟨by omega,by omega,by rw [hI13,AF.Zk hI11 (by omega) c2],by simp only [List.length_append,List.length_cons,List.length_nil];omega⟩
  · omega
 have c1p:=kz c1
 obtain rfl:k=(l.length:Int):=by omega
 rw [show(l.length:Int).toNat=l.length by omega,List.drop_length] at hI13
 refine Bl (AY (AY (Am ?_)))
 refine AB (.t3 0 1 2) ?_
 refine AA (CH (Gm rfl (Gt (Av rfl Tryz.underlying169 rfl) (Gt (Ai rfl rfl) (Gn (.t3 0 1 38) ?_)))))
 refine Gc (fun c3=>?_) (fun c3=>?_)
 ·
  have c3p:=kz c3
  rw [hf] at c3
  refine AK (Gm rfl ?_)
  refine Gt (CZ rfl rfl (by(try dsimp only at *);(try simp only [List.length_append,List.length_cons,List.length_nil]);omega)) ?_
  refine Ga rfl (Gn (.t2 0 1) (AK (Gm rfl (Gm rfl ?_))))
  refine Gt (CZ rfl rfl (by(try dsimp only at *);(try simp only [List.length_append,List.length_cons,List.length_nil]);omega)) ?_
  refine Ah rfl EH (.c rfl (.c rfl .n)) (.c .h (.c .h .n)) (Bi _ _ _ _ hg hb hn) (fun v1 B hv=>?_)
  obtain⟨y2,rfl,y3,rfl⟩:=hv
  refine AT ?_
  refine Bo rfl .n ?_
  intro w1 hS
  have hS:=(hS.perm (Ax.perm (.c .h (.c .h (.c .h .n))))).A3
  refine⟨_,⟨?gqTrue,rfl,?hlTrue,?hBTrue⟩,hS⟩
  case hBTrue=>rw [AF.list,show AF.SR T.w u l=_ from BJ c3,hI13];rfl
  case hlTrue=>(try simp only [AF.CI] at *);rw [(AF.Hk T u l).2.2];assumption
 have c3p:=kz c3
 rw [hf] at c3
 refine Aa ?_
 refine AB (.t2 0 1) ?_
 refine AA (AK (Gm rfl (Gm rfl ?_)))
 refine Gt (CZ rfl rfl (by(try dsimp only at *);(try simp only [List.length_append,List.length_cons,List.length_nil]);omega)) ?_
 refine Ah rfl EH (.c rfl (.c rfl .n)) (.c .h (.c .h .n)) (Bi _ _ _ _ hg hb hn) (fun v4 B hv=>?_)
 obtain⟨y5,rfl,y6,rfl⟩:=hv
 refine AT ?_
 refine Bo rfl .n ?_
 intro w1 hS
 have hS:=(hS.perm (Ax.perm (.c .h (.c .h (.c .h .n))))).A3
 refine⟨_,⟨?gqFalse,rfl,?hlFalse,?hBFalse⟩,hS⟩
 case hBFalse=>rw [AF.list,show AF.SR T.w u l=_ from AX c3,hI13];rfl
 case hlFalse=>(try simp only [AF.CI] at *);rw [(AF.Hk T u l).2.2];assumption
end Go.Proofs.YtoidpggbbfncpaaGreatDoor
