/- What the functions that the law TopTurns reaches compute: walks, part 1. No condition. -/
import Derived.Test.YtoidpggbbfncpaaGreatDoorCards
import Derived.Test.YtoidpggbbfncpaaGreatDoorTie
import Derived.Deep.DeepHandedRow
import Derived.Test.YtoidpggbbfncpaaGreatDoorRows
import Derived.Test.YtoidpggbbfncpaaGreatDoorTopTurnsEc3
import Derived.Test.YtoidpggbbfncpaaGreatDoorTopTurnsRa1
import Derived.Test.YtoidpggbbfncpaaGreatDoorTopTurnsRb1
import Derived.Test.YtoidpggbbfncpaaGreatDoorTopTurnsRc1
set_option linter.unusedSimpArgs false
set_option linter.unusedVariables false
set_option maxRecDepth 100000
set_option maxHeartbeats 1000000
namespace Go.Proofs.YtoidpggbbfncpaaGreatDoor
open Go Go.Ing Go.RowKit Go.ChangeShapes Go.WideShapes Go.ChangeAt
theorem YY : ZV Tryz.prog 75 (.agg (BG.enc ⟨[], false, false, ⟨none, 0, 0⟩⟩).toArray) := E2 (by kernel_rfl)
theorem bx : Sz Tryz.prog 99 88 := Dp (by kernel_rfl)
theorem GP : FA Tryz.prog 101 1 165 := Bt Tryz.underlying101 rfl bx
theorem TA : Sz Tryz.prog 98 22 := Dp (by kernel_rfl)
theorem PL : IA Tryz.prog 99 4 22 := Ln Tryz.underlying99 TA
theorem MI : Sz Tryz.prog 75 4 := Dp (by kernel_rfl)
theorem K3 : FA Tryz.prog 98 3 12 := Bt Tryz.underlying98 rfl MI
theorem Ht : OJ Tryz.prog 75 4 := E5 Tryz.underlying75 rfl MI
theorem My : Sz Tryz.prog 52 1 := Dp (by kernel_rfl)
theorem FP : FA Tryz.prog 75 3 3 := Bt Tryz.underlying75 rfl My
theorem FZ : Q8 Tryz.prog 52 := JB Tryz.underlying52 rfl
theorem Eo : Sz Tryz.prog 9 1 := Dp (by kernel_rfl)
theorem Sh : ZV Tryz.prog 9 (BS []) := E2 (by kernel_rfl)
theorem X1 : BY Tryz.prog 9 16 := UB (by kernel_rfl)
theorem C5 : Sz Tryz.prog 3 1 := Dp (by kernel_rfl)
theorem I9 : FA Tryz.prog 98 0 0 := Bt Tryz.underlying98 rfl C5
theorem A3 : Q8 Tryz.prog 3 := JB Tryz.underlying3 rfl
theorem mix : Tryz.prog.follows .mixedOrders = true := by kernel_rfl
theorem IE : FA Tryz.prog 98 1 1 := Bt Tryz.underlying98 rfl C5
theorem dG : CF Tryz.prog 32 := Tryz.call32
theorem cD : CF Tryz.prog 21 := Tryz.call21
theorem Ki : FA Tryz.prog 41 0 0 := Bt Tryz.underlying41 rfl C5
theorem VF : IA Tryz.prog 49 4 1 := Ln Tryz.underlying49 C5
theorem M9 : ZV Tryz.prog 35 (.agg (AH.enc (default : AH)).toArray) := E2 (by kernel_rfl)
theorem VE : ZV Tryz.prog 23 (.agg (B3 (n := 6) Au (Vector.replicate 6 default)).toArray) := E2 (by kernel_rfl)
theorem KX : Sz Tryz.prog 4 1 := Dp (by kernel_rfl)
theorem cB : ZV Tryz.prog 24 (.agg (B3 (n := 6) CY (Vector.replicate 6 default)).toArray) := E2 (by kernel_rfl)
theorem Wg : Sz Tryz.prog 23 6 := Dp (by kernel_rfl)
theorem aw : Sz Tryz.prog 24 6 := Dp (by kernel_rfl)
theorem VK : HU Tryz.prog 26 [(0, 1), (1, 1), (2, 6), (8, 6)] := ⟨_, Tryz.underlying26, fun w => by simp [Eo w, KX w, Wg w, aw w]⟩
theorem O1 : ZV Tryz.prog 26 (.agg (Room.enc (default : Room)).toArray) := E2 (by kernel_rfl)
theorem Q0 : Sz Tryz.prog 26 14 := Dp (by kernel_rfl)
theorem dL : IS Tryz.prog 95 14 := Og Tryz.underlying95 Q0
theorem OI : OJ Tryz.prog 26 14 := E5 Tryz.underlying26 rfl Q0
theorem aQ : Sz Tryz.prog 27 84 := Dp (by kernel_rfl)
theorem Gv : FA Tryz.prog 35 0 0 := Bt Tryz.underlying35 rfl aQ
theorem Ox : IA Tryz.prog 27 6 14 := Ln Tryz.underlying27 Q0
theorem QS : HU Tryz.prog 29 [(0, 1), (1, 1), (2, 1), (3, 1), (4, 1)] := ⟨_, Tryz.underlying29, fun w => by simp [Eo w, C5 w, KX w]⟩
theorem KU : ZV Tryz.prog 29 (.agg (Ak.enc (default : Ak)).toArray) := E2 (by kernel_rfl)
theorem Mv : Sz Tryz.prog 29 5 := Dp (by kernel_rfl)
theorem dB : IS Tryz.prog 96 5 := Og Tryz.underlying96 Mv
theorem Mo : OJ Tryz.prog 29 5 := E5 Tryz.underlying29 rfl Mv
theorem cG : Sz Tryz.prog 30 45 := Dp (by kernel_rfl)
theorem Cw : FA Tryz.prog 35 1 84 := Bt Tryz.underlying35 rfl cG
theorem GA : IA Tryz.prog 30 9 5 := Ln Tryz.underlying30 Mv
theorem Wt : HU Tryz.prog 32 [(0, 1), (1, 1), (2, 1), (3, 1), (4, 1), (5, 1)] := ⟨_, Tryz.underlying32, fun w => by simp [Eo w, KX w, C5 w]⟩
theorem Lw : ZV Tryz.prog 32 (.agg (Aj.enc (default : Aj)).toArray) := E2 (by kernel_rfl)
theorem cA : Sz Tryz.prog 33 36 := Dp (by kernel_rfl)
theorem Bn : FA Tryz.prog 35 2 129 := Bt Tryz.underlying35 rfl cA
theorem KQ : Sz Tryz.prog 32 6 := Dp (by kernel_rfl)
theorem C6 : IA Tryz.prog 33 6 6 := Ln Tryz.underlying33 KQ
theorem D6 : Sz Tryz.prog 35 165 := Dp (by kernel_rfl)
theorem BW : OJ Tryz.prog 35 165 := E5 Tryz.underlying35 rfl D6
theorem cb : CF Tryz.prog 15 := Tryz.call15
theorem Rq : Sz Tryz.prog 53 1 := Dp (by kernel_rfl)
theorem aT : HU Tryz.prog 101 [(0, 165), (165, 88), (253, 1), (254, 1)] := ⟨_, Tryz.underlying101, fun w => by simp [D6 w, bx w, C5 w, Rq w]⟩
theorem cK : ZV Tryz.prog 101 (.agg (AL.enc (default : AL)).toArray) := E2 (by kernel_rfl)
theorem JQ : IS Tryz.prog 52 1 := Og Tryz.underlying52 Eo
theorem CV : Q8 Tryz.prog 9 := JB Tryz.underlying9 rfl
theorem U6 : CF Tryz.prog 69 := Tryz.call69
theorem Xf : ZV Tryz.prog 65 (.agg (Ay.enc ⟨⟨none, 0, 0⟩, 0, false, [], false⟩).toArray) := E2 (by kernel_rfl)
theorem Q9 : FA Tryz.prog 65 2 2 := Bt Tryz.underlying65 rfl KX
theorem MZ : FA Tryz.prog 65 1 1 := Bt Tryz.underlying65 rfl C5
theorem Fv : Sz Tryz.prog 65 5 := Dp (by kernel_rfl)
theorem Cy : OJ Tryz.prog 65 5 := E5 Tryz.underlying65 rfl Fv
theorem bU : CF Tryz.prog 116 := Tryz.call116
theorem Yz : CF Tryz.prog 115 := Tryz.call115
theorem Gy : FA Tryz.prog 29 1 1 := Bt Tryz.underlying29 rfl C5
theorem F5 : FA Tryz.prog 29 4 4 := Bt Tryz.underlying29 rfl KX
theorem Dj : Q8 Tryz.prog 4 := JB Tryz.underlying4 rfl
theorem DF : FA Tryz.prog 29 3 3 := Bt Tryz.underlying29 rfl C5
theorem FU : FA Tryz.prog 29 2 2 := Bt Tryz.underlying29 rfl C5
theorem IB : FA Tryz.prog 32 1 1 := Bt Tryz.underlying32 rfl KX
theorem av : OJ Tryz.prog 27 84 := E5 Tryz.underlying27 rfl aQ
theorem MM : FA Tryz.prog 26 2 2 := Bt Tryz.underlying26 rfl Wg
theorem ZD : OJ Tryz.prog 23 6 := E5 Tryz.underlying23 rfl Wg
theorem Mc : FA Tryz.prog 26 3 8 := Bt Tryz.underlying26 rfl aw
theorem VO : IA Tryz.prog 24 6 1 := Ln Tryz.underlying24 KX
theorem Y7 : OJ Tryz.prog 33 36 := E5 Tryz.underlying33 rfl cA
theorem Fj : OJ Tryz.prog 32 6 := E5 Tryz.underlying32 rfl KQ
theorem C2 : FA Tryz.prog 32 3 3 := Bt Tryz.underlying32 rfl C5
theorem JV : FA Tryz.prog 32 4 4 := Bt Tryz.underlying32 rfl C5
theorem GG : FA Tryz.prog 32 5 5 := Bt Tryz.underlying32 rfl C5
theorem dA : CF Tryz.prog 68 := Tryz.call68
theorem Zh : FA Tryz.prog 26 1 1 := Bt Tryz.underlying26 rfl KX
theorem XB : OJ Tryz.prog 30 45 := E5 Tryz.underlying30 rfl cG
theorem ch : CF Tryz.prog 19 := Tryz.call19
theorem W9 : CF Tryz.prog 159 := Tryz.call159
theorem Ug : CF Tryz.prog 129 := Tryz.call129
theorem XL : FA Tryz.prog 32 2 2 := Bt Tryz.underlying32 rfl KX
theorem ZN : CF Tryz.prog 160 := Tryz.call160
theorem Qu : FA Tryz.prog 56 2 2 := Bt Tryz.underlying56 rfl C5
theorem Gx : FA Tryz.prog 56 3 3 := Bt Tryz.underlying56 rfl C5
theorem Nu : CF Tryz.prog 130 := Tryz.call130
theorem TK : FA Tryz.prog 56 0 0 := Bt Tryz.underlying56 rfl C5
theorem WD : FA Tryz.prog 56 1 1 := Bt Tryz.underlying56 rfl C5
theorem bQ : CF Tryz.prog 173 := Tryz.call173
theorem IP : ZV Tryz.prog 56 (.agg (Ing.Event.enc (default : Ing.Event)).toArray) := E2 (by kernel_rfl)
theorem Ni : Sz Tryz.prog 56 16 := Dp (by kernel_rfl)
theorem Oz : OJ Tryz.prog 56 16 := E5 Tryz.underlying56 rfl Ni
theorem bl : CF Tryz.prog 157 := Tryz.call157
theorem NM : FA Tryz.prog 56 10 10 := Bt Tryz.underlying56 rfl Wg
theorem SU : IA Tryz.prog 23 6 1 := Ln Tryz.underlying23 C5
theorem CP : FA Tryz.prog 163 1 165 := Bt Tryz.underlying163 rfl C5
theorem A9 : FA Tryz.prog 163 0 0 := Bt Tryz.underlying163 rfl D6
theorem K1 : FA Tryz.prog 32 0 0 := Bt Tryz.underlying32 rfl Eo
theorem XS : FA Tryz.prog 56 6 6 := Bt Tryz.underlying56 rfl Eo
theorem Xk : FA Tryz.prog 56 7 7 := Bt Tryz.underlying56 rfl Eo
theorem CJ : FA Tryz.prog 163 2 166 := Bt Tryz.underlying163 rfl Rq
theorem Di : Q8 Tryz.prog 53 := JB Tryz.underlying53 rfl
theorem ZH : CF Tryz.prog 123 := Tryz.call123
theorem XI : BY Tryz.prog 56 160 := UB (by kernel_rfl)
theorem N9 : HU Tryz.prog 56 [(0, 1), (1, 1), (2, 1), (3, 1), (4, 1), (5, 1), (6, 1), (7, 1), (8, 1), (9, 1), (10, 6)] := ⟨_, Tryz.underlying56, fun w => by simp [C5 w, Eo w, Wg w]⟩
theorem O9 : CF Tryz.prog 96 := Tryz.call96
theorem WJ : IA Tryz.prog 133 21 1 := Ln Tryz.underlying133 Eo
theorem aM : ZV Tryz.prog 3 (.int .i64 0) := E2 (by kernel_rfl)
theorem cR : BY Tryz.prog 3 8 := UB (by kernel_rfl)
theorem GW : IS Tryz.prog 169 1 := Og Tryz.underlying169 C5
theorem MS : FA Tryz.prog 29 0 0 := Bt Tryz.underlying29 rfl Eo
theorem ED : CF Tryz.prog 127 := Tryz.call127
theorem Z0 : FA Tryz.prog 26 0 0 := Bt Tryz.underlying26 rfl Eo
theorem bP : CF Tryz.prog 52 := Tryz.call52
theorem SZ : CF Tryz.prog 102 := Tryz.call102
theorem ZC : CF Tryz.prog 101 := Tryz.call101
theorem Z4 : CF Tryz.prog 43 := Tryz.call43
theorem cj : CF Tryz.prog 46 := Tryz.call46
theorem Ul : HU Tryz.prog 163 [(0, 165), (165, 1), (166, 1)] := ⟨_, Tryz.underlying163, fun w => by simp [D6 w, C5 w, Rq w]⟩
theorem Uf : ZV Tryz.prog 163 (.agg (Ad.enc (default : Ad)).toArray) := E2 (by kernel_rfl)
theorem UD : CF Tryz.prog 124 := Tryz.call124
theorem Ua : CF Tryz.prog 100 := Tryz.call100
theorem ZF : Sz Tryz.prog 104 1 := Dp (by kernel_rfl)
theorem Ql : FA Tryz.prog 107 0 0 := Bt Tryz.underlying107 rfl ZF
theorem W8 : Q8 Tryz.prog 104 := JB Tryz.underlying104 rfl
theorem So : ∃ i, Tryz.prog.info? 107 = some i ∧ i.size ≠ 0 := by
  have h : (Tryz.prog.info? 107).map (·.size) = some 2 := by kernel_rfl
  obtain ⟨i, h1, h2⟩ := Option.map_eq_some_iff.1 h
  exact ⟨i, h1, by omega⟩
theorem Zc : CF Tryz.prog 71 := Tryz.call71
theorem Tv : Sz Tryz.prog 105 1 := Dp (by kernel_rfl)
theorem En : FA Tryz.prog 107 1 1 := Bt Tryz.underlying107 rfl Tv
theorem ID : Q8 Tryz.prog 105 := JB Tryz.underlying105 rfl
theorem VT : Sz Tryz.prog 5 1 := Dp (by kernel_rfl)
theorem Zd : ZV Tryz.prog 5 (.int .u8 0) := E2 (by kernel_rfl)
theorem dI : BY Tryz.prog 5 1 := UB (by kernel_rfl)
theorem eF : Tryz.prog.cellsOf 5 = 1 := by kernel_rfl
theorem cc : CF Tryz.prog 49 := Tryz.call49
theorem Ue : ZV Tryz.prog 107 (.agg (DV.enc ⟨none, ⟨none, 0, 0⟩⟩).toArray) := E2 (by kernel_rfl)
theorem YV : CF Tryz.prog 50 := Tryz.call50
theorem PH : CF Tryz.prog 51 := Tryz.call51
theorem ZZ : FA Tryz.prog 56 8 8 := Bt Tryz.underlying56 rfl Eo
theorem Zi : FA Tryz.prog 56 4 4 := Bt Tryz.underlying56 rfl C5
theorem Z1 : FA Tryz.prog 56 9 9 := Bt Tryz.underlying56 rfl Eo
theorem aH : FA Tryz.prog 56 5 5 := Bt Tryz.underlying56 rfl C5
theorem cg : CF Tryz.prog 53 := Tryz.call53
theorem Ym : CF Tryz.prog 54 := Tryz.call54
theorem Jm : FA Tryz.prog 65 0 0 := Bt Tryz.underlying65 rfl My
theorem Jc : FA Tryz.prog 65 3 3 := Bt Tryz.underlying65 rfl Eo
theorem ZS : CF Tryz.prog 44 := Tryz.call44
theorem K2 : FA Tryz.prog 65 4 4 := Bt Tryz.underlying65 rfl KX
theorem Dw : FA Tryz.prog 98 4 16 := Bt Tryz.underlying98 rfl Fv
theorem dO : CF Tryz.prog 82 := Tryz.call82
theorem QX : FA Tryz.prog 98 5 21 := Bt Tryz.underlying98 rfl My
theorem QY : FA Tryz.prog 101 3 254 := Bt Tryz.underlying101 rfl Rq
theorem dY : IS Tryz.prog 53 16 := Og Tryz.underlying53 Ni
theorem ca : CF Tryz.prog 23 := Tryz.call23
theorem Tj : CF Tryz.prog 64 := Tryz.call64
theorem EI : FA Tryz.prog 101 0 0 := Bt Tryz.underlying101 rfl D6
theorem aO : CF Tryz.prog 114 := Tryz.call114
theorem U5 : CF Tryz.prog 79 := Tryz.call79
theorem LJ : ZV Tryz.prog 151 (.agg (Order.enc (default : Order)).toArray) := E2 (by kernel_rfl)
theorem Rl : HU Tryz.prog 151 [(0, 1), (1, 1), (2, 1), (3, 1), (4, 1), (5, 1)] := ⟨_, Tryz.underlying151, fun w => by simp [C5 w, KX w, Eo w]⟩
theorem D1 : Sz Tryz.prog 151 6 := Dp (by kernel_rfl)
theorem B6 : OJ Tryz.prog 151 6 := E5 Tryz.underlying151 rfl D1
theorem dM : CF Tryz.prog 87 := Tryz.call87
theorem bL : CF Tryz.prog 76 := Tryz.call76
theorem Y9 : CF Tryz.prog 174 := Tryz.call174
theorem Xb : CF Tryz.prog 176 := Tryz.call176
theorem bZ : CF Tryz.prog 179 := Tryz.call179
theorem Xd : IS Tryz.prog 105 1 := Og Tryz.underlying105 VT
theorem cI : Q8 Tryz.prog 5 := JB Tryz.underlying5 rfl
theorem bN : CF Tryz.prog 167 := Tryz.call167
theorem bO : CF Tryz.prog 168 := Tryz.call168
theorem ZL : CF Tryz.prog 180 := Tryz.call180
theorem au : Sz Tryz.prog 133 21 := Dp (by kernel_rfl)
theorem Zk : OJ Tryz.prog 133 21 := E5 Tryz.underlying133 rfl au
theorem aY : CF Tryz.prog 169 := Tryz.call169
theorem dU : CF Tryz.prog 59 := Tryz.call59
theorem aV : CF Tryz.prog 181 := Tryz.call181
theorem cN : CF Tryz.prog 170 := Tryz.call170
theorem Y3 : CF Tryz.prog 171 := Tryz.call171
theorem bA : CF Tryz.prog 30 := Tryz.call30
theorem cM : CF Tryz.prog 172 := Tryz.call172
theorem bz : CF Tryz.prog 151 := Tryz.call151
theorem Ib : CF Tryz.prog 150 := Tryz.call150
theorem ZI : CF Tryz.prog 152 := Tryz.call152
theorem bH : CF Tryz.prog 153 := Tryz.call153
theorem cC : CF Tryz.prog 94 := Tryz.call94
theorem QW : FA Tryz.prog 151 5 5 := Bt Tryz.underlying151 rfl Eo
theorem Fi : FA Tryz.prog 151 3 3 := Bt Tryz.underlying151 rfl Eo
theorem GK : FA Tryz.prog 151 1 1 := Bt Tryz.underlying151 rfl C5
theorem Up : CF Tryz.prog 154 := Tryz.call154
theorem G5 : FA Tryz.prog 151 2 2 := Bt Tryz.underlying151 rfl KX
theorem ZM : CF Tryz.prog 155 := Tryz.call155
theorem Y6 : CF Tryz.prog 156 := Tryz.call156
theorem Hr : FA Tryz.prog 151 4 4 := Bt Tryz.underlying151 rfl Eo
theorem Yy : CF Tryz.prog 128 := Tryz.call128
theorem UX : CF Tryz.prog 136 := Tryz.call136
theorem ZQ : CF Tryz.prog 125 := Tryz.call125
theorem ZO : CF Tryz.prog 131 := Tryz.call131
theorem WL : CF Tryz.prog 132 := Tryz.call132
theorem Pa : CF Tryz.prog 134 := Tryz.call134
theorem ag : CF Tryz.prog 161 := Tryz.call161
theorem ZE : CF Tryz.prog 133 := Tryz.call133
theorem Nd : CF Tryz.prog 135 := Tryz.call135
theorem DD : FA Tryz.prog 151 0 0 := Bt Tryz.underlying151 rfl C5
theorem aZ : CF Tryz.prog 137 := Tryz.call137
theorem cL : CF Tryz.prog 138 := Tryz.call138
theorem cH : CF Tryz.prog 139 := Tryz.call139
theorem Tu : CF Tryz.prog 140 := Tryz.call140
theorem dN : CF Tryz.prog 99 := Tryz.call99
theorem bY : CF Tryz.prog 103 := Tryz.call103
theorem bc : CF Tryz.prog 104 := Tryz.call104
theorem cO : CF Tryz.prog 105 := Tryz.call105
theorem af : CF Tryz.prog 106 := Tryz.call106
theorem aX : CF Tryz.prog 107 := Tryz.call107
theorem YU : CF Tryz.prog 84 := Tryz.call84
theorem KS : Sz Tryz.prog 69 10 := Dp (by kernel_rfl)
theorem Vb : HU Tryz.prog 98 [(0, 1), (1, 1), (2, 10), (12, 4), (16, 5), (21, 1)] := ⟨_, Tryz.underlying98, fun w => by simp [C5 w, KS w, MI w, Fv w, My w]⟩
theorem VH : ZV Tryz.prog 98 (.agg (A2.enc (default : A2)).toArray) := E2 (by kernel_rfl)
theorem ab : CF Tryz.prog 122 := Tryz.call122
theorem Zz : CF Tryz.prog 67 := Tryz.call67
theorem dC : CF Tryz.prog 91 := Tryz.call91
theorem cu : CF Tryz.prog 92 := Tryz.call92
theorem dJ : CF Tryz.prog 93 := Tryz.call93
theorem dZ : CF Tryz.prog 95 := Tryz.call95
theorem df : CF Tryz.prog 97 := Tryz.call97
theorem ay : CF Tryz.prog 186 := Tryz.call186
theorem ax : CF Tryz.prog 175 := Tryz.call175
theorem aq : CF Tryz.prog 158 := Tryz.call158
theorem bd : CF Tryz.prog 126 := Tryz.call126
theorem XZ : CF Tryz.prog 62 := Tryz.call62
theorem dT : CF Tryz.prog 98 := Tryz.call98
theorem Kj : FA Tryz.prog 98 2 2 := Bt Tryz.underlying98 rfl KS
theorem QN : FA Tryz.prog 69 5 9 := Bt Tryz.underlying69 rfl C5
theorem cw : CF Tryz.prog 83 := Tryz.call83
theorem cX : CF Tryz.prog 77 := Tryz.call77
theorem dK : CF Tryz.prog 78 := Tryz.call78
theorem SB : CF Tryz.prog 65 := Tryz.call65
theorem aj : Sz Tryz.prog 67 3 := Dp (by kernel_rfl)
theorem LD : FA Tryz.prog 69 3 3 := Bt Tryz.underlying69 rfl aj
theorem Kz : IA Tryz.prog 67 3 1 := Ln Tryz.underlying67 C5
theorem J1 : FA Tryz.prog 69 4 6 := Bt Tryz.underlying69 rfl aj
theorem Fm : FA Tryz.prog 69 0 0 := Bt Tryz.underlying69 rfl C5
theorem Kk : FA Tryz.prog 69 1 1 := Bt Tryz.underlying69 rfl C5
theorem Gw : FA Tryz.prog 69 2 2 := Bt Tryz.underlying69 rfl Eo
theorem Zb : ZV Tryz.prog 69 (.agg (AP.enc (default : AP)).toArray) := E2 (by kernel_rfl)
theorem Z7 : CF Tryz.prog 73 := Tryz.call73
theorem D2 : OJ Tryz.prog 69 10 := E5 Tryz.underlying69 rfl KS
theorem Zj : CF Tryz.prog 55 := Tryz.call55
theorem SV : CF Tryz.prog 74 := Tryz.call74
theorem bW : ZV Tryz.prog 145 (.agg (B3 (n := 2) Au (Vector.replicate 2 default)).toArray) := E2 (by kernel_rfl)
theorem db : CF Tryz.prog 80 := Tryz.call80
theorem dj : CF Tryz.prog 81 := Tryz.call81
theorem Ys : CF Tryz.prog 75 := Tryz.call75
theorem cq : CF Tryz.prog 56 := Tryz.call56
theorem ai : CF Tryz.prog 57 := Tryz.call57
theorem dV : CF Tryz.prog 58 := Tryz.call58
theorem Jj : FA Tryz.prog 75 0 0 := Bt Tryz.underlying75 rfl Eo
theorem Nr : FA Tryz.prog 75 1 1 := Bt Tryz.underlying75 rfl KX
theorem OV : FA Tryz.prog 75 2 2 := Bt Tryz.underlying75 rfl KX
theorem Z9 : CF Tryz.prog 70 := Tryz.call70
theorem cr : CF Tryz.prog 45 := Tryz.call45
theorem KV : ZV Tryz.prog 44 (.agg (Bm.enc (default : Bm)).toArray) := E2 (by kernel_rfl)
theorem Qp : FA Tryz.prog 101 2 253 := Bt Tryz.underlying101 rfl C5
theorem bw : Sz Tryz.prog 42 1 := Dp (by kernel_rfl)
theorem NB : HU Tryz.prog 44 [(0, 1), (1, 1)] := ⟨_, Tryz.underlying44, fun w => by simp [bw w, Eo w]⟩
theorem KT : Sz Tryz.prog 44 2 := Dp (by kernel_rfl)
theorem IZ : OJ Tryz.prog 44 2 := E5 Tryz.underlying44 rfl KT
theorem Xs : FA Tryz.prog 41 2 2 := Bt Tryz.underlying41 rfl C5
theorem cn : CF Tryz.prog 60 := Tryz.call60
theorem Sk : FA Tryz.prog 41 1 1 := Bt Tryz.underlying41 rfl C5
theorem dh : CF Tryz.prog 61 := Tryz.call61
theorem Zp : FA Tryz.prog 41 3 3 := Bt Tryz.underlying41 rfl Eo
theorem cZ : CF Tryz.prog 29 := Tryz.call29
theorem ck : CF Tryz.prog 63 := Tryz.call63
theorem da : CF Tryz.prog 66 := Tryz.call66
theorem ae : CF Tryz.prog 37 := Tryz.call37
theorem Zu : HU Tryz.prog 41 [(0, 1), (1, 1), (2, 1), (3, 1)] := ⟨_, Tryz.underlying41, fun w => by simp [C5 w, Eo w]⟩
theorem aD : ZV Tryz.prog 41 (.agg (Bu.enc (default : Bu)).toArray) := E2 (by kernel_rfl)
theorem YF : CF Tryz.prog 38 := Tryz.call38
theorem Xu : FA Tryz.prog 44 0 0 := Bt Tryz.underlying44 rfl bw
theorem Y5 : Q8 Tryz.prog 42 := JB Tryz.underlying42 rfl
theorem cV : CF Tryz.prog 24 := Tryz.call24
theorem cz : CF Tryz.prog 33 := Tryz.call33
theorem ba : Sz Tryz.prog 41 4 := Dp (by kernel_rfl)
theorem aP : IS Tryz.prog 22 4 := Og Tryz.underlying22 ba
theorem Y1 : OJ Tryz.prog 41 4 := E5 Tryz.underlying41 rfl ba
theorem dS : CF Tryz.prog 31 := Tryz.call31
theorem cf : ZV Tryz.prog 49 (.agg (B3 (n := 4) Au (Vector.replicate 4 default)).toArray) := E2 (by kernel_rfl)
theorem cY : CF Tryz.prog 16 := Tryz.call16
theorem Qi (b : Nat) (V : AL) (ls : Vector BD 4) (i : Int) (hi : 0 ≤ i ∧ i < 4) (hl : (ls.at i).queue.length ≤ 1000000) : JS Tryz.prog 32 #[.pointer (some ⟨b, 0, none⟩), .int .i64 i] [Ac.box b 101 (AL.enc V), Ac.Dz (CH 9 (AL.Aw V) ls)] (fun v B => ∃ h' : Hd, v = .agg (BG.enc ⟨(V.Aw.at i).EN.now, (V.Aw.at i).EN.Cr, (V.Aw.at i).EN.ret, h'⟩).toArray ∧ h'.len = (ls.at i).queue.length ∧ B = [Ac.box b 101 (AL.enc V), Ac.Dz (CH 9 (AL.Aw V) ls), Ac.own h' 9 1 ((ls.at i).queue.flatMap A7)]) := by
 intro w hS0
 refine Al _ _ Tryz.func32 rfl rfl rfl (hS0) ?_
 refine Gs ?_
 refine BH rfl YY rfl (fun b1 => ?_)
 refine AQ (AA (CG (Gm rfl (Gt (FM Tryz.underlying37 rfl) (Gm rfl ?_)))))
 refine Ds (t := 8) rfl rfl rfl (AE rfl) ?_
 refine Ds (t := 8) rfl rfl rfl (A8 rfl rfl) ?_
 refine Gt (DX rfl rfl) (Gm rfl (Ba 12 rfl rfl (fun q => AE rfl) (Ba 12 rfl rfl (fun q => CN (cF rfl q) rfl) ?_)))
 refine Gt (BR rfl rfl (fun h => by rw [h]; rfl)) ?_
 refine Gn (.t4 0 1 4 15) ?_
 refine EJ rfl (by rw [Bool.or_eq_false_iff, decide_eq_false_iff_not, decide_eq_false_iff_not]; omega) ?_
 refine Aa ?_
 refine AB (.t3 0 1 4) ?_
 refine AA (Ao ?_)
 refine EY (.c (.t .h) (.c (.t .h) .n)) ?_
 refine FR (k := i) hi.1 hi.2 (fun sv sl hsv hlv hln => ?_)
 have hl2 := hl
 rw [hlv] at hl2
 refine AJ (Gm rfl (Gm rfl (Gt (BT rfl) (Gt (Ah GP rfl) ?_))))
 refine Gt (AR PL rfl rfl (by first | omega | exact hi.1 | exact hi.2) (by first | omega | exact hi.1 | exact hi.2)) ?_
 refine Gt (Ah K3 rfl) (Gt (AZ rfl Ht .m3 ((AU.BJ V hi.1 hi.2).comp A2.l3) rfl) ?_)
 refine BH rfl YY rfl (fun b2 => ?_)
 refine AT (AK (AU.id BG.fl.len BG.fl.one) rfl rfl rfl MI rfl .h) ?_
 refine Gn (.t2 4 5) (Gs (Gt (Ah FP rfl) (Gt (AG rfl FZ .m0 BG.l3 rfl rfl) ?_)))
 refine Dh A7 9 1 ?_
 refine Ku (e := A7) rfl Tryz.underlying52 Eo Sh rfl X1 (by decide) rfl rfl (fun w hS => Src.D3 Tryz.underlying52 ((Kn.own .m2) w hS)) rfl rfl (by omega) (fun _ => .h) (fun h1 h1l => ?_)
 refine Gt (Ah FP rfl) ?_
 refine AT (AK BG.l3 rfl rfl rfl My rfl (.t .h)) ?_
 refine Gn (.t2 4 5) (Gs (Gt (AZ rfl Ht .m1 (AU.id BG.fl.len BG.fl.one) rfl) ?_))
 refine AT (AK (AU.id BG.fl.len BG.fl.one) rfl rfl rfl MI rfl (.t (.t (.t (.t (.t (.t (.t .h)))))))) ?_
 refine Gn (.t1 4) (Ab ?_)
 refine AY rfl (.cell rfl .m7 (.inl ⟨(by rw [BG.fl.len]; exact Ht), rfl⟩) .n) ?_
 intro w1 hS
 have hS := (hS.perm (Ax.perm (.c (.t (.t .h)) (.c (.t (.t .h)) (.c (.t (.t .h)) (.c (.t (.t .h)) (.c (.t (.t .h)) (.c .h .n)))))))).A1
 have e1 : V.BJ i sv = V := by rw [← hsv]; exact V.ME hi.1 hi.2
 have e2 : ls.put i ⟨sl.queue, sl.wait, sl.told⟩ = ls := by rw [← hlv]; exact Vector.NP ls hi.1 hi.2
 have hS := St.close' (s := sv) (qs := sl.queue) (ws := sl.wait) (ts := sl.told) hi.1 hi.2 rfl rfl rfl hS
 rw [e1, e2] at hS
 try rw [hsv]
 rw [hlv]
 refine ⟨_, ⟨_, rfl, ?gl, rfl⟩, hS⟩
 case gl => (try simp only [List.length_append, List.length_nil] at *); omega
theorem Kb (b : Nat) (V : AL) (i : Int) (hi : 0 ≤ i ∧ i < 4) : JS Tryz.prog 21 #[.pointer (some ⟨b, 0, none⟩), .int .i64 i] [Ac.box b 101 (AL.enc V)] (fun v B => v = .tuple #[.int .i64 (Et (V.Aw.at i)).1, .int .i64 (Et (V.Aw.at i)).2] ∧ B = [Ac.box b 101 (AL.enc V)]) := by
 intro w hS0
 refine Al _ _ Tryz.func21 rfl rfl rfl (hS0) ?_
 refine Gs (Ga rfl (Ga rfl (Gn (.t2 0 1) (CG (Gm rfl (Gt (FM Tryz.underlying37 rfl) (Gm rfl ?_)))))))
 refine Ds (t := 8) rfl rfl rfl (AE rfl) ?_
 refine Ds (t := 8) rfl rfl rfl (A8 rfl rfl) ?_
 refine Gt (DX rfl rfl) (Gm rfl (Ba 12 rfl rfl (fun q => AE rfl) (Ba 12 rfl rfl (fun q => CN (cF rfl q) rfl) ?_)))
 refine Gt (BR rfl rfl (fun h => by rw [h]; rfl)) ?_
 refine Gm rfl (Ba 16 rfl rfl (fun q => AE rfl) (Ba 16 rfl rfl (fun q => AE rfl) (Ba 16 rfl rfl (fun q => BT (cF rfl q)) (Ba 16 rfl rfl (fun q => Ah GP (cF rfl q)) ?_))))
 refine Ba 16 rfl rfl (fun q => by have q1 := q; (try simp at q1); exact AR PL (cF rfl q) (cF rfl q) (by first | omega | exact hi.1 | exact hi.2) (by first | omega | exact hi.1 | exact hi.2)) ?_
 refine Ba 16 rfl rfl (fun q => Ah I9 (cF rfl q)) ?_
 refine Ba 16 rfl rfl (fun q => by have q1 := q; (try simp at q1); exact AG (cF rfl q) A3 .m0 ((AL.l1.comp (AU.ar (n := 4) A2.fl (by first | omega | exact hi))).comp A2.l0) rfl rfl) ?_
 refine Ba 16 rfl rfl (fun q => CX (cF rfl q) rfl) ?_
 refine Gt (BR rfl rfl (fun h => by rw [h]; rfl)) ?_
 refine Gn (.t3 0 1 25) ?_
 refine Gc (fun c1 => ?_) (fun c1 => ?_)
 ·
  have c1p := kz c1
  refine CG (Gm rfl (Gt (FM Tryz.underlying37 rfl) (Gm rfl ?_)))
  refine Ds (t := 28) rfl rfl rfl (AE rfl) ?_
  refine Ds (t := 28) rfl rfl rfl (A8 rfl rfl) ?_
  refine Gt (DX rfl rfl) (Gm rfl (Ba 32 rfl rfl (fun q => AE rfl) (Ba 32 rfl rfl (fun q => CN (cF rfl q) rfl) ?_)))
  refine Gt (BR rfl rfl (fun h => by rw [h]; rfl)) ?_
  refine Gn (.t3 0 1 35) ?_
  refine EJ rfl (by rw [Bool.or_eq_false_iff, decide_eq_false_iff_not, decide_eq_false_iff_not]; omega) ?_
  refine Aa ?_
  refine AB (.t2 0 1) ?_
  refine AA (Gs (Gm rfl (Gm rfl (Gt (BT rfl) (Gt (Ah GP rfl) ?_)))))
  refine Gt (AR PL rfl rfl (by first | omega | exact hi.1 | exact hi.2) (by first | omega | exact hi.1 | exact hi.2)) ?_
  refine Gt (Ah I9 rfl) ?_
  refine Gt (AG rfl A3 .m0 ((AL.l1.comp (AU.ar (n := 4) A2.fl (by first | omega | exact hi))).comp A2.l0) rfl rfl) ?_
  refine Ga rfl (Ga rfl (Gn (.t2 4 5) (Ab (AD ?_))))
  refine AY rfl (.tmp rfl (.tmp rfl .n)) ?_
  intro w1 hS
  have hS := (hS.perm (Ax.perm (.c .h .n))).A1
  have hq : Et (V.Aw.at i) = _ := if_neg (by rw [decide_eq_true_eq]; rcases c1p with (h | h) | h <;> first | omega | exact h)
  refine ⟨_, ⟨?gv1, rfl⟩, hS⟩
  case gv1 => rw [hq]; rfl
 have c1p := kz c1
 refine Aa ?_
 refine AB (.t2 0 1) ?_
 refine AA (Ao ?_)
 refine BE (N := 9) [0, 0, 1, 5, 15, 31, 63, 0, 255] mix (by kernel_rfl) rfl ?_
 refine Pf 0 rfl (AE rfl) (Pf 1 rfl (AE rfl) (Pf 2 rfl (BT rfl) (Pf 3 rfl (Ah GP rfl) ?_)))
 refine Pf 4 rfl (AR PL rfl rfl (by first | omega | exact hi.1 | exact hi.2) (by first | omega | exact hi.1 | exact hi.2)) ?_
 refine Pf 5 rfl (Ah IE rfl) ?_
 refine Pf 6 rfl (AG rfl A3 .m0 ((AL.l1.comp (AU.ar (n := 4) A2.fl (by first | omega | exact hi))).comp A2.l1) rfl rfl) ?_
 refine Pf 7 rfl (A0 rfl) (Pf 8 rfl (A0 rfl) ?_)
 refine A4 (by kernel_rfl) ?_
 refine AB (.t2 4 5) ?_
 refine AA (Ab ?_)
 refine AY rfl (.tmp rfl (.tmp rfl .n)) ?_
 intro w1 hS
 have hS := (hS.perm (Ax.perm (.c .h .n))).A1
 have hq : Et (V.Aw.at i) = _ := if_pos (decide_eq_true c1p.2)
 refine ⟨_, ⟨?gv2, rfl⟩, hS⟩
 case gv2 => rw [hq]; rfl
theorem KR (b : Nat) (V : AL) (ls : Vector BD 4) (ev : List Ing.Event) (a : Bu) (r : Bm) (c : Nat) (W : Vector Int 4) (hA : (A5 V ls ev).Live) (hT : NQ a V ls W) : JS Tryz.prog 31 #[.pointer (some ⟨b, 0, none⟩), .agg a.enc.toArray, .agg r.enc.toArray, .pointer (some ⟨c, 0, none⟩)] [Ac.box b 101 (AL.enc V), Ac.Dz (CH 9 (AL.Aw V) ls), Ac.box c 49 (B3 (n := 4) Au W)] (fun v B => ∃ U : Vector Int 4, v = .bool true ∧ Jb ls W U 4 ∧ B = [Ac.box b 101 (AL.enc V), Ac.Dz (CH 9 (AL.Aw V) ls), Ac.box c 49 (B3 (n := 4) Au U)]) := by
 intro w hS0
 refine Al _ _ Tryz.func31 rfl rfl rfl (hS0) ?_
 refine Gs ?_
 refine B4 rfl rfl rfl (fun b1 => ?_)
 refine B4 rfl rfl rfl (fun b2 => ?_)
 refine Ga rfl (Gn (.t3 0 3 5) (CG (Gm rfl (AQ (AA (Af ?_))))))
 refine Bo (.t4 12 0 3 5) ?_
 refine Be (.t (.t (.t (.t .h)))) ?_
 refine Gk (fun (k : Int) (U : Vector Int 4) => 0 ≤ k ∧ k ≤ 4 ∧ Jb ls W U k) (fun (k : Int) (U : Vector Int 4) => (4 - k).toNat) (fun (k : Int) (U : Vector Int 4) => [(12, .int .i64 k)]) (fun (k : Int) (U : Vector Int 4) => [Ac.box c 49 (B3 (n := 4) Au U)]) (0) (W) ?_ rfl rfl (fun k U hI1 => ?_)
 · exact ⟨by omega, by omega, .start ls W⟩
 obtain ⟨hI11, hI12, hI13⟩ := hI1
 refine Gs (Gt (A8 rfl rfl) (AQ (AA (Ao ?_))))
 refine Gc (fun c1 => ?_) (fun c1 => ?_)
 ·
  have c1p := kz c1
  have hk : 0 ≤ k ∧ k < 4 := ⟨by omega, by omega⟩
  have hwb := (hT k hk.1 hk.2)
  have hua := hI13.at hk.1 hk.2
  refine Aa ?_
  refine AB (.t4 0 3 5 12) ?_
  refine AA (Ao (Af (Gs (Gm rfl (Ga rfl (Gn (.t5 0 3 5 8 12) (Gs ?_)))))))
  refine Gm rfl (Gm rfl ?_)
  refine Ag rfl dG (.c rfl (.c rfl .n)) (.c (.t (.t (.t .h))) (.c (.t (.t (.t .h))) .n)) (Qi b V ls k hk (hA.queue hk.1 hk.2)) (fun v1 B hv => ?_)
  obtain ⟨y2, rfl, y3, rfl⟩ := hv
  refine Gt (Xx BG.l3 Tryz.underlying75 rfl FZ rfl rfl) (Gt (Ar rfl Tryz.underlying52 rfl) (Ga rfl (Gn (.t6 0 3 5 8 9 12) (Gs (Gm rfl (Gm rfl ?_))))))
  refine Ag rfl cD (.c rfl (.c rfl .n)) (.c .h .n) (Kb b V k hk) (fun v5 B hv => ?_)
  obtain ⟨rfl, rfl⟩ := hv
  refine Gm rfl (Gt (AM rfl rfl) (Gt (AM rfl rfl) (Ga rfl (Ga rfl (Gn (.t7 0 3 5 8 9 10 12) (CG (Gm rfl ?_)))))))
  refine Gt (CX rfl rfl) (Gn (.t8 0 3 5 8 9 10 12 27) ?_)
  refine Gc (fun c2 => ?_) (fun c2 => ?_)
  ·
   have c2p := kz c2
   refine Gs (Gt (Ah Ki rfl) (Gt (AG rfl A3 .m5 Bu.l0 rfl rfl) (Gt (Ae rfl rfl) (Gm rfl (Bi 31 rfl rfl (fun q => AE rfl) (Bi 31 rfl rfl (fun q => AE rfl) ?_))))))
   refine Bi 31 rfl rfl (fun q => by have q1 := q; (try simp at q1); exact AR VF rfl (Bh rfl q) (by first | omega | exact hk.1 | exact hk.2) (by first | omega | exact hk.1 | exact hk.2)) ?_
   refine Bi 31 rfl rfl (fun q => by have q1 := q; (try simp at q1); exact AG (Bh rfl q) A3 .m3 ((AU.id (Ha Bv).len (Ha Bv).one).comp (AU.ar (n := 4) Bv (by first | omega | exact hk))) rfl rfl) ?_
   refine Bi 31 rfl rfl (fun q => by have q1 := q; (try simp at q1); exact E3 (Bh rfl q) rfl (IntWalk.i64_in _ (by first | omega | exact hk.1 | exact hk.2))) ?_
   refine Bi 31 rfl rfl (fun q => KA rfl (Bh rfl q)) (Bi 31 rfl rfl (fun q => CX (Bh rfl q) (Bh rfl q)) (Gt (BK rfl rfl (fun h => h)) (Gm rfl (Ba 40 rfl rfl (fun q => Ah Ki rfl) (Ba 40 rfl rfl (fun q => AG (cF rfl q) A3 .m5 Bu.l0 rfl rfl) (Ba 40 rfl rfl (fun q => CX (cF rfl q) rfl) (Ba 40 rfl rfl (fun q => AE (cF rfl q)) ?_)))))))
   refine Cu (t := 44) rfl rfl rfl (fun qc q => AE rfl) ?_
   refine Cu (t := 44) rfl rfl rfl (fun qc q => AE rfl) ?_
   refine Cu (t := 44) rfl rfl rfl (fun qc q => by have q1 := q; have qc1 := qc; (try simp at q1 qc1); exact AR VF rfl (Bh rfl (by rw [qc, q]; rfl)) (by first | omega | exact hk.1 | exact hk.2) (by first | omega | exact hk.1 | exact hk.2)) ?_
   refine Cu (t := 44) rfl rfl rfl (fun qc q => by have q1 := q; have qc1 := qc; (try simp at q1 qc1); exact AG (Bh rfl (by rw [qc, q]; rfl)) A3 .m3 ((AU.id (Ha Bv).len (Ha Bv).one).comp (AU.ar (n := 4) Bv (by first | omega | exact hk))) rfl rfl) ?_
   refine Cu (t := 44) rfl rfl rfl (fun qc q => A8 (Bh rfl (by rw [qc, q]; rfl)) (Bh rfl (by rw [qc, q]; rfl))) ?_
   refine Ba 40 rfl rfl (fun q => BK (cF rfl q) rfl (fun h => by rw [q, h]; rfl)) ?_
   refine Gt (BR rfl rfl (fun h => by rw [h]; rfl)) ?_
   refine Gn (.t8 0 3 5 8 9 10 12 51) ?_
   refine EJ rfl (Ti hT hk.1 hk.2 hua y3 c2p) ?_
   refine Aa ?_
   refine AB (.t7 0 3 5 8 9 10 12) ?_
   refine AA (Gs (Gm rfl (Gm rfl ?_)))
   refine Gt (AR VF rfl rfl (by first | omega | exact hk.1 | exact hk.2) (by first | omega | exact hk.1 | exact hk.2)) ?_
   refine AT (AK ((AU.id (Ha Bv).len (Ha Bv).one).comp (AU.ar (n := 4) Bv (by first | omega | exact hk))) rfl rfl rfl C5 rfl (.t (.t (.t .h)))) ?_
   refine Gn (.t6 0 3 5 8 10 12) (Gs (Gm rfl (Gt (Ae rfl rfl) (Gn (.t6 0 3 5 8 12 56) ?_))))
   refine Gc (fun c3 => ?_) (fun c3 => ?_)
   ·
    have c3p := kz c3
    refine AJ (Gm rfl ?_)
    refine Gt (AR VF rfl rfl (by first | omega | exact hk.1 | exact hk.2) (by first | omega | exact hk.1 | exact hk.2)) ?_
    refine AT (AK ((AU.id (Ha Bv).len (Ha Bv).one).comp (AU.ar (n := 4) Bv (by first | omega | exact hk))) rfl rfl rfl C5 rfl (.t (.t (.t .h)))) ?_
    refine AQ (AB (.t4 0 3 5 12) ?_)
    refine AV (AA (AJ ?_))
    refine Gt (Av rfl rfl (IntWalk.i64_in _ (by first | omega | exact hk.1 | exact hk.2))) ?_
    refine Gm rfl ?_
    refine AQ (AB (.t4 0 3 5 12) ?_)
    refine B9 (.c (.t (.t (.t .h))) (.c (.t (.t (.t .h))) (.c (.t (.t (.t .h))) (.c .h (.c .h .n))))) ?_
    refine CO ?_
    refine Cq (k + 1) _ ?_ ?_ (.t4 12 0 3 5) (.refl _)
    · exact ⟨by omega, by omega, by rw [Vector.D4]; exact hI13.next hk.1 hk.2 (by rw [O3 hT hk.1 hk.2 c3p]; rfl)⟩
    · omega
   have c3p := kz c3
   refine Aa ?_
   refine AB (.t4 0 3 5 12) ?_
   refine AV (AA (AJ ?_))
   refine Gt (Av rfl rfl (IntWalk.i64_in _ (by first | omega | exact hk.1 | exact hk.2))) ?_
   refine Gm rfl ?_
   refine AQ (AB (.t4 0 3 5 12) ?_)
   refine B9 (.c (.t (.t (.t .h))) (.c (.t (.t (.t .h))) (.c (.t (.t (.t .h))) (.c .h (.c .h .n))))) ?_
   refine CO ?_
   refine Cq (k + 1) _ ?_ ?_ (.t4 12 0 3 5) (.refl _)
   · exact ⟨by omega, by omega, hI13.next hk.1 hk.2 (by (try dsimp only); omega)⟩
   · omega
  have c2p := kz c2
  refine Aa ?_
  refine AB (.t7 0 3 5 8 9 10 12) ?_
  refine AA (Gs (Gm rfl (Gm rfl ?_)))
  refine Gt (AR VF rfl rfl (by first | omega | exact hk.1 | exact hk.2) (by first | omega | exact hk.1 | exact hk.2)) ?_
  refine AT (AK ((AU.id (Ha Bv).len (Ha Bv).one).comp (AU.ar (n := 4) Bv (by first | omega | exact hk))) rfl rfl rfl C5 rfl (.t (.t (.t .h)))) ?_
  refine Gn (.t6 0 3 5 8 10 12) (Gs (Gm rfl (Gt (Ae rfl rfl) (Gn (.t6 0 3 5 8 12 56) ?_))))
  refine Gc (fun c4 => ?_) (fun c4 => ?_)
  ·
   have c4p := kz c4
   refine AJ (Gm rfl ?_)
   refine Gt (AR VF rfl rfl (by first | omega | exact hk.1 | exact hk.2) (by first | omega | exact hk.1 | exact hk.2)) ?_
   refine AT (AK ((AU.id (Ha Bv).len (Ha Bv).one).comp (AU.ar (n := 4) Bv (by first | omega | exact hk))) rfl rfl rfl C5 rfl (.t (.t (.t .h)))) ?_
   refine AQ (AB (.t4 0 3 5 12) ?_)
   refine AV (AA (AJ ?_))
   refine Gt (Av rfl rfl (IntWalk.i64_in _ (by first | omega | exact hk.1 | exact hk.2))) ?_
   refine Gm rfl ?_
   refine AQ (AB (.t4 0 3 5 12) ?_)
   refine B9 (.c (.t (.t (.t .h))) (.c (.t (.t (.t .h))) (.c (.t (.t (.t .h))) (.c .h (.c .h .n))))) ?_
   refine CO ?_
   refine Cq (k + 1) _ ?_ ?_ (.t4 12 0 3 5) (.refl _)
   · exact ⟨by omega, by omega, by rw [Vector.D4]; exact hI13.next hk.1 hk.2 (by rw [O3 hT hk.1 hk.2 c4p]; rfl)⟩
   · omega
  have c4p := kz c4
  refine Aa ?_
  refine AB (.t4 0 3 5 12) ?_
  refine AV (AA (AJ ?_))
  refine Gt (Av rfl rfl (IntWalk.i64_in _ (by first | omega | exact hk.1 | exact hk.2))) ?_
  refine Gm rfl ?_
  refine AQ (AB (.t4 0 3 5 12) ?_)
  refine B9 (.c (.t (.t (.t .h))) (.c (.t (.t (.t .h))) (.c (.t (.t (.t .h))) (.c .h (.c .h .n))))) ?_
  refine CO ?_
  refine Cq (k + 1) _ ?_ ?_ (.t4 12 0 3 5) (.refl _)
  · exact ⟨by omega, by omega, hI13.next hk.1 hk.2 (by (try dsimp only); omega)⟩
  · omega
 have c1p := kz c1
 obtain rfl : k = 4 := by omega
 refine Bf (AX (AX (Ai ?_)))
 refine AB (.nil _) ?_
 refine AA (Gs (Ga rfl (AQ (AA (Ab ?_)))))
 refine AY rfl (.tmp rfl .n) ?_
 intro w1 hS
 have hS := (hS.perm (Ax.perm (.c (.t (.t (.t .h))) (.c (.t (.t (.t .h))) (.c .h .n))))).A1
 exact ⟨_, ⟨U, rfl, hI13, rfl⟩, hS⟩
theorem PT  (w : World) : Ei Tryz.prog 15 #[] w fun v w' => v = .agg AH.new.enc.toArray ∧ CB w w' := by
 refine Al [] [] Tryz.func15 rfl rfl rfl (St.start w []) ?_
 refine Gs ?_
 refine BH rfl M9 rfl (fun b1 => ?_)
 refine AQ (AA (Gs ?_))
 refine BH rfl M9 rfl (fun b2 => ?_)
 refine AQ (AA (CG ?_))
 refine Gt (Es Tryz.underlying23 C5 VE rfl (.cons (AU.arr (n := 6) (i := 0) Bv (by decide) (by decide)) rfl rfl rfl (.cons (AU.arr (n := 6) (i := 1) Bv (by decide) (by decide)) rfl rfl rfl (.cons (AU.arr (n := 6) (i := 2) Bv (by decide) (by decide)) rfl rfl rfl (.cons (AU.arr (n := 6) (i := 3) Bv (by decide) (by decide)) rfl rfl rfl (.cons (AU.arr (n := 6) (i := 4) Bv (by decide) (by decide)) rfl rfl rfl (.cons (AU.arr (n := 6) (i := 5) Bv (by decide) (by decide)) rfl rfl rfl .nil))))))) ?_
 refine Gt (Es Tryz.underlying24 KX cB rfl (.cons (AU.arr (n := 6) (i := 5) HF (by decide) (by decide)) rfl rfl rfl .nil)) ?_
 refine Gt (BC VK O1 rfl (.cons Room.l0 rfl rfl rfl (.cons Room.l2 rfl rfl rfl (.cons Room.l3 rfl rfl rfl .nil)))) ?_
 refine Gt (Es Tryz.underlying23 C5 VE rfl (.cons (AU.arr (n := 6) (i := 0) Bv (by decide) (by decide)) rfl rfl rfl (.cons (AU.arr (n := 6) (i := 1) Bv (by decide) (by decide)) rfl rfl rfl (.cons (AU.arr (n := 6) (i := 2) Bv (by decide) (by decide)) rfl rfl rfl (.cons (AU.arr (n := 6) (i := 3) Bv (by decide) (by decide)) rfl rfl rfl (.cons (AU.arr (n := 6) (i := 4) Bv (by decide) (by decide)) rfl rfl rfl (.cons (AU.arr (n := 6) (i := 5) Bv (by decide) (by decide)) rfl rfl rfl .nil))))))) ?_
 refine Gt (BC VK O1 rfl (.cons Room.l0 rfl rfl rfl (.cons Room.l2 rfl rfl rfl .nil))) ?_
 refine Gt (Es Tryz.underlying23 C5 VE rfl (.cons (AU.arr (n := 6) (i := 0) Bv (by decide) (by decide)) rfl rfl rfl (.cons (AU.arr (n := 6) (i := 1) Bv (by decide) (by decide)) rfl rfl rfl (.cons (AU.arr (n := 6) (i := 2) Bv (by decide) (by decide)) rfl rfl rfl (.cons (AU.arr (n := 6) (i := 3) Bv (by decide) (by decide)) rfl rfl rfl (.cons (AU.arr (n := 6) (i := 4) Bv (by decide) (by decide)) rfl rfl rfl (.cons (AU.arr (n := 6) (i := 5) Bv (by decide) (by decide)) rfl rfl rfl .nil))))))) ?_
 refine Gt (BC VK O1 rfl (.cons Room.l0 rfl rfl rfl (.cons Room.l2 rfl rfl rfl (.cons Room.l1 rfl rfl rfl .nil)))) ?_
 refine Gt (Es Tryz.underlying23 C5 VE rfl (.cons (AU.arr (n := 6) (i := 0) Bv (by decide) (by decide)) rfl rfl rfl (.cons (AU.arr (n := 6) (i := 1) Bv (by decide) (by decide)) rfl rfl rfl (.cons (AU.arr (n := 6) (i := 2) Bv (by decide) (by decide)) rfl rfl rfl (.cons (AU.arr (n := 6) (i := 3) Bv (by decide) (by decide)) rfl rfl rfl (.cons (AU.arr (n := 6) (i := 4) Bv (by decide) (by decide)) rfl rfl rfl (.cons (AU.arr (n := 6) (i := 5) Bv (by decide) (by decide)) rfl rfl rfl .nil))))))) ?_
 refine Gt (BC VK O1 rfl (.cons Room.l0 rfl rfl rfl (.cons Room.l2 rfl rfl rfl (.cons Room.l1 rfl rfl rfl .nil)))) ?_
 refine Gt (Es Tryz.underlying23 C5 VE rfl (.cons (AU.arr (n := 6) (i := 0) Bv (by decide) (by decide)) rfl rfl rfl (.cons (AU.arr (n := 6) (i := 1) Bv (by decide) (by decide)) rfl rfl rfl (.cons (AU.arr (n := 6) (i := 2) Bv (by decide) (by decide)) rfl rfl rfl (.cons (AU.arr (n := 6) (i := 3) Bv (by decide) (by decide)) rfl rfl rfl (.cons (AU.arr (n := 6) (i := 4) Bv (by decide) (by decide)) rfl rfl rfl (.cons (AU.arr (n := 6) (i := 5) Bv (by decide) (by decide)) rfl rfl rfl .nil))))))) ?_
 refine Gt (Es Tryz.underlying24 KX cB rfl (.cons (AU.arr (n := 6) (i := 2) HF (by decide) (by decide)) rfl rfl rfl .nil)) ?_
 refine Gt (BC VK O1 rfl (.cons Room.l0 rfl rfl rfl (.cons Room.l2 rfl rfl rfl (.cons Room.l3 rfl rfl rfl (.cons Room.l1 rfl rfl rfl .nil))))) ?_
 refine Gt (Es Tryz.underlying23 C5 VE rfl (.cons (AU.arr (n := 6) (i := 0) Bv (by decide) (by decide)) rfl rfl rfl (.cons (AU.arr (n := 6) (i := 1) Bv (by decide) (by decide)) rfl rfl rfl (.cons (AU.arr (n := 6) (i := 2) Bv (by decide) (by decide)) rfl rfl rfl (.cons (AU.arr (n := 6) (i := 3) Bv (by decide) (by decide)) rfl rfl rfl (.cons (AU.arr (n := 6) (i := 4) Bv (by decide) (by decide)) rfl rfl rfl (.cons (AU.arr (n := 6) (i := 5) Bv (by decide) (by decide)) rfl rfl rfl .nil))))))) ?_
 refine Gt (BC VK O1 rfl (.cons Room.l0 rfl rfl rfl (.cons Room.l2 rfl rfl rfl .nil))) ?_
 refine WN (cs := B3 (n := 6) Room.enc (Vector.replicate 6 default)) (cs' := B3 (n := 6) Room.enc AH.S3) rfl Tryz.underlying95 Q0 O1 (by decide) (by decide) (by kernel_rfl) (.cons (AU.arr (n := 6) (i := 0) Room.fl (by decide) (by decide)) rfl rfl rfl (.cons (AU.arr (n := 6) (i := 1) Room.fl (by decide) (by decide)) rfl rfl rfl (.cons (AU.arr (n := 6) (i := 2) Room.fl (by decide) (by decide)) rfl rfl rfl (.cons (AU.arr (n := 6) (i := 3) Room.fl (by decide) (by decide)) rfl rfl rfl (.cons (AU.arr (n := 6) (i := 4) Room.fl (by decide) (by decide)) rfl rfl rfl (.cons (AU.arr (n := 6) (i := 5) Room.fl (by decide) (by decide)) rfl rfl rfl .nil)))))) rfl (fun b3 => ?_)
 refine Gt (Ar rfl Tryz.underlying95 rfl) (Gm rfl (Gn (.t5 0 1 20 21 22) (Af ?_)))
 refine Bo (.t5 22 0 1 20 21) ?_
 refine Be (.t .h) ?_
 refine Ci (fun (k : Int) => 0 ≤ k ∧ k ≤ 6) (fun (k : Int) => (6 - k).toNat) (fun (k : Int) => [(22, .int .i64 k)]) (fun (k : Int) => [Ac.box b2 35 (AH.enc (AH.S0 k.toNat))]) (0) ?_ rfl rfl (fun k hI1 => ?_)
 · exact ⟨Int.le_refl _, by omega⟩
 obtain ⟨hI11, hI12⟩ := hI1
 refine Gs (Gt (A8 rfl rfl) (AQ (AA (Ao ?_))))
 refine Gc (fun c1 => ?_) (fun c1 => ?_)
 ·
  have c1p := kz c1
  dsimp only at c1p
  refine Aa ?_
  refine AB (.t5 0 1 20 21 22) ?_
  refine AA (Ao (Af (Gs (Gm rfl ?_))))
  refine Gt (Br dL (by decide) (Kn.own .m1) rfl rfl (by omega) (by dsimp only; omega)) ?_
  refine Gt (OR rfl OI (by decide) Room.fl (Kn.own .m1) (by simp; omega)) ?_
  refine BH rfl O1 rfl (fun b4 => ?_)
  refine Ga rfl ?_
  refine AT (AK (AU.id Room.fl.len Room.fl.one) rfl rfl rfl Q0 rfl .h) ?_
  refine Gn (.t7 0 1 2 3 20 21 22) (AJ (Gm rfl (Gt (AZ rfl OI .m0 (AU.id Room.fl.len Room.fl.one) rfl) (Gt (Ah Gv rfl) ?_))))
  refine Gt (AR Ox rfl rfl (by omega) (by omega)) ?_
  refine AT (AK (AH.l0.comp (AU.ar (n := 6) Room.fl (by omega))) rfl rfl rfl Q0 rfl (.t .h)) ?_
  refine AQ (AB (.t5 0 1 20 21 22) ?_)
  refine AV (AA (AJ ?_))
  refine Gt (Av rfl rfl (IntWalk.i64_in _ (by omega))) ?_
  refine Gm rfl ?_
  refine AQ (AB (.t5 0 1 20 21 22) ?_)
  refine B8 (k + 1) ?_ ?_ (.t5 22 0 1 20 21) (by rw [AH.V9 (by omega)]; exact (.cons _ (.refl _)))
  · exact ⟨by omega, by omega⟩
  · omega
 have c1p := kz c1
 dsimp only at c1p
 obtain rfl : k = 6 := by omega
 refine Bf (AX (AX (Ai ?_)))
 refine AB (.t2 0 1) ?_
 refine AA (CG (Gt (BC QS KU rfl (.cons Ak.l0 rfl rfl rfl (.cons Ak.l1 rfl rfl rfl .nil))) (Gt (BC QS KU rfl (.cons Ak.l0 rfl rfl rfl (.cons Ak.l1 rfl rfl rfl (.cons Ak.l3 rfl rfl rfl .nil)))) (Gt (BC QS KU rfl (.cons Ak.l0 rfl rfl rfl (.cons Ak.l1 rfl rfl rfl .nil))) (Gt (BC QS KU rfl (.cons Ak.l0 rfl rfl rfl (.cons Ak.l1 rfl rfl rfl (.cons Ak.l3 rfl rfl rfl .nil)))) (Gt (BC QS KU rfl (.cons Ak.l0 rfl rfl rfl (.cons Ak.l2 rfl rfl rfl (.cons Ak.l3 rfl rfl rfl .nil)))) (Gt (BC QS KU rfl (.cons Ak.l0 rfl rfl rfl (.cons Ak.l3 rfl rfl rfl .nil))) ?_)))))))
 refine Gt (BC QS KU rfl (.cons Ak.l0 rfl rfl rfl .nil)) (Gt (BC QS KU rfl (.cons Ak.l0 rfl rfl rfl (.cons Ak.l1 rfl rfl rfl (.cons Ak.l4 rfl rfl rfl .nil)))) (Gt (BC QS KU rfl (.cons Ak.l0 rfl rfl rfl (.cons Ak.l2 rfl rfl rfl (.cons Ak.l3 rfl rfl rfl .nil)))) ?_))
 refine WN (cs := B3 (n := 9) Ak.enc (Vector.replicate 9 default)) (cs' := B3 (n := 9) Ak.enc AH.Qy) rfl Tryz.underlying96 Mv KU (by decide) (by decide) (by kernel_rfl) (.cons (AU.arr (n := 9) (i := 0) Ak.fl (by decide) (by decide)) rfl rfl rfl (.cons (AU.arr (n := 9) (i := 1) Ak.fl (by decide) (by decide)) rfl rfl rfl (.cons (AU.arr (n := 9) (i := 2) Ak.fl (by decide) (by decide)) rfl rfl rfl (.cons (AU.arr (n := 9) (i := 3) Ak.fl (by decide) (by decide)) rfl rfl rfl (.cons (AU.arr (n := 9) (i := 4) Ak.fl (by decide) (by decide)) rfl rfl rfl (.cons (AU.arr (n := 9) (i := 5) Ak.fl (by decide) (by decide)) rfl rfl rfl (.cons (AU.arr (n := 9) (i := 6) Ak.fl (by decide) (by decide)) rfl rfl rfl (.cons (AU.arr (n := 9) (i := 7) Ak.fl (by decide) (by decide)) rfl rfl rfl (.cons (AU.arr (n := 9) (i := 8) Ak.fl (by decide) (by decide)) rfl rfl rfl .nil))))))))) rfl (fun b5 => ?_)
 refine Gt (Ar rfl Tryz.underlying96 rfl) (Gm rfl (Gn (.t5 0 1 41 42 43) (Af ?_)))
 refine Bo (.t5 43 0 1 41 42) ?_
 refine Be (.t .h) ?_
 refine Ci (fun (k : Int) => 0 ≤ k ∧ k ≤ 9) (fun (k : Int) => (9 - k).toNat) (fun (k : Int) => [(43, .int .i64 k)]) (fun (k : Int) => [Ac.box b2 35 (AH.enc (AH.J2 k.toNat))]) (0) ?_ rfl rfl (fun k hI2 => ?_)
 · exact ⟨Int.le_refl _, by omega⟩
 obtain ⟨hI21, hI22⟩ := hI2
 refine Gs (Gt (A8 rfl rfl) (AQ (AA (Ao ?_))))
 refine Gc (fun c2 => ?_) (fun c2 => ?_)
 ·
  have c2p := kz c2
  dsimp only at c2p
  refine Aa ?_
  refine AB (.t5 0 1 41 42 43) ?_
  refine AA (Ao (Af (Gs (Gm rfl ?_))))
  refine Gt (Br dB (by decide) (Kn.own .m1) rfl rfl (by omega) (by dsimp only; omega)) ?_
  refine Gt (OR rfl Mo (by decide) Ak.fl (Kn.own .m1) (by simp; omega)) ?_
  refine BH rfl KU rfl (fun b6 => ?_)
  refine Ga rfl ?_
  refine AT (AK (AU.id Ak.fl.len Ak.fl.one) rfl rfl rfl Mv rfl .h) ?_
  refine Gn (.t7 0 1 4 5 41 42 43) (AJ (Gm rfl (Gt (AZ rfl Mo .m0 (AU.id Ak.fl.len Ak.fl.one) rfl) (Gt (Ah Cw rfl) ?_))))
  refine Gt (AR GA rfl rfl (by omega) (by omega)) ?_
  refine AT (AK (AH.l1.comp (AU.ar (n := 9) Ak.fl (by omega))) rfl rfl rfl Mv rfl (.t .h)) ?_
  refine AQ (AB (.t5 0 1 41 42 43) ?_)
  refine AV (AA (AJ ?_))
  refine Gt (Av rfl rfl (IntWalk.i64_in _ (by omega))) ?_
  refine Gm rfl ?_
  refine AQ (AB (.t5 0 1 41 42 43) ?_)
  refine B8 (k + 1) ?_ ?_ (.t5 43 0 1 41 42) (by rw [AH.U0 (by omega)]; exact (.cons _ (.refl _)))
  · exact ⟨by omega, by omega⟩
  · omega
 have c2p := kz c2
 dsimp only at c2p
 obtain rfl : k = 9 := by omega
 refine Bf (AX (AX (Ai ?_)))
 refine AB (.t2 0 1) ?_
 refine AA (Gs (Gt (BC Wt Lw rfl (.cons Aj.l0 rfl rfl rfl (.cons Aj.l1 rfl rfl rfl (.cons Aj.l2 rfl rfl rfl (.cons Aj.l4 rfl rfl rfl .nil))))) (Gt (Ah Bn rfl) ?_)))
 refine Gt (AR C6 rfl rfl (by decide) (by decide)) ?_
 refine AT (AK (AH.l2.comp (AU.arr (n := 6) Aj.fl (by decide) (by decide))) rfl rfl rfl KQ rfl .h) ?_
 refine Gn (.t2 0 1) (Gs (Gt (BC Wt Lw rfl (.cons Aj.l0 rfl rfl rfl (.cons Aj.l1 rfl rfl rfl (.cons Aj.l3 rfl rfl rfl (.cons Aj.l4 rfl rfl rfl .nil))))) (Gt (Ah Bn rfl) ?_)))
 refine Gt (AR C6 rfl rfl (by decide) (by decide)) ?_
 refine AT (AK (AH.l2.comp (AU.arr (n := 6) Aj.fl (by decide) (by decide))) rfl rfl rfl KQ rfl .h) ?_
 refine Gn (.t2 0 1) (Gs (Gt (AZ rfl BW .m0 (AU.id AH.fl.len AH.fl.one) rfl) ?_))
 refine AT (AK (AU.id AH.fl.len AH.fl.one) rfl rfl rfl D6 rfl (.t (.t (.t .h)))) ?_
 refine Gn (.t1 0) (Ab ?_)
 refine AY rfl (.cell rfl .m3 (.inl ⟨(by rw [AH.fl.len]; exact BW), rfl⟩) .n) ?_
 intro w1 hS; refine ⟨?_, hS.Am⟩; rfl
theorem Jr  : JS Tryz.prog 37 #[] [] (fun v B => ∃ (b : Nat) (V : AL) (ls : Vector BD 4) (ev : List Ing.Event), v = .pointer (some ⟨b, 0, none⟩) ∧ A5 V ls ev = AI.new ∧ B = [Ac.box b 101 (AL.enc V), Ac.Dz (CH 9 (AL.Aw V) ls), Ac.own (AL.last V) 56 16 ((ev).flatMap Ing.Event.enc)]) := by
 intro w hS0
 refine Al _ _ Tryz.func37 rfl rfl rfl (hS0) ?_
 refine Gs (Ga rfl (Gn (.nil _) (Gs ?_)))
 refine BA rfl cb .n (fun w hS => PT w) ?_
 refine Gt (BC aT cK rfl (.cons AL.l0 rfl rfl rfl .nil)) ?_
 refine B4 rfl rfl rfl (fun b1 => ?_)
 refine Ga rfl (Gn (.t1 0) (Ab ?_))
 refine AY rfl (.tmp rfl .n) ?_
 intro w1 hS
 have hS := (hS.perm (Ax.perm (.c .h .n))).A1
 have h2 := (St.YC hS (l := CH 9 NS NL) (fun r hr => WE 9 w1 r hr)).Ck 56 16
 refine ⟨_, ⟨b1, ⟨AH.new, NS, 0, ⟨none, 0, 0⟩⟩, NL, [], rfl, rfl, rfl⟩, h2.perm (X3 _ _ _)⟩
theorem Bx {t0 : Nat} (h : Hd) (xs : List Ap) (hb : xs.length ≤ 17592186044416) : FL Tryz.prog 69 #[h.val] [] (fun w => Rd w h t0 1 (xs.flatMap A7)) (fun v B => ∃ h' : Hd, v = h'.val ∧ h'.len = xs.length ∧ B = [Ac.own h' 9 1 (xs.flatMap A7)]) := by
 intro w hS0 hH
 have r0 := hH
 have hl := r0.Mu DW (by decide)
 refine Al _ _ Tryz.func69 rfl rfl rfl (hS0) ?_
 refine Gs (Ga rfl (Gn (.t1 0) (CG (Gm rfl (Gt (Sw Tryz.underlying52 rfl) (Gn (.t2 0 4) ?_))))))
 refine Gc (fun c1 => ?_) (fun c1 => ?_)
 ·
  refine Gs (Ga rfl (Gn (.t1 2) (Ab (AD ?_))))
  refine AY rfl (.tmp rfl .n) ?_
  intro w1 hS
  have hS := (hS.perm (Ax.perm .n)).A1
  have hx : xs = [] := by
    rcases xs with _ | ⟨x, xs⟩
    · rfl
    · exfalso
      obtain ⟨b, o, C, fz, e1, _⟩ := r0.2 (by simp [A7])
      rw [e1] at c1
      cases c1
  subst hx
  exact ⟨_, ⟨⟨none, 0, 0⟩, rfl, rfl, rfl⟩, hS.Ck _ _⟩
 have c1p := kz c1
 refine Aa ?_
 refine AB (.t1 0) ?_
 refine AA (Gs ?_)
 refine X9 A7 rfl Tryz.underlying52 Eo (fun b1 => ?_)
 refine Gm rfl ?_
 refine Ku (e := A7) rfl Tryz.underlying52 Eo Sh rfl X1 (by decide) rfl rfl (fun w hS => Src.D3 Tryz.underlying52 ((Kn.I0 r0) w hS)) rfl rfl (by omega) (fun _ => .h) (fun h1 h1l => ?_)
 refine Ga rfl (Gn (.t1 2) (Ab ?_))
 refine AY rfl (.tmp rfl .n) ?_
 intro w1 hS
 have hS := (hS.perm (Ax.perm (.c .h .n))).A1
 exact ⟨_, ⟨_, rfl, by omega, rfl⟩, hS⟩
theorem OS {t0 : Nat} (l : BG) (qs : List Ap) (hb : qs.length ≤ 17592186044416) : FL Tryz.prog 91 #[.agg l.enc.toArray] [] (fun w => Rd w l.queue t0 1 (qs.flatMap A7) ∧ l.queue.len ≤ l.queue.cap) (fun v B => (qs = [] ∧ v = .tuple #[.agg l.enc.toArray, BS [], .bool false] ∧ B = []) ∨ (∃ q r, qs = q :: r ∧ ∃ h' : Hd, v = .tuple #[.agg (BG.enc ⟨l.now, l.Cr, l.ret, h'⟩).toArray, BS q, .bool true] ∧ h'.len = r.length ∧ B = [Ac.own h' 9 1 (r.flatMap A7)])) := by
 intro w hS0 hH
 obtain ⟨r0, k0⟩ := hH
 have hl0 := r0.Mu DW (by decide)
 refine Al _ _ Tryz.func91 rfl rfl rfl (hS0) ?_
 refine Gs ?_
 refine B4 rfl rfl rfl (fun b1 => ?_)
 refine BH rfl YY rfl (fun b2 => ?_)
 refine Ga rfl (Ga rfl (Gn (.t2 1 2) (CG (Gt (Ah FP rfl) (Gt (AG rfl FZ .m1 BG.l3 rfl rfl) (Gt (Ar rfl Tryz.underlying52 rfl) (Gt (Ae rfl rfl) ?_)))))))
 refine Gn (.t3 1 2 9) ?_
 refine Gc (fun c1 => ?_) (fun c1 => ?_)
 ·
  have c1p := kz c1
  have hq : qs = [] := List.length_eq_zero_iff.1 (by omega)
  refine Gs (Gt (AZ rfl Ht .m1 (AU.id BG.fl.len BG.fl.one) rfl) ?_)
  refine AT (AK (AU.id BG.fl.len BG.fl.one) rfl rfl rfl MI rfl .h) ?_
  refine Ga rfl (Ga rfl (Gn (.t3 2 3 4) (Ab (AD ?_))))
  refine AY rfl (.cell rfl .m0 (.inl ⟨(by rw [BG.fl.len]; exact Ht), rfl⟩) (.tmp rfl (.tmp rfl .n))) ?_
  intro w1 hS
  have hS := (hS.perm (Ax.perm .n)).A1
  exact ⟨_, .inl ⟨hq, rfl, rfl⟩, hS⟩
 have c1p := kz c1
 obtain ⟨q, r, rfl⟩ := Bb.UO (qs := qs) (by omega)
 rw [List.length_cons] at hl0 hb
 refine Aa ?_
 refine AB (.t2 1 2) ?_
 refine AA (Gs (Gt (Ah FP rfl) (Gt (AG rfl FZ .m1 BG.l3 rfl rfl) ?_)))
 refine Gt (Br JQ (by decide) (Kn.I0 r0) rfl rfl (by omega) (by omega)) ?_
 refine Gt (Dg rfl CV (Kn.I0 r0) (by simp)) ?_
 refine Ga rfl (Gn (.t3 1 2 5) (Gs (Gt (Ah FP rfl) (Gt (AG rfl FZ .m1 BG.l3 rfl rfl) ?_))))
 refine Gt (Sa Tryz.underlying52 Eo rfl rfl (by decide) (by omega)) ?_
 refine BF rfl U6 (.c rfl .n) .n (Bx _ r (by omega)) (fun w hS => by have h := (Kn.cut (l := 1) (r := l.queue.len) DW (Kn.I0 r0) (by omega) (Nat.le_refl _) (Vn.of k0)) w hS; rw [show (((q :: r).take l.queue.len).drop 1) = r from by rw [List.take_of_length_le (by simp; omega)]; rfl] at h; exact h) (fun v2 B hv => ?_)
 obtain ⟨y3, rfl, y4, rfl⟩ := hv
 refine Gt (Ah FP rfl) ?_
 refine AT (AK BG.l3 rfl rfl rfl My rfl (.t (.t .h))) ?_
 refine Gn (.t3 1 2 5) (Gs (Gt (AZ rfl Ht .m2 (AU.id BG.fl.len BG.fl.one) rfl) (Gm rfl ?_)))
 refine AT (AK (AU.id BG.fl.len BG.fl.one) rfl rfl rfl MI rfl (.t .h)) ?_
 refine Ga rfl (Ga rfl (Gn (.t3 2 3 4) (Ab ?_)))
 refine AY rfl (.cell rfl .m1 (.inl ⟨(by rw [BG.fl.len]; exact Ht), rfl⟩) (.tmp rfl (.tmp rfl .n))) ?_
 intro w1 hS
 have hS := (hS.perm (Ax.perm (.c .h .n))).A1
 exact ⟨_, .inr ⟨q, r, rfl, _, rfl, by assumption, rfl⟩, hS⟩
theorem M0 (p : Ay) (w : World) : Ei Tryz.prog 92 #[.agg p.enc.toArray] w fun v w' => v = .agg (Ay.enc ⟨p.wait, 0, false, p.ring, p.cut⟩).toArray ∧ CB w w' := by
 refine Al [] [] Tryz.func92 rfl rfl rfl (St.start w []) ?_
 refine Gs ?_
 refine B4 rfl rfl rfl (fun b1 => ?_)
 refine BH rfl Xf rfl (fun b2 => ?_)
 refine Gn (.t2 1 2) (Gs (Gt (Ah Q9 rfl) ?_))
 refine AT (AK Ay.l2 rfl rfl rfl KX rfl (.t .h)) ?_
 refine Gt (Ah MZ rfl) ?_
 refine AT (AK Ay.l1 rfl rfl rfl C5 rfl (.t .h)) ?_
 refine Gn (.t2 1 2) (Gs (Gt (AZ rfl Cy .m1 (AU.id Ay.fl.len Ay.fl.one) rfl) ?_))
 refine AT (AK (AU.id Ay.fl.len Ay.fl.one) rfl rfl rfl Fv rfl .h) ?_
 refine Gn (.t1 2) (Ab ?_)
 refine AY rfl (.cell rfl .m0 (.inl ⟨(by rw [Ay.fl.len]; exact Cy), rfl⟩) .n) ?_
 intro w1 hS; refine ⟨?_, hS.Am⟩; rfl
theorem HR (s : Ap) (c : UInt8) (hs : s.length ≤ 10000000) (w : World) : Ei Tryz.prog 116 #[BS s, .int .u8 (c.toNat : Int)] w fun v w' => v = BS (Words.RM c s) ∧ CB w w' := by
 refine Al [] [] Tryz.func116 rfl rfl rfl (St.start w []) ?_
 refine Gs (Ga rfl (Gn (.t2 0 1) (Ao (Af ?_))))
 refine Bo (.t2 0 1) ?_
 refine Ci (fun (r : Ap) => Words.RM c s = Words.RM c r ∧ r.length ≤ s.length) (fun (r : Ap) => r.length) (fun (r : Ap) => [(0, BS r)]) (fun (r : Ap) => []) (s) ?_ rfl rfl (fun r hI1 => ?_)
 · exact ⟨rfl, Nat.le_refl _⟩
 obtain ⟨hI11, hI12⟩ := hI1
 refine CG (Gm rfl (Gt (BI rfl Tryz.underlying9 rfl) (Gt (Cj rfl rfl) (Gm rfl (Bi 8 rfl rfl (fun q => AE rfl) (Bi 8 rfl rfl (fun q => AE rfl) (Bi 8 rfl rfl (fun q => BI rfl Tryz.underlying9 (Bh rfl q)) ?_)))))))
 refine Bi 8 rfl rfl (fun q => by have q1 := q; (try simp at q1); exact E3 (Bh rfl q) rfl (IntWalk.i64_in _ (by omega))) ?_
 refine Bi 8 rfl rfl (fun q => by have q1 := q; (try simp at q1); exact Bl Tryz.underlying9 (Bh rfl q) (Bh rfl q) (by omega) (by omega)) ?_
 refine Bi 8 rfl rfl (fun q => AE rfl) (Bi 8 rfl rfl (fun q => Ae (Bh rfl q) (Bh rfl q)) (Gt (BK rfl rfl (fun h => h)) (Gn (.t3 0 1 16) ?_)))
 refine Gc (fun c1 => ?_) (fun c1 => ?_)
 ·
  have c1p := kz c1
  have hlt : 0 < r.length := by simp at c1; omega
  refine Aa ?_
  refine AB (.t2 0 1) ?_
  refine AA (Af (AJ (Gm rfl (Gm rfl (Gt (BI rfl Tryz.underlying9 rfl) ?_)))))
  refine Gt (E3 rfl rfl (IntWalk.i64_in _ (by omega))) ?_
  refine Gt (Ie Tryz.underlying9 rfl rfl (by omega) (by omega)) ?_
  refine Ga rfl ?_
  refine AQ (AB (.t2 0 1) ?_)
  refine AV ?_
  refine B8 _ ?_ ?_ (.t2 0 1) (.refl _)
  · exact ⟨by rw [hI11, Words.aS c1] <;> rfl, by first | (simp; done) | (simp; omega)⟩
  · first | (simp; done) | (simp; omega)
 refine Bf (AX (AX (Ai ?_)))
 refine AB (.t1 0) ?_
 refine AA (Gs (Gm rfl (Ga rfl (Gn (.t1 4) (Ab ?_)))))
 refine AY rfl (.tmp rfl .n) ?_
 intro w1 hS; refine ⟨?_, hS.Am⟩; rw [hI11, Words.bI c1]; rfl
theorem E1 (s : Ap) (c : UInt8) (hs : s.length ≤ 10000000) (w : World) : Ei Tryz.prog 115 #[BS s, .int .u8 (c.toNat : Int)] w fun v w' => v = BS (Words.P0 c s) ∧ CB w w' := by
 refine Al [] [] Tryz.func115 rfl rfl rfl (St.start w []) ?_
 refine Gs (Ga rfl (Gn (.t2 0 1) (Ao (Af ?_))))
 refine Bo (.t2 0 1) ?_
 refine Ci (fun (r : Ap) => Words.P0 c s = Words.P0 c r ∧ r.length ≤ s.length) (fun (r : Ap) => r.length) (fun (r : Ap) => [(0, BS r)]) (fun (r : Ap) => []) (s) ?_ rfl rfl (fun r hI1 => ?_)
 · exact ⟨rfl, Nat.le_refl _⟩
 obtain ⟨hI11, hI12⟩ := hI1
 refine CG (Gm rfl (Gt (BI rfl Tryz.underlying9 rfl) (Gt (Cj rfl rfl) (Gm rfl (Bi 8 rfl rfl (fun q => AE rfl) ?_)))))
 refine Bi 8 rfl rfl (fun q => by have q1 := q; (try simp at q1); exact Bl Tryz.underlying9 (Bh rfl q) rfl (by decide) (by omega)) ?_
 refine Bi 8 rfl rfl (fun q => AE rfl) (Bi 8 rfl rfl (fun q => Ae (Bh rfl q) (Bh rfl q)) (Gt (BK rfl rfl (fun h => h)) (Gn (.t3 0 1 13) ?_)))
 refine Gc (fun c1 => ?_) (fun c1 => ?_)
 ·
  have c1p := kz c1
  have hlt : 0 < r.length := by simp at c1; omega
  refine Aa ?_
  refine AB (.t2 0 1) ?_
  refine AA (Af (AJ (Gm rfl ?_)))
  refine Gt (GU Tryz.underlying9 rfl rfl (by decide) (by omega)) ?_
  refine Ga rfl ?_
  refine AQ (AB (.t2 0 1) ?_)
  refine AV ?_
  refine B8 _ ?_ ?_ (.t2 0 1) (.refl _)
  · exact ⟨by rw [hI11, Words.bK c1] <;> rfl, by first | (simp; done) | (simp; omega)⟩
  · first | (simp; done) | (simp; omega)
 refine Bf (AX (AX (Ai ?_)))
 refine AB (.t1 0) ?_
 refine AA (Gs (Gm rfl (Ga rfl (Gn (.t1 4) (Ab ?_)))))
 refine AY rfl (.tmp rfl .n) ?_
 intro w1 hS; refine ⟨?_, hS.Am⟩; rw [hI11, Words.bm c1]; rfl
theorem Hv (s : Ap) (hs : s.length ≤ 10000000) (w : World) : Ei Tryz.prog 94 #[BS s, BS [32]] w fun v w' => v = BS (Words.P0 32 (Words.RM 32 s)) ∧ CB w w' := by
 refine Al [] [] Tryz.func94 rfl rfl rfl (St.start w []) ?_
 refine Gs (Ga rfl (Gn (.t2 0 1) (CG (Gm rfl (Gt (Bw rfl rfl) (Gm rfl (Ba 9 rfl rfl (fun q => AE rfl) ?_)))))))
 refine Ba 9 rfl rfl (fun q => Bw (cF rfl q) rfl) ?_
 refine Gt (BR rfl rfl (fun h => by rw [h]; rfl)) ?_
 refine Gn (.t3 0 1 12) ?_
 refine Gc (fun c1 => ?_) (fun c1 => ?_)
 ·
  refine Gs (Gm rfl (Ga rfl (Gn (.t1 4) (Ab (AD ?_)))))
  refine AY rfl (.tmp rfl .n) ?_
  intro w1 hS; refine ⟨?_, hS.Am⟩; have e : s = [] := by simpa using c1
  subst e; rfl
 have c1p := kz c1
 refine Aa ?_
 refine AB (.t2 0 1) ?_
 refine AA (CG (Gm rfl (Gt (BI rfl Tryz.underlying9 rfl) (Gt (Ae rfl rfl) (Gm rfl (Bi 17 rfl rfl (fun q => AE rfl) ?_))))))
 refine Bi 17 rfl rfl (fun q => by have q1 := q; (try simp at q1); exact Bl Tryz.underlying9 (Bh rfl q) rfl (by decide) (by (try simp only [List.length_cons, List.length_nil]); omega)) ?_
 refine Bi 17 rfl rfl (fun q => A8 (Bh rfl q) rfl) (Gt (BK rfl rfl (fun h => h)) (Gn (.t3 0 1 21) ?_))
 refine G0 rfl rfl ?_
 refine Ao ?_
 refine BE (N := 8) [0, 0, 2, 7, 0, 16, 63, 127] mix (by kernel_rfl) rfl ?_
 refine Pf 0 rfl (AE rfl) (Pf 1 rfl (AE rfl) ?_)
 refine Pf 2 rfl (Bl Tryz.underlying9 rfl rfl (by decide) (by (try simp only [List.length_cons, List.length_nil]); omega)) ?_
 refine BZ 3 rfl rfl (by kernel_rfl) (Lb (K9 (D7 bU (.c rfl (.c rfl .n)) (fun w hS => HR _ 32 hs w)))) ?_
 refine Pf 4 rfl (AE rfl) ?_
 refine Pf 5 rfl (Bl Tryz.underlying9 rfl rfl (by decide) (by (try simp only [List.length_cons, List.length_nil]); omega)) ?_
 refine BZ 6 rfl rfl (by kernel_rfl) (Lb (K9 (D7 Yz (.c rfl (.c rfl .n)) (fun w hS => E1 _ 32 (by have := Words.RD 32 s; omega) w)))) ?_
 refine Pf 7 rfl (A0 rfl) ?_
 refine A4 (by kernel_rfl) ?_
 refine AB (.t1 4) ?_
 refine AA (Ab (AD ?_))
 refine AY rfl (.tmp rfl .n) ?_
 intro w1 hS; refine ⟨?_, hS.Am⟩; rfl
theorem KW (X : AH) (i : Int) (h0 : 0 ≤ i) (h9 : i < 9) (w : World) : Ei Tryz.prog 68 #[.agg X.enc.toArray, .int .i64 i] w fun v w' => v = .bool (X.Cf i) ∧ CB w w' := by
 refine Al [] [] Tryz.func68 rfl rfl rfl (St.start w []) ?_
 refine Gs ?_
 refine B4 rfl rfl rfl (fun b1 => ?_)
 refine Ga rfl (Gn (.t2 1 2) (Gs (Gm rfl (Gt (Ah Cw rfl) ?_))))
 refine Gt (AR GA rfl rfl (by omega) (by omega)) ?_
 refine Gt (AZ rfl Mo .m0 (AH.l1.comp (AU.ar (n := 9) Ak.fl (by omega))) rfl) ?_
 refine BH rfl KU rfl (fun b2 => ?_)
 refine AT (AK (AU.id Ak.fl.len Ak.fl.one) rfl rfl rfl Mv rfl .h) ?_
 refine Gn (.t2 2 5) (CG (Gt (Ah Gy rfl) (Gt (AG rfl A3 .m0 Ak.l1 rfl rfl) (Gt (A8 rfl rfl) (Gm rfl (Ba 15 rfl rfl (fun q => Ah Gy rfl) (Ba 15 rfl rfl (fun q => AG (cF rfl q) A3 .m0 Ak.l1 rfl rfl) ?_)))))))
 refine Ba 15 rfl rfl (fun q => Cj (cF rfl q) rfl) ?_
 refine Gt (BR rfl rfl (fun h => by rw [h]; rfl)) ?_
 refine Gm rfl (Ba 20 rfl rfl (fun q => Ah Gy rfl) (Ba 20 rfl rfl (fun q => AG (cF rfl q) A3 .m0 Ak.l1 rfl rfl) (Ba 20 rfl rfl (fun q => Ae (cF rfl q) rfl) (Ba 20 rfl rfl (fun q => AE (cF rfl q)) ?_))))
 refine Cu (t := 24) rfl rfl rfl (fun qc q => Ah F5 rfl) ?_
 refine Cu (t := 24) rfl rfl rfl (fun qc q => AG (Bh rfl (by rw [qc, q]; rfl)) Dj .m0 Ak.l4 rfl rfl) ?_
 refine Ba 20 rfl rfl (fun q => BK (cF rfl q) rfl (fun h => by rw [q, h]; rfl)) ?_
 refine Gt (BR rfl rfl (fun h => by rw [h]; rfl)) ?_
 refine Gm rfl (Ba 29 rfl rfl (fun q => Ah DF rfl) (Ba 29 rfl rfl (fun q => AG (cF rfl q) A3 .m0 Ak.l3 rfl rfl) (Ba 29 rfl rfl (fun q => A8 (cF rfl q) rfl) ?_)))
 refine Gt (BR rfl rfl (fun h => by rw [h]; rfl)) ?_
 refine Gn (.t3 2 5 33) ?_
 refine Gc (fun c1 => ?_) (fun c1 => ?_)
 ·
  refine Gs (Ga rfl (Gn (.t1 4) (Ab (AD ?_))))
  refine AY rfl (.tmp rfl .n) ?_
  intro w1 hS; refine ⟨congrArg Value.bool ?_, hS.Am⟩; simp only [AH.Cf, c1, ↓reduceIte, Bool.false_eq_true]
 have c1p := kz c1
 refine Aa ?_
 refine AB (.t2 2 5) ?_
 refine AA (Gs (Gt (Ah Gy rfl) (Gt (AG rfl A3 .m0 Ak.l1 rfl rfl) (Gt (Ae rfl rfl) (Gm rfl (Bi 37 rfl rfl (fun q => Ah F5 rfl) (Bi 37 rfl rfl (fun q => AG (Bh rfl q) Dj .m0 Ak.l4 rfl rfl) ?_)))))))
 refine Gt (BK rfl rfl (fun h => h)) (Ga rfl (Gn (.t3 2 5 6) (CG (Gt (Ah FU rfl) (Gt (AG rfl A3 .m0 Ak.l2 rfl rfl) (Gn (.t4 2 5 6 42) (Af ?_)))))))
 refine Gs (Gt (Ae rfl rfl) (Ga rfl (Gn (.t5 2 5 6 42 43) ?_)))
 refine Gc (fun c2 => ?_) (fun c2 => ?_)
 ·
  refine Gs (Gt (Ah DF rfl) (Gt (AG rfl A3 .m0 Ak.l3 rfl rfl) (Gt (A8 rfl rfl) (Gm rfl (Bi 48 rfl rfl (fun q => AE rfl) (Bi 48 rfl rfl (fun q => BV (Bh rfl q)) (Gt (BK rfl rfl (fun h => h)) ?_)))))))
  refine Ga rfl (Gn (.t1 4) (Ab (AS (AD ?_))))
  refine AY rfl (.tmp rfl .n) ?_
  intro w1 hS; refine ⟨congrArg Value.bool ?_, hS.Am⟩; simp only [AH.Cf, c1, c2, ↓reduceIte, Bool.false_eq_true]
 have c2p := kz c2
 refine Gs (Gt (Ae rfl rfl) (Ga rfl (Gn (.t5 2 5 6 42 52) ?_)))
 refine Gc (fun c3 => ?_) (fun c3 => ?_)
 ·
  have c3p := kz c3
  refine Gs (Gt (Ah DF rfl) (Gt (AG rfl A3 .m0 Ak.l3 rfl rfl) (Gt (A8 rfl rfl) (Gm rfl (Bi 57 rfl rfl (fun q => Ah DF rfl) (Bi 57 rfl rfl (fun q => AG (Bh rfl q) A3 .m0 Ak.l3 rfl rfl) (Bi 57 rfl rfl (fun q => Ah Bn rfl) ?_)))))))
  refine Bi 57 rfl rfl (fun q => by have q1 := q; (try simp at q1); exact AR C6 (Bh rfl q) (Bh rfl q) (by omega) (by omega)) ?_
  refine Bi 57 rfl rfl (fun q => Ah IB (Bh rfl q)) ?_
  refine Bi 57 rfl rfl (fun q => by have q1 := q; (try simp at q1); exact AG (Bh rfl q) Dj .m1 ((AH.l2.comp (AU.ar (n := 6) Aj.fl (by omega))).comp Aj.l1) rfl rfl) ?_
  refine Gt (BK rfl rfl (fun h => h)) (Ga rfl (Gn (.t1 4) (Ab (AS (AD ?_)))))
  refine AY rfl (.tmp rfl .n) ?_
  intro w1 hS; refine ⟨congrArg Value.bool ?_, hS.Am⟩; simp only [AH.Cf, c1, c2, c3, ↓reduceIte, Bool.false_eq_true]
 have c3p := kz c3
 refine Gs (Gt (Ae rfl rfl) (Ga rfl (Gn (.t4 2 5 6 65) ?_)))
 refine Gc (fun c4 => ?_) (fun c4 => ?_)
 ·
  have c4p := kz c4
  refine CG (Gt (Ah DF rfl) (Gt (AG rfl A3 .m0 Ak.l3 rfl rfl) (Gt (CN rfl rfl) (Gm rfl (Ba 70 rfl rfl (fun q => Ah DF rfl) (Ba 70 rfl rfl (fun q => AG (cF rfl q) A3 .m0 Ak.l3 rfl rfl) (Ba 70 rfl rfl (fun q => Ah Cw rfl) ?_)))))))
  refine Ba 70 rfl rfl (fun q => by have q1 := q; (try simp at q1); exact AR GA (cF rfl q) (cF rfl q) (by omega) (by omega)) ?_
  refine Ba 70 rfl rfl (fun q => Ah Gy (cF rfl q)) ?_
  refine Ba 70 rfl rfl (fun q => by have q1 := q; (try simp at q1); exact AG (cF rfl q) A3 .m1 ((AH.l1.comp (AU.ar (n := 9) Ak.fl (by omega))).comp Ak.l1) rfl rfl) ?_
  refine Ba 70 rfl rfl (fun q => CX (cF rfl q) rfl) ?_
  refine Gt (BR rfl rfl (fun h => by rw [h]; rfl)) ?_
  refine Gm rfl (Ba 79 rfl rfl (fun q => AE rfl) ?_)
  refine Gt (BR rfl rfl (fun h => by rw [h]; rfl)) ?_
  refine Gn (.t3 2 5 81) ?_
  refine Gc (fun c5 => ?_) (fun c5 => ?_)
  ·
   refine Gs (Ga rfl (Gn (.t1 4) (Ab (AD (AS (AD ?_))))))
   refine AY rfl (.tmp rfl .n) ?_
   intro w1 hS; refine ⟨congrArg Value.bool ?_, hS.Am⟩; simp only [AH.Cf, c1, c2, c3, c4, c5, ↓reduceIte, Bool.false_eq_true]
  have c5p := kz c5
  refine Aa ?_
  refine AB (.t2 2 5) ?_
  refine AA (Gs (Gm rfl (AQ (AA (Af ?_)))))
  refine Bo (.t3 82 2 5) ?_
  refine Gk (fun (k : Int) (t : Ak) => 0 ≤ k ∧ k ≤ 10 ∧ X.Cf i = X.JU (10 - k).toNat t) (fun (k : Int) (t : Ak) => (10 - k).toNat) (fun (k : Int) (t : Ak) => [(82, .int .i64 k)]) (fun (k : Int) (t : Ak) => [Ac.box b2 29 (Ak.enc t)]) (0) (X.AO.at i) ?_ rfl rfl (fun k t hI1 => ?_)
  · refine ⟨Int.le_refl _, by omega, ?_⟩; simp only [AH.Cf, c1, c2, c3, c4, c5, ↓reduceIte, Bool.false_eq_true]; rfl
  obtain ⟨hI11, hI12, hI13⟩ := hI1
  refine Gs (Gt (A8 rfl rfl) (AQ (AA (Ao ?_))))
  refine Gc (fun c6 => ?_) (fun c6 => ?_)
  ·
   have c6p := kz c6
   rw [show (10 - k).toNat = (10 - (k + 1)).toNat + 1 from by omega, AH.JU, show decide ((10 - (k + 1)).toNat = 0) = decide (k = 9) from decide_eq_decide.2 ⟨by omega, by omega⟩] at hI13
   refine Aa ?_
   refine AB (.t3 2 5 82) ?_
   refine AA (Ao (Af (Gs (Gm rfl (Ga rfl (Gn (.t4 2 5 7 82) (CG ?_)))))))
   refine Gt (Ah FU rfl) (Gt (AG rfl A3 .m0 Ak.l2 rfl rfl) (Gt (CX rfl rfl) (Gn (.t5 2 5 7 82 87) ?_)))
   refine Gc (fun c7 => ?_) (fun c7 => ?_)
   ·
    refine Gs (Ga rfl (Gn (.t1 4) (Ab (AD (AS (AD (AD ?_)))))))
    refine AS (AS (AD ?_))
    refine AY rfl (.tmp rfl .n) ?_
    intro w1 hS; refine ⟨congrArg Value.bool ?_, hS.Am⟩; rw [hI13]; simp only [c1, c2, c3, c4, c5, c6, c7, ↓reduceIte, Bool.false_eq_true]
   have c7p := kz c7
   refine Aa ?_
   refine AB (.t4 2 5 7 82) ?_
   refine AA (CG (Gm rfl (Gt (Ae rfl rfl) (Gm rfl (Ba 90 rfl rfl (fun q => Ah DF rfl) (Ba 90 rfl rfl (fun q => AG (cF rfl q) A3 .m0 Ak.l3 rfl rfl) (Ba 90 rfl rfl (fun q => A8 (cF rfl q) rfl) ?_)))))))
   refine Gt (BR rfl rfl (fun h => by rw [h]; rfl)) ?_
   refine Gm rfl (Ba 95 rfl rfl (fun q => Ah DF rfl) (Ba 95 rfl rfl (fun q => AG (cF rfl q) A3 .m0 Ak.l3 rfl rfl) (Ba 95 rfl rfl (fun q => CN (cF rfl q) rfl) ?_)))
   refine Gt (BR rfl rfl (fun h => by rw [h]; rfl)) ?_
   refine Gn (.t4 2 5 82 99) ?_
   refine Gc (fun c8 => ?_) (fun c8 => ?_)
   ·
    refine Gs (Ga rfl (Gn (.t1 4) (Ab (AD (AS (AD (AD ?_)))))))
    refine AS (AS (AD ?_))
    refine AY rfl (.tmp rfl .n) ?_
    intro w1 hS; refine ⟨congrArg Value.bool ?_, hS.Am⟩; rw [hI13]; simp only [c1, c2, c3, c4, c5, c6, c7, c8, ↓reduceIte, Bool.false_eq_true]
   have c8p := kz c8
   refine Aa ?_
   refine AB (.t3 2 5 82) ?_
   refine AA (AJ (Gt (Ah DF rfl) (Gt (AG rfl A3 .m0 Ak.l3 rfl rfl) (Gt (Ah Cw rfl) ?_))))
   refine Gt (AR GA rfl rfl (by omega) (by omega)) ?_
   refine Gt (AZ rfl Mo .m1 (AH.l1.comp (AU.ar (n := 9) Ak.fl (by omega))) rfl) ?_
   refine AT (AK (AU.id Ak.fl.len Ak.fl.one) rfl rfl rfl Mv rfl .h) ?_
   refine AQ (AB (.t3 2 5 82) ?_)
   refine AV (AA (AJ ?_))
   refine Gt (Av rfl rfl (IntWalk.i64_in _ (by omega))) ?_
   refine Gm rfl ?_
   refine AQ (AB (.t3 2 5 82) ?_)
   refine Cq (k + 1) (X.AO.at t.at_) ?_ ?_ (.t3 82 2 5) (.refl _)
   · exact ⟨by omega, by omega, by rw [hI13]; simp only [c1, c2, c3, c4, c5, c6, c7, c8, ↓reduceIte, Bool.false_eq_true]⟩
   · omega
  have c6p := kz c6
  obtain rfl : k = 10 := by omega
  refine Bf (AX (AX (Ai ?_)))
  refine AB (.nil _) ?_
  refine AV (AA (Gs (Ga rfl (AQ (AA (Ab ?_))))))
  refine AY rfl (.tmp rfl .n) ?_
  intro w1 hS; refine ⟨congrArg Value.bool ?_, hS.Am⟩; rw [hI13]; rfl
 refine Aa ?_
 refine AB (.nil _) ?_
 refine AV (AA (Gs (Ga rfl (AQ (AA (Ab ?_))))))
 refine AY rfl (.tmp rfl .n) ?_
 intro w1 hS; refine ⟨congrArg Value.bool ?_, hS.Am⟩; simp only [AH.Cf, c1, c2, c3, c4, ↓reduceIte, Bool.false_eq_true]
theorem HS (X : AH) (w : World) : Ei Tryz.prog 43 #[.agg X.enc.toArray] w fun v w' => v = .bool X.Bg ∧ CB w w' := by
 refine Al [] [] Tryz.func43 rfl rfl rfl (St.start w []) ?_
 refine Gs ?_
 refine B4 rfl rfl rfl (fun b1 => ?_)
 refine Ga rfl (Gn (.t1 1) (CG (Gt (Ah Gv rfl) (Gt (AZ rfl av .m0 AH.l0 rfl) (Gm rfl (Gn (.t3 1 11 12) (Af ?_)))))))
 refine Bo (.t3 12 1 11) ?_
 refine Ci (fun (k : Int) => 0 ≤ k ∧ k ≤ 6 ∧ X.Bg = (B5 6 X.Lv (6 - k).toNat && (B5 6 (fun k => !AH.Df (X.AN.at k)) 6 && B5 9 X.Cf 9))) (fun (k : Int) => (6 - k).toNat) (fun (k : Int) => [(12, .int .i64 k)]) (fun (k : Int) => []) (0) ?_ rfl rfl (fun k hI1 => ?_)
 · exact ⟨Int.le_refl _, by omega, rfl⟩
 obtain ⟨hI11, hI12, hI13⟩ := hI1
 refine Gs (Gt (A8 rfl rfl) (AQ (AA (Ao ?_))))
 refine Gc (fun c1 => ?_) (fun c1 => ?_)
 ·
  have c1p := kz c1
  rw [DU _ (by omega)] at hI13
  refine Aa ?_
  refine AB (.t3 1 11 12) ?_
  refine AA (Ao (Af (Gs ?_)))
  refine Gt (F3 Room.fl Tryz.underlying27 OI rfl rfl (by omega) (by omega)) ?_
  refine BH rfl O1 rfl (fun b2 => ?_)
  refine AT (AK (AU.id Room.fl.len Room.fl.one) rfl rfl rfl Q0 rfl .h) ?_
  refine Gn (.t4 1 4 11 12) (Gs (Gt (Ah MM rfl) (Gt (AZ rfl ZD .m0 Room.l2 rfl) (Gm rfl (Gn (.t6 1 4 11 12 16 17) (Af ?_))))))
  refine Bo (.t6 17 1 4 11 12 16) ?_
  refine Ci (fun (d : Int) => 0 ≤ d ∧ d ≤ 6 ∧ X.Lv k = B5 6 (fun d => !AH.Hz (X.BQ.at k) d) (6 - d).toNat) (fun (d : Int) => (6 - d).toNat) (fun (d : Int) => [(17, .int .i64 d)]) (fun (d : Int) => []) (0) ?_ rfl rfl (fun d hI2 => ?_)
  · exact ⟨Int.le_refl _, by omega, rfl⟩
  obtain ⟨hI21, hI22, hI23⟩ := hI2
  refine Gs (Gt (A8 rfl rfl) (AQ (AA (Ao ?_))))
  refine Gc (fun c2 => ?_) (fun c2 => ?_)
  ·
   have c2p := kz c2
   rw [DU _ (by omega)] at hI23
   refine Aa ?_
   refine AB (.t6 1 4 11 12 16 17) ?_
   refine AA (Ao (Af (Gs (Gm rfl ?_))))
   refine Gt (KL Bv Tryz.underlying23 C5 A3 rfl rfl (by omega) (by omega) rfl) ?_
   refine Ga rfl (Ga rfl (Gn (.t8 1 4 5 6 11 12 16 17) (Gs (Gm rfl (Gt (A8 rfl rfl) (Gm rfl (Ba 23 rfl rfl (fun q => AE rfl) ?_)))))))
   refine Ba 23 rfl rfl (fun q => Cj (cF rfl q) rfl) ?_
   refine Gt (BR rfl rfl (fun h => by rw [h]; rfl)) ?_
   refine Gm rfl (Ba 27 rfl rfl (fun q => AE rfl) (Ba 27 rfl rfl (fun q => Ae (cF rfl q) rfl) (Ba 27 rfl rfl (fun q => AE (cF rfl q)) ?_)))
   refine Cu (t := 30) rfl rfl rfl (fun qc q => AE rfl) ?_
   refine Cu (t := 30) rfl rfl rfl (fun qc q => Ah Mc rfl) ?_
   refine Cu (t := 30) rfl rfl rfl (fun qc q => by have q1 := q; have qc1 := qc; (try simp at q1 qc1); exact AR VO (Bh rfl (by rw [qc, q]; rfl)) (Bh rfl (by rw [qc, q]; rfl)) (by omega) (by omega)) ?_
   refine Cu (t := 30) rfl rfl rfl (fun qc q => by have q1 := q; have qc1 := qc; (try simp at q1 qc1); exact AG (Bh rfl (by rw [qc, q]; rfl)) Dj .m0 (Room.l3.comp (AU.ar (n := 6) HF (by omega))) rfl rfl) ?_
   refine Ba 27 rfl rfl (fun q => BK (cF rfl q) rfl (fun h => by rw [q, h]; rfl)) ?_
   refine Gt (BR rfl rfl (fun h => by rw [h]; rfl)) ?_
   refine Gn (.t7 1 4 11 12 16 17 36) ?_
   refine Gc (fun c3 => ?_) (fun c3 => ?_)
   ·
    refine Gs (Ga rfl (Gn (.t1 2) (Ab (AS (AD (AD (AS ?_)))))))
    refine AS (AD (AD (AS (AD ?_))))
    refine AY rfl (.tmp rfl .n) ?_
    intro w1 hS; refine ⟨congrArg Value.bool ?_, hS.Am⟩; rw [hI13, hI23, AH.Hz, c3]; rfl
   have c3p := kz c3
   refine Aa ?_
   refine AB (.t6 1 4 11 12 16 17) ?_
   refine AV (AA (AJ ?_))
   refine Gt (Av rfl rfl (IntWalk.i64_in _ (by omega))) ?_
   refine Gm rfl ?_
   refine AQ (AB (.t6 1 4 11 12 16 17) ?_)
   refine B8 (d + 1) ?_ ?_ (.t6 17 1 4 11 12 16) (.refl _)
   · exact ⟨by omega, by omega, by rw [hI23, AH.Hz, c3]; rfl⟩
   · omega
  have c2p := kz c2
  obtain rfl : d = 6 := by omega
  refine Bf (AX (AX (Ai ?_)))
  refine AB (.t3 1 11 12) ?_
  refine AV (AA (AJ ?_))
  refine Gt (Av rfl rfl (IntWalk.i64_in _ (by omega))) ?_
  refine Gm rfl ?_
  refine AQ (AB (.t3 1 11 12) ?_)
  refine B8 (k + 1) ?_ ?_ (.t3 12 1 11) (.cons _ (.refl _))
  · exact ⟨by omega, by omega, by rw [hI13, hI23]; rfl⟩
  · omega
 have c1p := kz c1
 obtain rfl : k = 6 := by omega
 refine Bf (AX (AX (Ai ?_)))
 refine AB (.t1 1) ?_
 refine AA (CG (Gt (Ah Bn rfl) (Gt (AZ rfl Y7 .m0 AH.l2 rfl) (Gm rfl (Gn (.t3 1 40 41) (Af ?_))))))
 refine Bo (.t3 41 1 40) ?_
 refine Ci (fun (b : Int) => 0 ≤ b ∧ b ≤ 6 ∧ X.Bg = (B5 6 (fun k => !AH.Df (X.AN.at k)) (6 - b).toNat && B5 9 X.Cf 9)) (fun (b : Int) => (6 - b).toNat) (fun (b : Int) => [(41, .int .i64 b)]) (fun (b : Int) => []) (0) ?_ rfl rfl (fun b hI3 => ?_)
 · exact ⟨Int.le_refl _, by omega, hI13⟩
 obtain ⟨hI31, hI32, hI33⟩ := hI3
 refine Gs (Gt (A8 rfl rfl) (AQ (AA (Ao ?_))))
 refine Gc (fun c4 => ?_) (fun c4 => ?_)
 ·
  have c4p := kz c4
  rw [DU _ (by omega)] at hI33
  refine Aa ?_
  refine AB (.t3 1 40 41) ?_
  refine AA (Ao (Af (Gs ?_)))
  refine Gt (F3 Aj.fl Tryz.underlying33 Fj rfl rfl (by omega) (by omega)) ?_
  refine BH rfl Lw rfl (fun b3 => ?_)
  refine AT (AK (AU.id Aj.fl.len Aj.fl.one) rfl rfl rfl KQ rfl .h) ?_
  refine Gn (.t4 1 8 40 41) (Gs (Gt (Ah C2 rfl) (Gt (AG rfl A3 .m0 Aj.l3 rfl rfl) (Gt (A8 rfl rfl) (Gm rfl (Ba 47 rfl rfl (fun q => Ah C2 rfl) (Ba 47 rfl rfl (fun q => AG (cF rfl q) A3 .m0 Aj.l3 rfl rfl) ?_)))))))
  refine Ba 47 rfl rfl (fun q => CN (cF rfl q) rfl) ?_
  refine Gt (BR rfl rfl (fun h => by rw [h]; rfl)) ?_
  refine Gm rfl (Ba 52 rfl rfl (fun q => Ah JV rfl) (Ba 52 rfl rfl (fun q => AG (cF rfl q) A3 .m0 Aj.l4 rfl rfl) (Ba 52 rfl rfl (fun q => A8 (cF rfl q) rfl) ?_)))
  refine Gt (BR rfl rfl (fun h => by rw [h]; rfl)) ?_
  refine Gm rfl (Ba 57 rfl rfl (fun q => Ah JV rfl) (Ba 57 rfl rfl (fun q => AG (cF rfl q) A3 .m0 Aj.l4 rfl rfl) (Ba 57 rfl rfl (fun q => Cj (cF rfl q) rfl) ?_)))
  refine Gt (BR rfl rfl (fun h => by rw [h]; rfl)) ?_
  refine Gm rfl (Ba 62 rfl rfl (fun q => Ah GG rfl) (Ba 62 rfl rfl (fun q => AG (cF rfl q) A3 .m0 Aj.l5 rfl rfl) (Ba 62 rfl rfl (fun q => A8 (cF rfl q) rfl) ?_)))
  refine Gt (BR rfl rfl (fun h => by rw [h]; rfl)) ?_
  refine Gm rfl (Ba 67 rfl rfl (fun q => Ah GG rfl) (Ba 67 rfl rfl (fun q => AG (cF rfl q) A3 .m0 Aj.l5 rfl rfl) (Ba 67 rfl rfl (fun q => Cj (cF rfl q) rfl) ?_)))
  refine Gt (BR rfl rfl (fun h => by rw [h]; rfl)) ?_
  refine Gm rfl (Ba 72 rfl rfl (fun q => Ah IB rfl) (Ba 72 rfl rfl (fun q => AG (cF rfl q) Dj .m0 Aj.l1 rfl rfl) (Ba 72 rfl rfl (fun q => BV (cF rfl q)) (Ba 72 rfl rfl (fun q => AE (cF rfl q)) ?_))))
  refine Cu (t := 76) rfl rfl rfl (fun qc q => Ah GG rfl) ?_
  refine Cu (t := 76) rfl rfl rfl (fun qc q => AG (Bh rfl (by rw [qc, q]; rfl)) A3 .m0 Aj.l5 rfl rfl) ?_
  refine Cu (t := 76) rfl rfl rfl (fun qc q => CX (Bh rfl (by rw [qc, q]; rfl)) rfl) ?_
  refine Ba 72 rfl rfl (fun q => BK (cF rfl q) rfl (fun h => by rw [q, h]; rfl)) ?_
  refine Gt (BR rfl rfl (fun h => by rw [h]; rfl)) ?_
  refine Gm rfl (Ba 82 rfl rfl (fun q => Ah IB rfl) (Ba 82 rfl rfl (fun q => AG (cF rfl q) Dj .m0 Aj.l1 rfl rfl) (Ba 82 rfl rfl (fun q => Ah JV rfl) (Ba 82 rfl rfl (fun q => AG (cF rfl q) A3 .m0 Aj.l4 rfl rfl) (Ba 82 rfl rfl (fun q => Cj (cF rfl q) rfl) (Ba 82 rfl rfl (fun q => Jg Tryz.underlying4 (cF rfl q) (cF rfl q)) ?_))))))
  refine Gt (BR rfl rfl (fun h => by rw [h]; rfl)) ?_
  refine Gn (.t4 1 40 41 89) ?_
  refine Gc (fun c5 => ?_) (fun c5 => ?_)
  ·
   refine Gs (Ga rfl (Gn (.t1 2) (Ab (AS (AD (AD (AS ?_)))))))
   refine AD ?_
   refine AY rfl (.tmp rfl .n) ?_
   intro w1 hS; refine ⟨congrArg Value.bool ?_, hS.Am⟩; rw [hI33, AH.Df, c5]; rfl
  have c5p := kz c5
  refine Aa ?_
  refine AB (.t3 1 40 41) ?_
  refine AV (AA (AJ ?_))
  refine Gt (Av rfl rfl (IntWalk.i64_in _ (by omega))) ?_
  refine Gm rfl ?_
  refine AQ (AB (.t3 1 40 41) ?_)
  refine B8 (b + 1) ?_ ?_ (.t3 41 1 40) (.cons _ (.refl _))
  · exact ⟨by omega, by omega, by rw [hI33, AH.Df, c5]; rfl⟩
  · omega
 have c4p := kz c4
 obtain rfl : b = 6 := by omega
 refine Bf (AX (AX (Ai ?_)))
 refine AB (.t1 1) ?_
 refine AA (CG (Gm rfl (AQ (AA (Af ?_)))))
 refine Bo (.t2 91 1) ?_
 refine Ci (fun (t : Int) => 0 ≤ t ∧ t ≤ 9 ∧ X.Bg = B5 9 X.Cf (9 - t).toNat) (fun (t : Int) => (9 - t).toNat) (fun (t : Int) => [(91, .int .i64 t)]) (fun (t : Int) => []) (0) ?_ rfl rfl (fun t hI4 => ?_)
 · exact ⟨Int.le_refl _, by omega, hI33⟩
 obtain ⟨hI41, hI42, hI43⟩ := hI4
 refine Gs (Gt (A8 rfl rfl) (AQ (AA (Ao ?_))))
 refine Gc (fun c6 => ?_) (fun c6 => ?_)
 ·
  have c6p := kz c6
  rw [DU _ (by omega)] at hI43
  refine Aa ?_
  refine AB (.t2 1 91) ?_
  refine AA (Ao (Af (Gs (Gm rfl (Ga rfl (Gn (.t3 1 9 91) (Gs ?_)))))))
  refine Gt (AZ rfl BW .m0 (AU.id AH.fl.len AH.fl.one) rfl) (Gm rfl ?_)
  refine BA rfl dA (.c rfl (.c rfl .n)) (fun w hS => KW X _ (by omega) (by omega) w) ?_
  refine Gt (BV rfl) (Gn (.t3 1 91 97) ?_)
  refine Gc (fun c7 => ?_) (fun c7 => ?_)
  ·
   refine Gs (Ga rfl (Gn (.t1 2) (Ab (AS (AD (AD (AS ?_)))))))
   refine AD ?_
   refine AY rfl (.tmp rfl .n) ?_
   intro w1 hS; refine ⟨congrArg Value.bool ?_, hS.Am⟩; rw [hI43, show X.Cf t = false by simpa using c7]; rfl
  have c7p := kz c7
  refine Aa ?_
  refine AB (.t2 1 91) ?_
  refine AV (AA (AJ ?_))
  refine Gt (Av rfl rfl (IntWalk.i64_in _ (by omega))) ?_
  refine Gm rfl ?_
  refine AQ (AB (.t2 1 91) ?_)
  refine B8 (t + 1) ?_ ?_ (.t2 91 1) (.refl _)
  · exact ⟨by omega, by omega, by rw [hI43, show X.Cf t = true by simpa using c7]; rfl⟩
  · omega
 have c6p := kz c6
 obtain rfl : t = 9 := by omega
 refine Bf (AX (AX (Ai ?_)))
 refine AB (.nil _) ?_
 refine AA (Gs (Ga rfl (AQ (AA (Ab ?_)))))
 refine AY rfl (.tmp rfl .n) ?_
 intro w1 hS; refine ⟨congrArg Value.bool ?_, hS.Am⟩; rw [hI43]; rfl
theorem MA (s : Ap) (hs : s.length ≤ 100000000) (w : World) : Ei Tryz.prog 46 #[BS s] w fun v w' => v = .bool (AF.FG s) ∧ CB w w' := by
 refine Al [] [] Tryz.func46 rfl rfl rfl (St.start w []) ?_
 refine Gs (Ga rfl (Gn (.t1 0) (CG (Gm rfl (Gt (BI rfl Tryz.underlying9 rfl) (Gm rfl (Gn (.t3 0 5 6) ?_)))))))
 refine Af ?_
 refine Bo (.t3 6 0 5) ?_
 refine Ci (fun (k : Int) => 0 ≤ k ∧ k ≤ (s.length : Int) ∧ AF.Hl s 0 = AF.Hl s k.toNat) (fun (k : Int) => ((s.length : Int) - k).toNat) (fun (k : Int) => [(6, .int .i64 k)]) (fun (k : Int) => []) (0) ?_ rfl rfl (fun k hI1 => ?_)
 · exact ⟨by omega, by omega, rfl⟩
 obtain ⟨hI11, hI12, hI13⟩ := hI1
 refine Gs (Gt (A8 rfl rfl) (AQ (AA (Ao ?_))))
 refine Gc (fun c1 => ?_) (fun c1 => ?_)
 ·
  have c1p := kz c1
  have hst := AF.VB (s := s) hI11 (by omega)
  refine Aa ?_
  refine AB (.t3 0 5 6) ?_
  refine AA (Ao (Af (Gs (Gm rfl (Ga rfl (Gn (.t4 0 3 5 6) (Gs ?_)))))))
  refine Gm rfl (Gm rfl ?_)
  refine Gt (Bl Tryz.underlying9 rfl rfl (by omega) (by omega)) ?_
  refine Gt (A8 rfl rfl) (Gm rfl (Ba 13 rfl rfl (fun q => AE rfl) (Ba 13 rfl rfl (fun q => AE rfl) ?_)))
  refine Ba 13 rfl rfl (fun q => by have q1 := q; (try simp at q1); exact Bl Tryz.underlying9 (cF rfl q) (cF rfl q) (by omega) (by omega)) ?_
  refine Ba 13 rfl rfl (fun q => Cj (cF rfl q) rfl) ?_
  refine Gt (BR rfl rfl (fun h => by rw [h]; rfl)) ?_
  refine Gn (.t4 0 5 6 18) ?_
  refine Gc (fun c2 => ?_) (fun c2 => ?_)
  ·
   rw [show AF.low (s.getD k.toNat 0) = true from c2] at hst
   refine Gs (Ga rfl (Gn (.t1 2) (Ab (AS (AD (AD (AS ?_)))))))
   refine AD ?_
   refine AY rfl (.tmp rfl .n) ?_
   intro w1 hS; refine ⟨?_, hS.Am⟩; exact congrArg Value.bool (by rw [AF.FG, hI13, hst]; rfl)
  have c2p := kz c2
  rw [show AF.low (s.getD k.toNat 0) = false from c2] at hst
  refine Aa ?_
  refine AB (.t3 0 5 6) ?_
  refine AV (AA (AJ ?_))
  refine Gt (Av rfl rfl (IntWalk.i64_in _ (by omega))) ?_
  refine Gm rfl ?_
  refine AQ (AB (.t3 0 5 6) ?_)
  refine B8 (k + 1) ?_ ?_ (.t3 6 0 5) (.refl _)
  · exact ⟨by omega, by omega, by rw [hI13, hst]; rfl⟩
  · omega
 have c1p := kz c1
 obtain rfl : k = (s.length : Int) := by omega
 rw [AF.Wq] at hI13
 refine Bf (AX (AX (Ai ?_)))
 refine AB (.t1 0) ?_
 refine AA (Gs (Gm rfl (Gt (BI rfl Tryz.underlying9 rfl) (Gt (CN rfl rfl) (Gm rfl (Bi 23 rfl rfl (fun q => AE rfl) (Bi 23 rfl rfl (fun q => BI rfl Tryz.underlying9 (Bh rfl q)) ?_)))))))
 refine Bi 23 rfl rfl (fun q => IG (Bh rfl q) rfl) (Gt (BK rfl rfl (fun h => h)) (Gm rfl (Bi 28 rfl rfl (fun q => AE rfl) (Bi 28 rfl rfl (fun q => Dv (Bh rfl q) rfl) (Gt (BK rfl rfl (fun h => h)) (Gm rfl (Bi 32 rfl rfl (fun q => AE rfl) ?_)))))))
 refine Bi 32 rfl rfl (fun q => Dv (Bh rfl q) rfl) (Gt (BK rfl rfl (fun h => h)) (Ga rfl (Gn (.t1 2) (Ab ?_))))
 refine AY rfl (.tmp rfl .n) ?_
 intro w1 hS; refine ⟨?_, hS.Am⟩; exact congrArg Value.bool (by rw [AF.FG, hI13]; simp only [Bool.true_and]; rfl)
theorem GB (X : AH) (b : Int) (w : World) : Ei Tryz.prog 159 #[.agg X.enc.toArray, .int .i64 b] w fun v w' => v = .bool (X.Az b) ∧ CB w w' := by
 refine Al [] [] Tryz.func159 rfl rfl rfl (St.start w []) ?_
 refine Gs ?_
 refine B4 rfl rfl rfl (fun b1 => ?_)
 refine Ga rfl (Gn (.t2 1 2) (Gs (Gm rfl (Gt (CN rfl rfl) (Gm rfl (Bi 7 rfl rfl (fun q => AE rfl) (Bi 7 rfl rfl (fun q => A8 (Bh rfl q) rfl) ?_)))))))
 refine Gt (BK rfl rfl (fun h => h)) (Gm rfl (Bi 11 rfl rfl (fun q => AE rfl) (Bi 11 rfl rfl (fun q => Ah Bn rfl) ?_)))
 refine Bi 11 rfl rfl (fun q => by have q1 := q; (try simp at q1); exact AR C6 (Bh rfl q) (Bh rfl q) (by omega) (by omega)) ?_
 refine Bi 11 rfl rfl (fun q => Ah IB (Bh rfl q)) ?_
 refine Bi 11 rfl rfl (fun q => by have q1 := q; (try simp at q1); exact AG (Bh rfl q) Dj .m0 ((AH.l2.comp (AU.ar (n := 6) Aj.fl (by omega))).comp Aj.l1) rfl rfl) ?_
 refine Gt (BK rfl rfl (fun h => h)) (Ga rfl (Gn (.t1 4) (Ab ?_)))
 refine AY rfl (.tmp rfl .n) ?_
 intro w1 hS; refine ⟨?_, hS.Am⟩; rfl
theorem Oh (X : AH) (i : Int) (w : World) : Ei Tryz.prog 19 #[.agg X.enc.toArray, .int .i64 i] w fun v w' => v = .tuple #[.int .i64 (X.room i).1, .bool (X.room i).2] ∧ CB w w' := by
 refine Al [] [] Tryz.func19 rfl rfl rfl (St.start w []) ?_
 refine Gs ?_
 refine B4 rfl rfl rfl (fun b1 => ?_)
 refine Ga rfl (Ga rfl (Gn (.t2 1 2) (Gs (Ga rfl (AQ (AA (CG ?_)))))))
 refine Gm rfl (AQ (AA (Af ?_)))
 refine Bo (.t4 1 6 8 2) ?_
 refine Dt (fun (k : Int) (j : Int) (o : Bool) => 0 ≤ k ∧ k ≤ 10 ∧ X.room i = X.JZ (10 - k).toNat j o) (fun (k : Int) (j : Int) (o : Bool) => (10 - k).toNat) (fun (k : Int) (j : Int) (o : Bool) => [(1, .int .i64 j), (6, .bool o), (8, .int .i64 k)]) (fun (k : Int) (j : Int) (o : Bool) => []) (0) (i) (true) ?_ rfl rfl (fun k j o hI1 => ?_)
 · exact ⟨Int.le_refl _, by omega, rfl⟩
 obtain ⟨hI11, hI12, hI13⟩ := hI1
 refine Gs (Gt (A8 rfl rfl) (AQ (AA (Ao ?_))))
 refine Gc (fun c1 => ?_) (fun c1 => ?_)
 ·
  have c1p := kz c1
  rw [show (10 - k).toNat = (10 - (k + 1)).toNat + 1 from by omega, AH.JZ] at hI13
  refine Aa ?_
  refine AB (.t4 1 2 6 8) ?_
  refine AA (Ao (Af (CG (Gm rfl (Gt (A8 rfl rfl) (Gm rfl (Ba 12 rfl rfl (fun q => AE rfl) ?_)))))))
  refine Ba 12 rfl rfl (fun q => CN (cF rfl q) rfl) ?_
  refine Gt (BR rfl rfl (fun h => by rw [h]; rfl)) ?_
  refine Gn (.t5 1 2 6 8 15) ?_
  refine Gc (fun c2 => ?_) (fun c2 => ?_)
  ·
   refine Gs (Ga rfl (Ga rfl (Gn (.t2 4 5) (Ab (AD (AS (AD ?_)))))))
   refine AD (AS (AD ?_))
   refine AY rfl (.tmp rfl (.tmp rfl .n)) ?_
   intro w1 hS; refine ⟨?_, hS.Am⟩; rw [hI13]; simp only [c1, c2, ↓reduceIte, Bool.false_eq_true]; rfl
  have c2p := kz c2
  refine Aa ?_
  refine AB (.t4 1 2 6 8) ?_
  refine AA (Gs (Gm rfl (Gt (Ah Cw rfl) ?_)))
  refine Gt (AR GA rfl rfl (by omega) (by omega)) ?_
  refine Gt (AZ rfl Mo .m0 (AH.l1.comp (AU.ar (n := 9) Ak.fl (by omega))) rfl) ?_
  refine BH rfl KU rfl (fun b2 => ?_)
  refine AT (AK (AU.id Ak.fl.len Ak.fl.one) rfl rfl rfl Mv rfl .h) ?_
  refine Gn (.t4 2 6 7 8) (CG (Gt (Ah FU rfl) (Gt (AG rfl A3 .m0 Ak.l2 rfl rfl) (Gn (.t5 2 6 7 8 21) (Af (Gs (Gt (Ae rfl rfl) ?_)))))))
  refine Ga rfl (Gn (.t6 2 6 7 8 21 22) ?_)
  refine Gc (fun c3 => ?_) (fun c3 => ?_)
  ·
   refine Gs (Gt (Ah DF rfl) (Gt (AG rfl A3 .m0 Ak.l3 rfl rfl) (Gm rfl (Ga rfl (Ga rfl (Gn (.t2 4 5) (Ab ?_)))))))
   refine AS (AD (AS (AD (AD (AS (AD ?_))))))
   refine AY rfl (.tmp rfl (.tmp rfl .n)) ?_
   intro w1 hS; refine ⟨?_, hS.Am⟩; rw [hI13]; simp only [c1, c2, c3, ↓reduceIte, Bool.false_eq_true]; rfl
  have c3p := kz c3
  refine Gs (Gt (Ae rfl rfl) (Ga rfl (Gn (.t6 2 6 7 8 21 27) ?_)))
  refine Gc (fun c4 => ?_) (fun c4 => ?_)
  ·
   have c4p := kz c4
   refine CG (Gt (Ah DF rfl) (Gt (AG rfl A3 .m0 Ak.l3 rfl rfl) (Gt (A8 rfl rfl) (Gm rfl (Ba 32 rfl rfl (fun q => Ah DF rfl) (Ba 32 rfl rfl (fun q => AG (cF rfl q) A3 .m0 Ak.l3 rfl rfl) (Ba 32 rfl rfl (fun q => CN (cF rfl q) rfl) ?_)))))))
   refine Gt (BR rfl rfl (fun h => by rw [h]; rfl)) ?_
   refine Gn (.t4 2 6 7 36) ?_
   refine Gc (fun c5 => ?_) (fun c5 => ?_)
   ·
    refine Gs (Ga rfl (Ga rfl (Gn (.t2 4 5) (Ab (AD (AS (AD ?_)))))))
    refine AS (AD (AD (AS (AD ?_))))
    refine AY rfl (.tmp rfl (.tmp rfl .n)) ?_
    intro w1 hS; refine ⟨?_, hS.Am⟩; rw [hI13]; simp only [c1, c2, c3, c4, c5, ↓reduceIte, Bool.false_eq_true]; rfl
   have c5p := kz c5
   refine Aa ?_
   refine AB (.t3 2 6 7) ?_
   refine AA (Gs (Gt (Ah DF rfl) (Gt (AG rfl A3 .m0 Ak.l3 rfl rfl) (Gt (Ah Bn rfl) ?_))))
   refine Gt (AR C6 rfl rfl (by omega) (by omega)) ?_
   refine Gt (Ah C2 rfl) ?_
   refine Gt (AG rfl A3 .m1 ((AH.l2.comp (AU.ar (n := 6) Aj.fl (by omega))).comp Aj.l3) rfl rfl) ?_
   refine Gm rfl (Ga rfl (Ga rfl (Gn (.t2 4 5) (Ab (AS (AD (AS ?_)))))))
   refine AD (AD (AS (AD ?_)))
   refine AY rfl (.tmp rfl (.tmp rfl .n)) ?_
   intro w1 hS; refine ⟨?_, hS.Am⟩; rw [hI13]; simp only [c1, c2, c3, c4, c5, ↓reduceIte, Bool.false_eq_true]; rfl
  have c4p := kz c4
  refine Gs (Gt (Ae rfl rfl) (Ga rfl (Gn (.t5 2 6 7 8 44) ?_)))
  refine Gc (fun c6 => ?_) (fun c6 => ?_)
  ·
   have c6p := kz c6
   refine Aa ?_
   refine AB (.t4 2 6 7 8) ?_
   refine AV (AA (Gs (Gt (Ah DF rfl) (Gt (AG rfl A3 .m0 Ak.l3 rfl rfl) (Ga rfl (Gn (.t4 1 2 6 8) (Gs ?_)))))))
   refine Gm rfl (Gt (CN rfl rfl) (Gm rfl (Bi 50 rfl rfl (fun q => AE rfl) (Bi 50 rfl rfl (fun q => A8 (Bh rfl q) rfl) (Gt (BK rfl rfl (fun h => h)) (Gm rfl (Bi 54 rfl rfl (fun q => AE rfl) ?_)))))))
   refine Bi 54 rfl rfl (fun q => Ah Cw rfl) ?_
   refine Bi 54 rfl rfl (fun q => by have q1 := q; (try simp at q1); exact AR GA (Bh rfl q) (Bh rfl q) (by omega) (by omega)) ?_
   refine Bi 54 rfl rfl (fun q => Ah F5 (Bh rfl q)) ?_
   refine Bi 54 rfl rfl (fun q => by have q1 := q; (try simp at q1); exact AG (Bh rfl q) Dj .m1 ((AH.l1.comp (AU.ar (n := 9) Ak.fl (by omega))).comp Ak.l4) rfl rfl) ?_
   refine Bi 54 rfl rfl (fun q => BV (Bh rfl q)) (Gt (BK rfl rfl (fun h => h)) (Gn (.t5 1 2 6 8 61) ?_))
   refine Gc (fun c7 => ?_) (fun c7 => ?_)
   ·
    have c7p := kz c7
    refine AJ (Ga rfl ?_)
    refine AQ (AB (.t4 1 2 6 8) ?_)
    refine AV (AA (AJ ?_))
    refine Gt (Av rfl rfl (IntWalk.i64_in _ (by omega))) ?_
    refine Gm rfl ?_
    refine AQ (AB (.t4 1 2 6 8) ?_)
    refine Bz (k + 1) ((X.AO.at j).at_) (false) ?_ ?_ (.t4 1 6 8 2) (.cons _ (.refl _))
    · exact ⟨by omega, by omega, by rw [hI13]; simp only [c1, c2, c3, c4, c6, c7, ↓reduceIte, Bool.false_eq_true]⟩
    · omega
   have c7p := kz c7
   refine Aa ?_
   refine AB (.t4 1 2 6 8) ?_
   refine AV (AA (AJ ?_))
   refine Gt (Av rfl rfl (IntWalk.i64_in _ (by omega))) ?_
   refine Gm rfl ?_
   refine AQ (AB (.t4 1 2 6 8) ?_)
   refine Bz (k + 1) ((X.AO.at j).at_) (o) ?_ ?_ (.t4 1 6 8 2) (.cons _ (.refl _))
   · exact ⟨by omega, by omega, by rw [hI13]; simp only [c1, c2, c3, c4, c6, c7, ↓reduceIte, Bool.false_eq_true]⟩
   · omega
  refine Gs (Ga rfl (Ga rfl (Gn (.t2 4 5) (Ab (AS (AD (AS ?_)))))))
  refine AD (AD (AS (AD ?_)))
  refine AY rfl (.tmp rfl (.tmp rfl .n)) ?_
  intro w1 hS; refine ⟨?_, hS.Am⟩; rw [hI13]; simp only [c1, c2, c3, c4, c6, ↓reduceIte, Bool.false_eq_true]; rfl
 have c1p := kz c1
 obtain rfl : k = 10 := by omega
 refine Bf (AX (AX (Ai ?_)))
 refine AB (.nil _) ?_
 refine AA (Gs (Ga rfl (Ga rfl (AQ (AA (Ab ?_))))))
 refine AY rfl (.tmp rfl (.tmp rfl .n)) ?_
 intro w1 hS; refine ⟨?_, hS.Am⟩; rw [hI13]; rfl
theorem Ea (X : AH) (r : Int) (w : World) : Ei Tryz.prog 129 #[.agg X.enc.toArray, .int .i64 r] w fun v w' => v = .bool (X.HN r) ∧ CB w w' := by
 refine Al [] [] Tryz.func129 rfl rfl rfl (St.start w []) ?_
 refine Gs ?_
 refine B4 rfl rfl rfl (fun b1 => ?_)
 refine Ga rfl (Gn (.t2 1 2) (CG (Gm rfl (Gt (A8 rfl rfl) (Gm rfl (Ba 11 rfl rfl (fun q => AE rfl) (Ba 11 rfl rfl (fun q => CN (cF rfl q) rfl) ?_)))))))
 refine Gt (BR rfl rfl (fun h => by rw [h]; rfl)) ?_
 refine Gn (.t3 1 2 14) ?_
 refine Gc (fun c1 => ?_) (fun c1 => ?_)
 ·
  refine Gs (Ga rfl (Gn (.t1 4) (Ab (AD ?_))))
  refine AY rfl (.tmp rfl .n) ?_
  intro w1 hS; refine ⟨congrArg Value.bool ?_, hS.Am⟩; rw [show X.HN r = _ from BB c1]
 have c1p := kz c1
 have hr : 0 ≤ r ∧ r < 6 := by simp at c1; omega
 refine Aa ?_
 refine AB (.t2 1 2) ?_
 refine AA (CG (Gm rfl (Gt (Ah Gv rfl) ?_)))
 refine Gt (AR Ox rfl rfl (by omega) (by omega)) ?_
 refine Gt (Ah Zh rfl) ?_
 refine Gt (AG rfl Dj .m0 ((AH.l0.comp (AU.ar (n := 6) Room.fl (by omega))).comp Room.l1) rfl rfl) ?_
 refine Gt (BV rfl) (Gn (.t3 1 2 20) ?_)
 refine Gc (fun c2 => ?_) (fun c2 => ?_)
 ·
  refine Gs (Ga rfl (Gn (.t1 4) (Ab (AD ?_))))
  refine AY rfl (.tmp rfl .n) ?_
  intro w1 hS; refine ⟨congrArg Value.bool ?_, hS.Am⟩; rw [show X.HN r = _ from (AW c1).trans (BB c2)]
 have c2p := kz c2
 refine Aa ?_
 refine AB (.t2 1 2) ?_
 refine AA (CG (Gt (Ah Cw rfl) (Gt (AZ rfl XB .m0 AH.l1 rfl) (Gm rfl (Gn (.t4 1 2 22 23) (Af ?_))))))
 refine Bo (.t4 23 1 2 22) ?_
 refine Ci (fun (k : Int) => 0 ≤ k ∧ k ≤ 9 ∧ B5 9 (fun i => !X.lit r i) 9 = B5 9 (fun i => !X.lit r i) (9 - k).toNat) (fun (k : Int) => (9 - k).toNat) (fun (k : Int) => [(23, .int .i64 k)]) (fun (k : Int) => []) (0) ?_ rfl rfl (fun k hI1 => ?_)
 · exact ⟨by omega, by omega, rfl⟩
 obtain ⟨hI11, hI12, hI13⟩ := hI1
 refine Gs (Gt (A8 rfl rfl) (AQ (AA (Ao ?_))))
 refine Gc (fun c3 => ?_) (fun c3 => ?_)
 ·
  have c3p := kz c3
  rw [DU _ (by omega)] at hI13
  refine Aa ?_
  refine AB (.t4 1 2 22 23) ?_
  refine AA (Ao (Af (Gs (Gm rfl ?_))))
  refine Gt (F3 Ak.fl Tryz.underlying30 Mo rfl rfl (by omega) (by omega)) ?_
  refine BH rfl KU rfl (fun b2 => ?_)
  refine Ga rfl ?_
  refine AT (AK (AU.id Ak.fl.len Ak.fl.one) rfl rfl rfl Mv rfl .h) ?_
  refine Gn (.t6 1 2 5 6 22 23) (CG (Gt (Ah Gy rfl) (Gt (AG rfl A3 .m0 Ak.l1 rfl rfl) (Gt (CX rfl rfl) (Gm rfl (Ba 30 rfl rfl (fun q => Ah F5 rfl) (Ba 30 rfl rfl (fun q => AG (cF rfl q) Dj .m0 Ak.l4 rfl rfl) ?_)))))))
  refine Ba 30 rfl rfl (fun q => BV (cF rfl q)) ?_
  refine Gt (BR rfl rfl (fun h => by rw [h]; rfl)) ?_
  refine Gn (.t6 1 2 5 22 23 34) ?_
  refine Gc (fun c4 => ?_) (fun c4 => ?_)
  ·
   have c4p := kz c4
   refine Bf (AX (Ai ?_))
   refine AB (.t4 1 2 22 23) ?_
   refine AA (AJ ?_)
   refine Gt (Av rfl rfl (IntWalk.i64_in _ (by omega))) ?_
   refine Gm rfl ?_
   refine AQ (AB (.t4 1 2 22 23) ?_)
   refine B8 (k + 1) ?_ ?_ (.t4 23 1 2 22) (.cons _ (.refl _))
   · exact ⟨by omega, by omega, by rw [hI13, show X.lit r k = false from by rw [AH.lit, c4]; first | rfl | exact Bool.and_false _]; rfl⟩
   · omega
  have c4p := kz c4
  refine Aa ?_
  refine AB (.t5 1 2 5 22 23) ?_
  refine AA (Gs (Gt (AZ rfl BW .m1 (AU.id AH.fl.len AH.fl.one) rfl) (Gm rfl ?_)))
  refine BA rfl ch (.c rfl (.c rfl .n)) (fun w hS => Oh _ _ w) ?_
  refine Gm rfl (Gt (AM rfl rfl) (Gt (AM rfl rfl) (Ga rfl (Ga rfl (Gn (.t6 1 2 7 8 22 23) (Gs (Gm rfl ?_)))))))
  refine Gm rfl (Gt (Ae rfl rfl) (Gm rfl (Bi 44 rfl rfl (fun q => AE rfl) (Gt (BK rfl rfl (fun h => h)) (Gn (.t5 1 2 22 23 46) ?_)))))
  refine Gc (fun c5 => ?_) (fun c5 => ?_)
  ·
   refine Gs (Ga rfl (Gn (.t1 4) (Ab (AS (AD (AD (AS ?_)))))))
   refine AD ?_
   refine AY rfl (.tmp rfl .n) ?_
   intro w1 hS; refine ⟨congrArg Value.bool ?_, hS.Am⟩; rw [show X.HN r = _ from (AW c1).trans (AW c2), hI13, show X.lit r k = true from by rw [AH.lit, c4, c5]; rfl]; rfl
  have c5p := kz c5
  refine Aa ?_
  refine AB (.t4 1 2 22 23) ?_
  refine AV (AA (AJ ?_))
  refine Gt (Av rfl rfl (IntWalk.i64_in _ (by omega))) ?_
  refine Gm rfl ?_
  refine AQ (AB (.t4 1 2 22 23) ?_)
  refine B8 (k + 1) ?_ ?_ (.t4 23 1 2 22) (.cons _ (.refl _))
  · exact ⟨by omega, by omega, by rw [hI13, show X.lit r k = false from by rw [AH.lit, c5]; first | rfl | exact Bool.and_false _]; rfl⟩
  · omega
 have c3p := kz c3
 obtain rfl : k = 9 := by omega
 refine Bf (AX (AX (Ai ?_)))
 refine AB (.nil _) ?_
 refine AA (Gs (Ga rfl (AQ (AA (Ab ?_)))))
 refine AY rfl (.tmp rfl .n) ?_
 intro w1 hS; refine ⟨congrArg Value.bool ?_, hS.Am⟩; rw [show X.HN r = _ from (AW c1).trans (AW c2), hI13]; rfl
theorem H3 (X : AH) (b : Int) (w : World) : Ei Tryz.prog 160 #[.agg X.enc.toArray, .int .i64 b] w fun v w' => v = .bool (X.hidden b) ∧ CB w w' := by
 refine Al [] [] Tryz.func160 rfl rfl rfl (St.start w []) ?_
 refine Gs ?_
 refine B4 rfl rfl rfl (fun b1 => ?_)
 refine Ga rfl (Gn (.t2 1 2) (CG (Gt (Ah Cw rfl) (Gt (AZ rfl XB .m0 AH.l1 rfl) (Gm rfl (Gn (.t3 1 8 9) (Af ?_)))))))
 refine Bo (.t3 9 1 8) ?_
 refine Ci (fun (k : Int) => 0 ≤ k ∧ k ≤ 9 ∧ B5 9 (fun i => !X.Lh b i) 9 = B5 9 (fun i => !X.Lh b i) (9 - k).toNat) (fun (k : Int) => (9 - k).toNat) (fun (k : Int) => [(9, .int .i64 k)]) (fun (k : Int) => []) (0) ?_ rfl rfl (fun k hI1 => ?_)
 · exact ⟨by omega, by omega, rfl⟩
 obtain ⟨hI11, hI12, hI13⟩ := hI1
 refine Gs (Gt (A8 rfl rfl) (AQ (AA (Ao ?_))))
 refine Gc (fun c1 => ?_) (fun c1 => ?_)
 ·
  have c1p := kz c1
  rw [DU _ (by omega)] at hI13
  refine Aa ?_
  refine AB (.t3 1 8 9) ?_
  refine AA (Ao (Af (Gs ?_)))
  refine Gt (F3 Ak.fl Tryz.underlying30 Mo rfl rfl (by omega) (by omega)) ?_
  refine BH rfl KU rfl (fun b2 => ?_)
  refine AT (AK (AU.id Ak.fl.len Ak.fl.one) rfl rfl rfl Mv rfl .h) ?_
  refine Gn (.t4 1 6 8 9) (Gs (Gt (Ah Gy rfl) (Gt (AG rfl A3 .m0 Ak.l1 rfl rfl) (Gt (Ae rfl rfl) (Gm rfl (Bi 15 rfl rfl (fun q => Ah F5 rfl) (Bi 15 rfl rfl (fun q => AG (Bh rfl q) Dj .m0 Ak.l4 rfl rfl) ?_)))))))
  refine Gt (BK rfl rfl (fun h => h)) (Gm rfl (Bi 19 rfl rfl (fun q => Ah FU rfl) (Bi 19 rfl rfl (fun q => AG (Bh rfl q) A3 .m0 Ak.l2 rfl rfl) (Bi 19 rfl rfl (fun q => Ae (Bh rfl q) rfl) (Gt (BK rfl rfl (fun h => h)) (Gm rfl (Bi 24 rfl rfl (fun q => Ah DF rfl) ?_)))))))
  refine Bi 24 rfl rfl (fun q => AG (Bh rfl q) A3 .m0 Ak.l3 rfl rfl) (Bi 24 rfl rfl (fun q => AE rfl) (Bi 24 rfl rfl (fun q => Ae (Bh rfl q) (Bh rfl q)) (Gt (BK rfl rfl (fun h => h)) (Gn (.t4 1 8 9 29) ?_))))
  refine Gc (fun c2 => ?_) (fun c2 => ?_)
  ·
   refine Gs (Ga rfl (Gn (.t1 4) (Ab (AS (AD (AD (AS ?_)))))))
   refine AD ?_
   refine AY rfl (.tmp rfl .n) ?_
   intro w1 hS; refine ⟨congrArg Value.bool ?_, hS.Am⟩; rw [AH.hidden, hI13, show X.Lh b k = true from c2]; rfl
  have c2p := kz c2
  refine Aa ?_
  refine AB (.t3 1 8 9) ?_
  refine AV (AA (AJ ?_))
  refine Gt (Av rfl rfl (IntWalk.i64_in _ (by omega))) ?_
  refine Gm rfl ?_
  refine AQ (AB (.t3 1 8 9) ?_)
  refine B8 (k + 1) ?_ ?_ (.t3 9 1 8) (.cons _ (.refl _))
  · exact ⟨by omega, by omega, by rw [hI13, show X.Lh b k = false from c2]; rfl⟩
  · omega
 have c1p := kz c1
 obtain rfl : k = 9 := by omega
 refine Bf (AX (AX (Ai ?_)))
 refine AB (.nil _) ?_
 refine AA (Gs (Ga rfl (AQ (AA (Ab ?_)))))
 refine AY rfl (.tmp rfl .n) ?_
 intro w1 hS; refine ⟨congrArg Value.bool ?_, hS.Am⟩; rw [AH.hidden, hI13]; rfl
theorem DN (X : AH) (a b : Int) (w : World) : Ei Tryz.prog 130 #[.agg X.enc.toArray, .int .i64 a, .int .i64 b] w fun v w' => v = .bool (X.Il a b) ∧ CB w w' := by
 refine Al [] [] Tryz.func130 rfl rfl rfl (St.start w []) ?_
 refine Gs ?_
 refine B4 rfl rfl rfl (fun b1 => ?_)
 refine Ga rfl (Gn (.t3 1 2 3) (CG (Gt (AZ rfl BW .m0 (AU.id AH.fl.len AH.fl.one) rfl) (Gm rfl ?_))))
 refine BA rfl W9 (.c rfl (.c rfl .n)) (fun w hS => GB _ _ w) ?_
 refine Gt (BV rfl) (Gm rfl (Ba 13 rfl rfl (fun q => AZ rfl BW .m0 (AU.id AH.fl.len AH.fl.one) rfl) (Ba 13 rfl rfl (fun q => AE rfl) ?_)))
 refine Qa (t := 13) rfl rfl rfl (fun q => by have q1 := q; (try simp at q1); exact D7 W9 (.c (cF rfl q) (.c (cF rfl q) .n)) (fun w hS => GB _ _ w)) ?_
 refine Ba 13 rfl rfl (fun q => BV (cF rfl q)) ?_
 refine Gt (BR rfl rfl (fun h => by rw [h]; rfl)) ?_
 refine Gn (.t4 1 2 3 18) ?_
 refine Gc (fun c1 => ?_) (fun c1 => ?_)
 ·
  refine Gs (Ga rfl (Gn (.t1 6) (Ab (AD ?_))))
  refine AY rfl (.tmp rfl .n) ?_
  intro w1 hS; refine ⟨congrArg Value.bool ?_, hS.Am⟩; rw [show X.Il a b = _ from (BB c1)]
 have c1p := kz c1
 have hr : (0 ≤ a ∧ a < 6) ∧ 0 ≤ b ∧ b < 6 := by simp at c1; have h1 := AH.HG c1.1; have h2 := AH.HG c1.2; omega
 refine Aa ?_
 refine AB (.t3 1 2 3) ?_
 refine AA (CG (Gm rfl (Gm rfl (Gt (Ae rfl rfl) (Gn (.t4 1 2 3 21) ?_)))))
 refine Gc (fun c2 => ?_) (fun c2 => ?_)
 ·
  refine Gs (Ga rfl (Gn (.t1 6) (Ab (AD ?_))))
  refine AY rfl (.tmp rfl .n) ?_
  intro w1 hS; refine ⟨congrArg Value.bool ?_, hS.Am⟩; rw [show X.Il a b = _ from ((AW c1).trans (BB c2))]
 have c2p := kz c2
 refine Aa ?_
 refine AB (.t3 1 2 3) ?_
 refine AA (Ao ?_)
 refine BE (N := 12) [0, 0, 3, 7, 0, 0, 48, 112, 0, 0, 783, 2047] mix (by kernel_rfl) rfl ?_
 refine Pf 0 rfl (AE rfl) (Pf 1 rfl (Ah Bn rfl) ?_)
 refine Pf 2 rfl (AR C6 rfl rfl (by omega) (by omega)) ?_
 refine Pf 3 rfl (AZ rfl Fj .m0 (AH.l2.comp (AU.ar (n := 6) Aj.fl (by omega))) rfl) ?_
 refine Pf 4 rfl (AE rfl) (Pf 5 rfl (Ah Bn rfl) ?_)
 refine Pf 6 rfl (AR C6 rfl rfl (by omega) (by omega)) ?_
 refine Pf 7 rfl (AZ rfl Fj .m0 (AH.l2.comp (AU.ar (n := 6) Aj.fl (by omega))) rfl) ?_
 refine J0 8 9 rfl rfl (by kernel_rfl) ?_ ?_
 ·
  refine BH rfl Lw rfl (fun b2 => ?_)
  refine Bp rfl ⟨?_, ?_⟩
  · exact (Po rfl (AZ rfl Fj .m1 (AH.l2.comp (AU.ar (n := 6) Aj.fl (by omega))) rfl) rfl rfl (Po rfl (AR C6 rfl rfl (by omega) (by omega)) rfl rfl (Po rfl (Ah Bn rfl) rfl rfl (Po rfl (AE rfl) rfl rfl (Po rfl (AZ rfl Fj .m1 (AH.l2.comp (AU.ar (n := 6) Aj.fl (by omega))) rfl) rfl rfl (Po rfl (AR C6 rfl rfl (by omega) (by omega)) rfl rfl (Po rfl (Ah Bn rfl) rfl rfl (Po rfl (AE rfl) rfl rfl Aq))))))))
  refine An 9 rfl (by kernel_rfl) ?_
  refine BH rfl Lw rfl (fun b3 => ?_)
  refine Bp rfl ⟨?_, ?_⟩
  · exact (Po rfl (AZ rfl Fj .m2 (AH.l2.comp (AU.ar (n := 6) Aj.fl (by omega))) rfl) rfl rfl (Po rfl (AR C6 rfl rfl (by omega) (by omega)) rfl rfl (Po rfl (Ah Bn rfl) rfl rfl (Po rfl (AE rfl) rfl rfl (Po rfl (AZ rfl Fj .m2 (AH.l2.comp (AU.ar (n := 6) Aj.fl (by omega))) rfl) rfl rfl (Po rfl (AR C6 rfl rfl (by omega) (by omega)) rfl rfl (Po rfl (Ah Bn rfl) rfl rfl (Po rfl (AE rfl) rfl rfl Aq))))))))
  refine An 10 rfl (by kernel_rfl) ?_
  refine AT (AK (AU.id Aj.fl.len Aj.fl.one) rfl rfl rfl KQ rfl (.t .h)) ?_
  refine BN rfl ⟨?_, ?_⟩
  · exact (Po rfl (AZ rfl Fj .m2 (AH.l2.comp (AU.ar (n := 6) Aj.fl (by omega))) rfl) rfl rfl (Po rfl (AR C6 rfl rfl (by omega) (by omega)) rfl rfl (Po rfl (Ah Bn rfl) rfl rfl (Po rfl (AE rfl) rfl rfl (Pk (Pk (Pk (Pk Aq))))))))
  refine An 11 rfl (by kernel_rfl) ?_
  refine AT (AK (AU.id Aj.fl.len Aj.fl.one) rfl rfl rfl KQ rfl .h) ?_
  refine BN rfl ⟨?_, ?_⟩
  · exact (Pk (Pk (Pk (Pk (Pk (Pk (Pk (Pk Aq))))))))
  refine A4 (by kernel_rfl) ?_
  refine AB (.t4 2 3 7 8) ?_
  refine AA (Gs (Gt (Ah C2 rfl) (Gt (AG rfl A3 .m1 Aj.l3 rfl rfl) (Gt (Ah C2 rfl) (Gt (AG rfl A3 .m0 Aj.l3 rfl rfl) (Gt (Ae rfl rfl) (Gm rfl ?_)))))))
  refine Bi 35 rfl rfl (fun q => AZ rfl BW .m2 (AU.id AH.fl.len AH.fl.one) rfl) (Bi 35 rfl rfl (fun q => Ah C2 rfl) (Bi 35 rfl rfl (fun q => AG (Bh rfl q) A3 .m1 Aj.l3 rfl rfl) ?_))
  refine MY (t := 35) rfl rfl rfl (fun q => D7 Ug (.c (Bh rfl q) (.c (Bh rfl q) .n)) (fun w hS => Ea _ _ w)) ?_
  refine Gt (BK rfl rfl (fun h => h)) (Gm rfl (Bi 41 rfl rfl (fun q => Ah XL rfl) (Bi 41 rfl rfl (fun q => AG (Bh rfl q) Dj .m1 Aj.l2 rfl rfl) (Bi 41 rfl rfl (fun q => AE (Bh rfl q)) ?_))))
  refine C1 (t := 44) rfl rfl rfl (fun qc q => AZ rfl BW .m2 (AU.id AH.fl.len AH.fl.one) rfl) ?_
  refine C1 (t := 44) rfl rfl rfl (fun qc q => AE rfl) ?_
  refine UN (t := 44) rfl rfl rfl (fun qc q => by have q1 := q; have qc1 := qc; (try simp at q1 qc1); exact D7 ZN (.c (Bh rfl (by rw [qc, q]; rfl)) (.c (Bh rfl (by rw [qc, q]; rfl)) .n)) (fun w hS => H3 _ _ w)) ?_
  refine C1 (t := 44) rfl rfl rfl (fun qc q => BV (Bh rfl (by rw [qc, q]; rfl))) ?_
  refine Bi 41 rfl rfl (fun q => BR (Bh rfl q) rfl (fun h => by rw [q, h]; rfl)) ?_
  refine Gt (BK rfl rfl (fun h => h)) (Ga rfl (Gn (.t1 6) (Ab ?_)))
  refine AY rfl (.tmp rfl .n) ?_
  intro w1 hS; refine ⟨congrArg Value.bool ?_, hS.Am⟩; rw [show X.Il a b = _ from ((AW c1).trans (AW c2))]
 ·
  refine BH rfl Lw rfl (fun b4 => ?_)
  refine Bp rfl ⟨?_, ?_⟩
  · exact (Po rfl (AZ rfl Fj .m1 (AH.l2.comp (AU.ar (n := 6) Aj.fl (by omega))) rfl) rfl rfl (Po rfl (AR C6 rfl rfl (by omega) (by omega)) rfl rfl (Po rfl (Ah Bn rfl) rfl rfl (Po rfl (AE rfl) rfl rfl (Po rfl (AZ rfl Fj .m1 (AH.l2.comp (AU.ar (n := 6) Aj.fl (by omega))) rfl) rfl rfl (Po rfl (AR C6 rfl rfl (by omega) (by omega)) rfl rfl (Po rfl (Ah Bn rfl) rfl rfl (Po rfl (AE rfl) rfl rfl Aq))))))))
  refine An 8 rfl (by kernel_rfl) ?_
  refine BH rfl Lw rfl (fun b5 => ?_)
  refine Bp rfl ⟨?_, ?_⟩
  · exact (Po rfl (AZ rfl Fj .m2 (AH.l2.comp (AU.ar (n := 6) Aj.fl (by omega))) rfl) rfl rfl (Po rfl (AR C6 rfl rfl (by omega) (by omega)) rfl rfl (Po rfl (Ah Bn rfl) rfl rfl (Po rfl (AE rfl) rfl rfl (Po rfl (AZ rfl Fj .m2 (AH.l2.comp (AU.ar (n := 6) Aj.fl (by omega))) rfl) rfl rfl (Po rfl (AR C6 rfl rfl (by omega) (by omega)) rfl rfl (Po rfl (Ah Bn rfl) rfl rfl (Po rfl (AE rfl) rfl rfl Aq))))))))
  refine An 10 rfl (by kernel_rfl) ?_
  refine AT (AK (AU.id Aj.fl.len Aj.fl.one) rfl rfl rfl KQ rfl .h) ?_
  refine BN rfl ⟨?_, ?_⟩
  · exact (Po rfl (AZ rfl Fj .m2 (AH.l2.comp (AU.ar (n := 6) Aj.fl (by omega))) rfl) rfl rfl (Po rfl (AR C6 rfl rfl (by omega) (by omega)) rfl rfl (Po rfl (Ah Bn rfl) rfl rfl (Po rfl (AE rfl) rfl rfl (Pk (Pk (Pk (Pk Aq))))))))
  refine An 11 rfl (by kernel_rfl) ?_
  refine AT (AK (AU.id Aj.fl.len Aj.fl.one) rfl rfl rfl KQ rfl (.t .h)) ?_
  refine BN rfl ⟨?_, ?_⟩
  · exact (Pk (Pk (Pk (Pk (Pk (Pk (Pk (Pk Aq))))))))
  refine A4 (by kernel_rfl) ?_
  refine AB (.t4 2 3 7 8) ?_
  refine AA (Gs (Gt (Ah C2 rfl) (Gt (AG rfl A3 .m0 Aj.l3 rfl rfl) (Gt (Ah C2 rfl) (Gt (AG rfl A3 .m1 Aj.l3 rfl rfl) (Gt (Ae rfl rfl) (Gm rfl ?_)))))))
  refine Bi 35 rfl rfl (fun q => AZ rfl BW .m2 (AU.id AH.fl.len AH.fl.one) rfl) (Bi 35 rfl rfl (fun q => Ah C2 rfl) (Bi 35 rfl rfl (fun q => AG (Bh rfl q) A3 .m0 Aj.l3 rfl rfl) ?_))
  refine MY (t := 35) rfl rfl rfl (fun q => D7 Ug (.c (Bh rfl q) (.c (Bh rfl q) .n)) (fun w hS => Ea _ _ w)) ?_
  refine Gt (BK rfl rfl (fun h => h)) (Gm rfl (Bi 41 rfl rfl (fun q => Ah XL rfl) (Bi 41 rfl rfl (fun q => AG (Bh rfl q) Dj .m0 Aj.l2 rfl rfl) (Bi 41 rfl rfl (fun q => AE (Bh rfl q)) ?_))))
  refine C1 (t := 44) rfl rfl rfl (fun qc q => AZ rfl BW .m2 (AU.id AH.fl.len AH.fl.one) rfl) ?_
  refine C1 (t := 44) rfl rfl rfl (fun qc q => AE rfl) ?_
  refine UN (t := 44) rfl rfl rfl (fun qc q => by have q1 := q; have qc1 := qc; (try simp at q1 qc1); exact D7 ZN (.c (Bh rfl (by rw [qc, q]; rfl)) (.c (Bh rfl (by rw [qc, q]; rfl)) .n)) (fun w hS => H3 _ _ w)) ?_
  refine C1 (t := 44) rfl rfl rfl (fun qc q => BV (Bh rfl (by rw [qc, q]; rfl))) ?_
  refine Bi 41 rfl rfl (fun q => BR (Bh rfl q) rfl (fun h => by rw [q, h]; rfl)) ?_
  refine Gt (BK rfl rfl (fun h => h)) (Ga rfl (Gn (.t1 6) (Ab ?_)))
  refine AY rfl (.tmp rfl .n) ?_
  intro w1 hS; refine ⟨congrArg Value.bool ?_, hS.Am⟩; rw [show X.Il a b = _ from ((AW c1).trans (AW c2))]
theorem M6 (k : Int) (w : World) : Ei Tryz.prog 173 #[.int .i64 k] w fun v w' => v = .bool (AH.an k) ∧ CB w w' := by
 refine Al [] [] Tryz.func173 rfl rfl rfl (St.start w []) ?_
 refine Gs (Ga rfl (Gn (.t1 0) (Gs (Gm rfl (Gt (Ae rfl rfl) (Gm rfl (Ba 5 rfl rfl (fun q => AE rfl) ?_)))))))
 refine Ba 5 rfl rfl (fun q => Ae (cF rfl q) rfl) ?_
 refine Gt (BR rfl rfl (fun h => by rw [h]; rfl)) ?_
 refine Gm rfl (Ba 9 rfl rfl (fun q => AE rfl) (Ba 9 rfl rfl (fun q => Ae (cF rfl q) rfl) ?_))
 refine Gt (BR rfl rfl (fun h => by rw [h]; rfl)) ?_
 refine Ga rfl (Gn (.t1 2) (Ab ?_))
 refine AY rfl (.tmp rfl .n) ?_
 intro w1 hS; refine ⟨?_, hS.Am⟩; rfl
theorem Ju (X : AH) (b : Int) (e : Ing.Event) (w : World) : Ei Tryz.prog 157 #[.agg X.enc.toArray, .int .i64 b, .agg e.enc.toArray] w fun v w' => v = .int .i64 (X.Dm b e) ∧ CB w w' := by
 refine Al [] [] Tryz.func157 rfl rfl rfl (St.start w []) ?_
 refine Gs ?_
 refine B4 rfl rfl rfl (fun b1 => ?_)
 refine B4 rfl rfl rfl (fun b2 => ?_)
 refine Ga rfl (Gn (.t3 1 3 5) (Ao (Af (Gs (Gt (AZ rfl BW .m1 (AU.id AH.fl.len AH.fl.one) rfl) (Gm rfl ?_))))))
 refine BA rfl W9 (.c rfl (.c rfl .n)) (fun w hS => GB _ _ w) ?_
 refine Gt (BV rfl) (Ga rfl (Gn (.t4 1 3 5 8) ?_))
 refine Gc (fun c1 => ?_) (fun c1 => ?_)
 ·
  refine Gs (Ga rfl (Gn (.t1 6) (Ab (AS (AD ?_)))))
  refine AY rfl (.tmp rfl .n) ?_
  intro w1 hS; refine ⟨?_, hS.Am⟩; rw [show X.Dm b e = _ from (BB c1)]; rfl
 have c1p := kz c1
 have hr : 0 ≤ b ∧ b < 6 := by simp at c1; have h1 := AH.HG c1; omega
 refine Gs (Gm rfl (Gt (Ah Qu rfl) (Gt (AG rfl A3 .m0 Ing.Event.l2 rfl rfl) (Gt (Ae rfl rfl) (Ga rfl (Gn (.t4 1 3 5 13) ?_))))))
 refine Gc (fun c2 => ?_) (fun c2 => ?_)
 ·
  refine CG (Gt (Ah Gx rfl) (Gt (AG rfl A3 .m0 Ing.Event.l3 rfl rfl) (Gt (A8 rfl rfl) (Gm rfl (Ba 21 rfl rfl (fun q => Ah Gx rfl) (Ba 21 rfl rfl (fun q => AG (cF rfl q) A3 .m0 Ing.Event.l3 rfl rfl) (Ba 21 rfl rfl (fun q => CN (cF rfl q) rfl) ?_)))))))
  refine Gt (BR rfl rfl (fun h => by rw [h]; rfl)) ?_
  refine Gm rfl (Ba 26 rfl rfl (fun q => AZ rfl BW .m1 (AU.id AH.fl.len AH.fl.one) rfl) (Ba 26 rfl rfl (fun q => AE rfl) (Ba 26 rfl rfl (fun q => Ah Gx rfl) (Ba 26 rfl rfl (fun q => AG (cF rfl q) A3 .m0 Ing.Event.l3 rfl rfl) ?_))))
  refine Qa (t := 26) rfl rfl rfl (fun q => by have q1 := q; (try simp at q1); exact D7 Nu (.c (cF rfl q) (.c (cF rfl q) (.c (cF rfl q) .n))) (fun w hS => DN _ _ _ w)) ?_
  refine Gt (BR rfl rfl (fun h => by rw [h]; rfl)) ?_
  refine Gn (.t1 32) ?_
  refine Gc (fun c3 => ?_) (fun c3 => ?_)
  ·
   refine Gs (Ga rfl (Gn (.t1 6) (Ab (AD (AS (AD ?_))))))
   refine AY rfl (.tmp rfl .n) ?_
   intro w1 hS; refine ⟨?_, hS.Am⟩; rw [show X.Dm b e = _ from ((AW c1).trans ((BB c2).trans (BB c3)))]; rfl
  refine Aa ?_
  refine AB (.nil _) ?_
  refine AA (Gs (Ga rfl (AQ (AA (Ab (AS (AD ?_)))))))
  refine AY rfl (.tmp rfl .n) ?_
  intro w1 hS; refine ⟨?_, hS.Am⟩; rw [show X.Dm b e = _ from ((AW c1).trans ((BB c2).trans (AW c3)))]; rfl
 have c2p := kz c2
 refine Ao ?_
 refine BE (N := 14) [0, 1, 3, 7, 15, 15, 63, 127, 255, 15, 527, 2047, 4095, 8191] mix (by kernel_rfl) rfl ?_
 refine Pf 0 rfl (Ah TK rfl) (Pf 1 rfl (AG rfl A3 .m0 Ing.Event.l0 rfl rfl) (Pf 2 rfl (Ae rfl rfl) (Pf 3 rfl (AE rfl) (Hf 4 37 rfl rfl rfl (fun q => AE rfl) (Hf 5 37 rfl rfl rfl (fun q => Ah Bn rfl) ?_)))))
 refine BZ 6 rfl rfl (by kernel_rfl) (G2 (t := 37) rfl rfl (fun q => by have q1 := q; (try simp at q1); exact IT (AR C6 (cF rfl q) (cF rfl q) (by omega) (by omega)))) ?_
 refine Hf 7 37 rfl rfl rfl (fun q => Ah C2 (cF rfl q)) ?_
 refine BZ 8 rfl rfl (by kernel_rfl) (G2 (t := 37) rfl rfl (fun q => by have q1 := q; (try simp at q1); exact IT (AG (cF rfl q) A3 .m1 ((AH.l2.comp (AU.ar (n := 6) Aj.fl (by omega))).comp Aj.l3) rfl rfl))) ?_
 refine Hf 9 37 rfl rfl rfl (fun q => Ah WD rfl) (Hf 10 37 rfl rfl rfl (fun q => AG (cF rfl q) A3 .m0 Ing.Event.l1 rfl rfl) (Hf 11 37 rfl rfl rfl (fun q => CX (cF rfl q) (cF rfl q)) ?_))
 refine Pf 12 rfl (BR rfl rfl (fun h => by rw [h]; rfl)) ?_
 refine Pf 13 rfl (A0 rfl) ?_
 refine A4 (by kernel_rfl) ?_
 refine AB (.t4 1 3 5 33) ?_
 refine AA ?_
 refine Gc (fun c4 => ?_) (fun c4 => ?_)
 ·
  refine Gs (Ga rfl (Gn (.t1 6) (Ab (AS (AD ?_)))))
  refine AY rfl (.tmp rfl .n) ?_
  intro w1 hS; refine ⟨?_, hS.Am⟩; rw [show X.Dm b e = _ from ((AW c1).trans ((AW c2).trans (BB c4)))]; rfl
 have c4p := kz c4
 refine Aa ?_
 refine AB (.t3 1 3 5) ?_
 refine AV (AA (Gs (Ga rfl (AQ (AA (CG (Gt (AZ rfl BW .m1 (AU.id AH.fl.len AH.fl.one) rfl) ?_)))))))
 refine Gm rfl (Gt (Ah Qu rfl) (Gt (AG rfl A3 .m0 Ing.Event.l2 rfl rfl) ?_))
 refine BA rfl Nu (.c rfl (.c rfl (.c rfl .n))) (fun w hS => DN _ _ _ w) ?_
 refine Gt (BV rfl) (Gn (.t5 1 3 5 7 52) ?_)
 refine Gc (fun c5 => ?_) (fun c5 => ?_)
 ·
  have c5p := kz c5
  refine CG (Gt (Ah TK rfl) (Gt (AG rfl A3 .m0 Ing.Event.l0 rfl rfl) ?_))
  refine BA rfl bQ (.c rfl .n) (fun w hS => M6 _ w) ?_
  refine Gt (BV rfl) (Gn (.t5 1 3 5 7 56) ?_)
  refine Gc (fun c6 => ?_) (fun c6 => ?_)
  ·
   refine Gs (Ga rfl (Gn (.t1 6) (Ab (AD (AD ?_)))))
   refine AY rfl (.tmp rfl .n) ?_
   intro w1 hS; refine ⟨?_, hS.Am⟩; rw [show X.Dm b e = _ from ((AW c1).trans ((AW c2).trans ((AW c4).trans ((BB c5).trans (BB c6)))))]; rfl
  have c6p := kz c6
  refine Aa ?_
  refine AB (.t4 1 3 5 7) ?_
  refine AA (AJ (Gm rfl ?_))
  refine Gt (Av rfl rfl (IntWalk.i64_in _ (by omega))) ?_
  refine Ga rfl (Gn (.t4 1 3 5 7) (CG (Gt (Ah Gx rfl) (Gt (AG rfl A3 .m0 Ing.Event.l3 rfl rfl) (Gt (CN rfl rfl) (Gm rfl (Bi 62 rfl rfl (fun q => Ah Gx rfl) ?_)))))))
  refine Bi 62 rfl rfl (fun q => AG (Bh rfl q) A3 .m0 Ing.Event.l3 rfl rfl) (Bi 62 rfl rfl (fun q => A8 (Bh rfl q) rfl) (Gt (BK rfl rfl (fun h => h)) (Gm rfl (Bi 67 rfl rfl (fun q => AZ rfl BW .m1 (AU.id AH.fl.len AH.fl.one) rfl) (Bi 67 rfl rfl (fun q => AE rfl) (Bi 67 rfl rfl (fun q => Ah Gx rfl) (Bi 67 rfl rfl (fun q => AG (Bh rfl q) A3 .m0 Ing.Event.l3 rfl rfl) ?_)))))))
  refine MY (t := 67) rfl rfl rfl (fun q => D7 Nu (.c (Bh rfl q) (.c (Bh rfl q) (.c (Bh rfl q) .n))) (fun w hS => DN _ _ _ w)) ?_
  refine Bi 67 rfl rfl (fun q => BV (Bh rfl q)) (Gt (BK rfl rfl (fun h => h)) (Gn (.t2 7 74) ?_))
  refine Gc (fun c7 => ?_) (fun c7 => ?_)
  ·
   have c7p := kz c7
   refine AJ (Gm rfl ?_)
   refine Gt (Av rfl rfl (IntWalk.i64_in _ (by omega))) ?_
   refine Ga rfl (Gn (.t1 7) (Gs (Gm rfl (Ga rfl (Gn (.t1 6) (Ab ?_))))))
   refine AY rfl (.tmp rfl .n) ?_
   intro w1 hS; refine ⟨?_, hS.Am⟩; rw [show X.Dm b e = _ from ((AW c1).trans ((AW c2).trans ((AW c4).trans ((BB c5).trans ((AW c6).trans (BB c7))))))]; rfl
  refine Aa ?_
  refine AB (.t1 7) ?_
  refine AA (Gs (Gm rfl (Ga rfl (Gn (.t1 6) (Ab ?_)))))
  refine AY rfl (.tmp rfl .n) ?_
  intro w1 hS; refine ⟨?_, hS.Am⟩; rw [show X.Dm b e = _ from ((AW c1).trans ((AW c2).trans ((AW c4).trans ((BB c5).trans ((AW c6).trans (AW c7))))))]; rfl
 have c5p := kz c5
 refine Aa ?_
 refine AB (.t4 1 3 5 7) ?_
 refine AA (CG (Gt (Ah Gx rfl) (Gt (AG rfl A3 .m0 Ing.Event.l3 rfl rfl) (Gt (CN rfl rfl) (Gm rfl (Bi 62 rfl rfl (fun q => Ah Gx rfl) (Bi 62 rfl rfl (fun q => AG (Bh rfl q) A3 .m0 Ing.Event.l3 rfl rfl) ?_)))))))
 refine Bi 62 rfl rfl (fun q => A8 (Bh rfl q) rfl) (Gt (BK rfl rfl (fun h => h)) (Gm rfl (Bi 67 rfl rfl (fun q => AZ rfl BW .m1 (AU.id AH.fl.len AH.fl.one) rfl) (Bi 67 rfl rfl (fun q => AE rfl) (Bi 67 rfl rfl (fun q => Ah Gx rfl) (Bi 67 rfl rfl (fun q => AG (Bh rfl q) A3 .m0 Ing.Event.l3 rfl rfl) ?_))))))
 refine MY (t := 67) rfl rfl rfl (fun q => D7 Nu (.c (Bh rfl q) (.c (Bh rfl q) (.c (Bh rfl q) .n))) (fun w hS => DN _ _ _ w)) ?_
 refine Bi 67 rfl rfl (fun q => BV (Bh rfl q)) (Gt (BK rfl rfl (fun h => h)) (Gn (.t2 7 74) ?_))
 refine Gc (fun c8 => ?_) (fun c8 => ?_)
 ·
  have c8p := kz c8
  refine AJ (Gm rfl ?_)
  refine Gt (Av rfl rfl (IntWalk.i64_in _ (by omega))) ?_
  refine Ga rfl (Gn (.t1 7) (Gs (Gm rfl (Ga rfl (Gn (.t1 6) (Ab ?_))))))
  refine AY rfl (.tmp rfl .n) ?_
  intro w1 hS; refine ⟨?_, hS.Am⟩; rw [show X.Dm b e = _ from ((AW c1).trans ((AW c2).trans ((AW c4).trans ((AW c5).trans (BB c8)))))]; rfl
 refine Aa ?_
 refine AB (.t1 7) ?_
 refine AA (Gs (Gm rfl (Ga rfl (Gn (.t1 6) (Ab ?_)))))
 refine AY rfl (.tmp rfl .n) ?_
 intro w1 hS; refine ⟨?_, hS.Am⟩; rw [show X.Dm b e = _ from ((AW c1).trans ((AW c2).trans ((AW c4).trans ((AW c5).trans (AW c8)))))]; rfl
theorem Jy (X : AH) (e : Ing.Event) (w : World) : Ei Tryz.prog 123 #[.agg X.enc.toArray, .agg e.enc.toArray] w fun v w' => v = .agg (X.Hm e 6).enc.toArray ∧ CB w w' := by
 refine Al [] [] Tryz.func123 rfl rfl rfl (St.start w []) ?_
 refine Gs ?_
 refine B4 rfl rfl rfl (fun b1 => ?_)
 refine B4 rfl rfl rfl (fun b2 => ?_)
 refine BH rfl IP rfl (fun b3 => ?_)
 refine Gn (.t3 2 3 4) (CG (Gm rfl (AQ (AA (Af ?_)))))
 refine Bo (.t4 6 2 3 4) ?_
 refine Be (.t .h) ?_
 refine Ci (fun (k : Int) => 0 ≤ k ∧ k ≤ 6) (fun (k : Int) => (6 - k).toNat) (fun (k : Int) => [(6, .int .i64 k)]) (fun (k : Int) => [Ac.box b2 56 (Ing.Event.enc (X.Hm e k.toNat))]) (0) ?_ rfl rfl (fun k hI1 => ?_)
 · exact ⟨Int.le_refl _, by omega⟩
 obtain ⟨hI11, hI12⟩ := hI1
 refine Gs (Gt (A8 rfl rfl) (AQ (AA (Ao ?_))))
 refine Gc (fun c1 => ?_) (fun c1 => ?_)
 ·
  have c1p := kz c1
  refine Aa ?_
  refine AB (.t4 2 3 4 6) ?_
  refine AA (Ao (Af (Gs (Gm rfl (Ga rfl (Gn (.t5 2 3 4 5 6) (AJ ?_)))))))
  refine Gm rfl (Gt (AZ rfl BW .m2 (AU.id AH.fl.len AH.fl.one) rfl) (Gm rfl (Gt (AZ rfl Oz .m0 (AU.id Ing.Event.fl.len Ing.Event.fl.one) rfl) ?_)))
  refine BA rfl bl (.c rfl (.c rfl (.c rfl .n))) (fun w hS => Ju _ _ _ w) ?_
  refine Gt (Ah NM rfl) ?_
  refine Gt (AR SU rfl rfl (by omega) (by omega)) ?_
  refine AT (AK (Ing.Event.l10.comp (AU.ar (n := 6) Bv (by omega))) rfl rfl rfl C5 rfl .h) ?_
  refine AQ (AB (.t4 2 3 4 6) ?_)
  refine AV (AA (AJ ?_))
  refine Gt (Av rfl rfl (IntWalk.i64_in _ (by omega))) ?_
  refine Gm rfl ?_
  refine AQ (AB (.t4 2 3 4 6) ?_)
  refine B8 (k + 1) ?_ ?_ (.t4 6 2 3 4) (by rw [AH.VY (by omega)]; exact (.refl _))
  · exact ⟨by omega, by omega⟩
  · omega
 have c1p := kz c1
 obtain rfl : k = 6 := by omega
 refine Bf (AX (AX (Ai ?_)))
 refine AB (.t2 3 4) ?_
 refine AA (Gs (Gt (AZ rfl Oz .m0 (AU.id Ing.Event.fl.len Ing.Event.fl.one) rfl) ?_))
 refine AT (AK (AU.id Ing.Event.fl.len Ing.Event.fl.one) rfl rfl rfl Ni rfl (.t .h)) ?_
 refine Gn (.t1 4) (Ab ?_)
 refine AY rfl (.cell rfl .m1 (.inl ⟨(by rw [Ing.Event.fl.len]; exact Oz), rfl⟩) .n) ?_
 intro w1 hS; refine ⟨?_, hS.Am⟩; rfl
theorem CL (b : Nat) (T : AF) (g : Hd) (e : Ing.Event) (hg : g.len = T.out.length) (hb : 0 ≤ T.b ∧ T.b < 6) (ho : e.other < 6) (hn : T.out.length ≤ 100000) : JS Tryz.prog 96 #[.pointer (some ⟨b, 0, none⟩), .agg e.enc.toArray] [Ac.box b 163 (Ad.enc ⟨T.w, T.b, g⟩), Ac.own g 56 16 (T.out.flatMap Ing.Event.enc)] (fun v B => ∃ g' : Hd, v = .tuple #[] ∧ g'.len = (T.BO e).out.length ∧ B = [Ac.box b 163 (Ad.enc ⟨(T.BO e).w, (T.BO e).b, g'⟩), Ac.own g' 56 16 ((T.BO e).out.flatMap Ing.Event.enc)]) := by
 intro w hS0
 refine Al _ _ Tryz.func96 rfl rfl rfl (hS0) ?_
 refine Gs ?_
 refine B4 rfl rfl rfl (fun b1 => ?_)
 refine Gn (.t2 0 3) (Ao ?_)
 refine BE (N := 12) [0, 0, 2, 6, 14, 1, 33, 97, 255, 511, 0, 2047] mix (by kernel_rfl) rfl ?_
 refine Pf 0 rfl (AE rfl) (Pf 1 rfl (AE rfl) (Pf 2 rfl (BT rfl) (Pf 3 rfl (Ah CP rfl) (Pf 4 rfl (AG rfl A3 .m1 Ad.l1 rfl rfl) (Pf 5 rfl (BT rfl) (Pf 6 rfl (Ah A9 rfl) (Pf 7 rfl (Ah Bn rfl) ?_)))))))
 refine Pf 8 rfl (AR C6 rfl rfl (by (try dsimp only at *); omega) (by (try dsimp only at *); omega)) ?_
 refine Pf 9 rfl (AZ rfl Fj .m1 ((Ad.l0.comp AH.l2).comp (AU.arr (n := 6) Aj.fl (by (try dsimp only at *); omega) (by (try dsimp only at *); omega))) rfl) ?_
 refine An 10 rfl (by kernel_rfl) ?_
 refine BH rfl Lw rfl (fun b2 => ?_)
 refine Bp rfl ⟨?_, ?_⟩
 · exact (Po rfl (AZ rfl Fj .m2 ((Ad.l0.comp AH.l2).comp (AU.arr (n := 6) Aj.fl (by (try dsimp only at *); omega) (by (try dsimp only at *); omega))) rfl) rfl rfl (Po rfl (AR C6 rfl rfl (by (try dsimp only at *); omega) (by (try dsimp only at *); omega)) rfl rfl (Po rfl (Ah Bn rfl) rfl rfl (Po rfl (Ah A9 rfl) rfl rfl (Po rfl (BT rfl) rfl rfl (Po rfl (AG rfl A3 .m2 Ad.l1 rfl rfl) rfl rfl (Po rfl (Ah CP rfl) rfl rfl (Po rfl (BT rfl) rfl rfl (Po rfl (AE rfl) rfl rfl (Po rfl (AE rfl) rfl rfl Aq))))))))))
 refine An 11 rfl (by kernel_rfl) ?_
 refine AT (AK (AU.id Aj.fl.len Aj.fl.one) rfl rfl rfl KQ rfl .h) ?_
 refine BN rfl ⟨?_, ?_⟩
 · exact (Pk (Pk (Pk (Pk (Pk (Pk (Pk (Pk (Pk (Pk Aq))))))))))
 refine A4 (by kernel_rfl) ?_
 refine AB (.t3 0 3 4) ?_
 refine AA (Ao ?_)
 refine BE (N := 14) [0, 1, 3, 7, 0, 16, 0, 64, 15, 271, 831, 1855, 4095, 8191] mix (by kernel_rfl) rfl ?_
 refine Pf 0 rfl (AE rfl) (Pf 1 rfl (BT rfl) (Pf 2 rfl (Ah CP rfl) (Pf 3 rfl (AG rfl A3 .m2 Ad.l1 rfl rfl) (Pf 4 rfl (Ah K1 rfl) (Pf 5 rfl (AG rfl CV .m0 Aj.l0 rfl rfl) (Pf 6 rfl (Ah C2 rfl) (Pf 7 rfl (AG rfl A3 .m0 Aj.l3 rfl rfl) ?_)))))))
 refine Pf 8 rfl (Ah Qu rfl) ?_
 refine An 9 rfl (by kernel_rfl) ?_
 refine AT (AK Ing.Event.l2 rfl rfl rfl C5 rfl (.t .h)) ?_
 refine BN rfl ⟨?_, ?_⟩
 · exact (Pk (Po rfl (AG rfl A3 .m0 Aj.l3 rfl rfl) rfl rfl (Po rfl (Ah C2 rfl) rfl rfl (Po rfl (AG rfl CV .m0 Aj.l0 rfl rfl) rfl rfl (Po rfl (Ah K1 rfl) rfl rfl (Pk (Pk (Pk (Pk Aq)))))))))
 refine Pf 10 rfl (Ah XS rfl) ?_
 refine An 11 rfl (by kernel_rfl) ?_
 refine AT (AK Ing.Event.l6 rfl rfl rfl Eo rfl (.t .h)) ?_
 refine BN rfl ⟨?_, ?_⟩
 · exact (Pk (Pk (Po rfl (AG rfl A3 .m0 Aj.l3 rfl rfl) rfl rfl (Po rfl (Ah C2 rfl) rfl rfl (Pk (Pk (Pk (Pk (Pk (Pk Aq))))))))))
 refine Pf 12 rfl (Ah WD rfl) ?_
 refine An 13 rfl (by kernel_rfl) ?_
 refine AT (AK Ing.Event.l1 rfl rfl rfl C5 rfl (.t .h)) ?_
 refine BN rfl ⟨?_, ?_⟩
 · exact (Pk (Pk (Pk (Pk (Pk (Pk (Pk (Pk (Pk (Pk (Pk Aq)))))))))))
 refine A4 (by kernel_rfl) ?_
 refine AB (.t2 0 3) ?_
 refine AA (CG (Gt (Ah Gx rfl) (Gt (AG rfl A3 .m1 Ing.Event.l3 rfl rfl) (Gt (CN rfl rfl) (Gn (.t3 0 3 28) ?_)))))
 refine Gc (fun c1 => ?_) (fun c1 => ?_)
 ·
  have c1p := kz c1
  refine BE (N := 11) [0, 0, 2, 1, 9, 25, 63, 127, 255, 511, 1023] mix (by kernel_rfl) rfl ?_
  refine Pf 0 rfl (AE rfl) (Pf 1 rfl (Ah Gx rfl) (Pf 2 rfl (AG rfl A3 .m1 Ing.Event.l3 rfl rfl) (Pf 3 rfl (BT rfl) (Pf 4 rfl (Ah A9 rfl) (Pf 5 rfl (Ah Bn rfl) ?_)))))
  refine Pf 6 rfl (AR C6 rfl rfl (by (try dsimp only at *); omega) (by (try dsimp only at *); omega)) ?_
  refine Pf 7 rfl (Ah K1 rfl) ?_
  refine Pf 8 rfl (AG rfl CV .m2 (((Ad.l0.comp AH.l2).comp (AU.arr (n := 6) Aj.fl (by (try dsimp only at *); omega) (by (try dsimp only at *); omega))).comp Aj.l0) rfl rfl) ?_
  refine Pf 9 rfl (Ah Xk rfl) ?_
  refine An 10 rfl (by kernel_rfl) ?_
  refine AT (AK Ing.Event.l7 rfl rfl rfl Eo rfl (.t .h)) ?_
  refine BN rfl ⟨?_, ?_⟩
  · exact (Pk (Pk (Pk (Pk (Pk (Pk (Pk (Pk (Pk (Pk Aq))))))))))
  refine A4 (by kernel_rfl) ?_
  refine AB (.t2 0 3) ?_
  refine AA ?_
  refine BE (N := 16) [0, 0, 2, 6, 14, 0, 32, 96, 224, 0, 992, 2016, 4094, 8191, 16383, 32767] mix (by kernel_rfl) rfl ?_
  refine Pf 0 rfl (AE rfl) (Pf 1 rfl (AE rfl) (Pf 2 rfl (BT rfl) (Pf 3 rfl (Ah CJ rfl) (Pf 4 rfl (AG rfl Di .m2 Ad.l2 rfl rfl) (Pf 5 rfl (AE rfl) (Pf 6 rfl (BT rfl) (Pf 7 rfl (Ah A9 rfl) ?_)))))))
  refine Pf 8 rfl (AZ rfl BW .m2 Ad.l0 rfl) (Pf 9 rfl (AZ rfl Oz .m1 (AU.id Ing.Event.fl.len Ing.Event.fl.one) rfl) ?_)
  refine BZ 10 rfl rfl (by kernel_rfl) (Lb (K9 (D7 ZH (.c rfl (.c rfl .n)) (fun w hS => Jy _ _ w)))) ?_
  refine An 11 rfl (by kernel_rfl) ?_
  refine Fg Ing.Event.enc Ing.Event.fl rfl Tryz.underlying53 Ni IP rfl (by decide) (by decide) rfl rfl (fun b3 => ?_)
  refine Bp rfl ⟨?_, ?_⟩
  · exact (Pk (Pk (Pk (Pk (Pk (Pk (Po rfl (AG rfl Di .m3 Ad.l2 rfl rfl) rfl rfl (Po rfl (Ah CJ rfl) rfl rfl (Po rfl (BT rfl) rfl rfl (Po rfl (AE rfl) rfl rfl (Po rfl (AE rfl) rfl rfl Aq)))))))))))
  refine An 12 rfl (by kernel_rfl) ?_
  refine Cc Ing.Event.fl rfl Tryz.underlying53 Ni IP rfl XI (by decide) (by decide) rfl rfl (fun w hS => Src.D3 Tryz.underlying53 ((Kn.own .m0) w hS)) (by (try dsimp only); omega) (fun _ => (.t (.t (.t (.t .h))))) (fun h1 h1l h1z => ?_)
  refine Bp rfl ⟨?_, ?_⟩
  · exact (Pk (Pk (Pk (Pk (Pk (Pk (Pk (Pk (Pk (Pk (Po rfl (AE rfl) rfl rfl Aq)))))))))))
  refine Pf 13 rfl (BT rfl) (Pf 14 rfl (Ah CJ rfl) ?_)
  refine An 15 rfl (by kernel_rfl) ?_
  refine AT (AK Ad.l2 rfl rfl rfl Rq rfl (.t (.t (.t .h)))) ?_
  refine BN rfl ⟨?_, ?_⟩
  · exact (Pk (Pk (Pk (Pk (Pk (Pk (Pk (Pk (Pk (Pk (Pk (Pk (Pk Aq)))))))))))))
  refine A4 (by kernel_rfl) ?_
  refine Bk rfl .n ?_
  intro w1 hS
  have hS := (hS.perm (Ax.perm (.c (.t (.t (.t .h))) (.c (.t (.t (.t .h))) .n)))).A1
  refine ⟨_, ⟨?gqTrue, rfl, ?hlTrue, ?hBTrue⟩, hS⟩
  case hBTrue => rw [AF.BO, show T.Dl e = _ from BB c1]; rfl
  case hlTrue => simp only [AF.Cb]; (try dsimp only at *); omega
 have c1p := kz c1
 refine Aa ?_
 refine AB (.t2 0 3) ?_
 refine AA ?_
 refine BE (N := 16) [0, 0, 2, 6, 14, 0, 32, 96, 224, 0, 992, 2016, 4094, 8191, 16383, 32767] mix (by kernel_rfl) rfl ?_
 refine Pf 0 rfl (AE rfl) (Pf 1 rfl (AE rfl) (Pf 2 rfl (BT rfl) (Pf 3 rfl (Ah CJ rfl) (Pf 4 rfl (AG rfl Di .m2 Ad.l2 rfl rfl) (Pf 5 rfl (AE rfl) (Pf 6 rfl (BT rfl) (Pf 7 rfl (Ah A9 rfl) ?_)))))))
 refine Pf 8 rfl (AZ rfl BW .m2 Ad.l0 rfl) (Pf 9 rfl (AZ rfl Oz .m1 (AU.id Ing.Event.fl.len Ing.Event.fl.one) rfl) ?_)
 refine BZ 10 rfl rfl (by kernel_rfl) (Lb (K9 (D7 ZH (.c rfl (.c rfl .n)) (fun w hS => Jy _ _ w)))) ?_
 refine An 11 rfl (by kernel_rfl) ?_
 refine Fg Ing.Event.enc Ing.Event.fl rfl Tryz.underlying53 Ni IP rfl (by decide) (by decide) rfl rfl (fun b4 => ?_)
 refine Bp rfl ⟨?_, ?_⟩
 · exact (Pk (Pk (Pk (Pk (Pk (Pk (Po rfl (AG rfl Di .m3 Ad.l2 rfl rfl) rfl rfl (Po rfl (Ah CJ rfl) rfl rfl (Po rfl (BT rfl) rfl rfl (Po rfl (AE rfl) rfl rfl (Po rfl (AE rfl) rfl rfl Aq)))))))))))
 refine An 12 rfl (by kernel_rfl) ?_
 refine Cc Ing.Event.fl rfl Tryz.underlying53 Ni IP rfl XI (by decide) (by decide) rfl rfl (fun w hS => Src.D3 Tryz.underlying53 ((Kn.own .m0) w hS)) (by (try dsimp only); omega) (fun _ => (.t (.t (.t (.t .h))))) (fun h2 h2l h2z => ?_)
 refine Bp rfl ⟨?_, ?_⟩
 · exact (Pk (Pk (Pk (Pk (Pk (Pk (Pk (Pk (Pk (Pk (Po rfl (AE rfl) rfl rfl Aq)))))))))))
 refine Pf 13 rfl (BT rfl) (Pf 14 rfl (Ah CJ rfl) ?_)
 refine An 15 rfl (by kernel_rfl) ?_
 refine AT (AK Ad.l2 rfl rfl rfl Rq rfl (.t (.t (.t .h)))) ?_
 refine BN rfl ⟨?_, ?_⟩
 · exact (Pk (Pk (Pk (Pk (Pk (Pk (Pk (Pk (Pk (Pk (Pk (Pk (Pk Aq)))))))))))))
 refine A4 (by kernel_rfl) ?_
 refine Bk rfl .n ?_
 intro w1 hS
 have hS := (hS.perm (Ax.perm (.c (.t (.t (.t .h))) (.c (.t (.t (.t .h))) .n)))).A1
 refine ⟨_, ⟨?gqFalse, rfl, ?hlFalse, ?hBFalse⟩, hS⟩
 case hBFalse => rw [AF.BO, show T.Dl e = _ from AW c1]; rfl
 case hlFalse => simp only [AF.Cb]; (try dsimp only at *); omega
theorem GO (b : Nat) (T : AF) (g : Hd) (k : Int) (hg : g.len = T.out.length) (hb : 0 ≤ T.b ∧ T.b < 6) (hn : T.out.length ≤ 100000) : JS Tryz.prog 124 #[.pointer (some ⟨b, 0, none⟩), .int .i64 k] [Ac.box b 163 (Ad.enc ⟨T.w, T.b, g⟩), Ac.own g 56 16 (T.out.flatMap Ing.Event.enc)] (fun v B => ∃ g' : Hd, v = .tuple #[] ∧ g'.len = (T.kind k).out.length ∧ B = [Ac.box b 163 (Ad.enc ⟨(T.kind k).w, (T.kind k).b, g'⟩), Ac.own g' 56 16 ((T.kind k).out.flatMap Ing.Event.enc)]) := by
 intro w hS0
 refine Al _ _ Tryz.func124 rfl rfl rfl (hS0) ?_
 refine AJ (Gm rfl (Gm rfl (Gt (BC N9 IP rfl (.cons Ing.Event.l0 rfl rfl rfl (.cons Ing.Event.l3 rfl rfl rfl .nil))) ?_)))
 refine Ag rfl O9 (.c rfl (.c rfl .n)) (.c .h (.c .h .n)) (CL _ _ _ (AF.Fk k) hg hb (show (-1 : Int) < 6 by decide) hn) (fun v1 B hv => ?_)
 obtain ⟨y2, rfl, y3, rfl⟩ := hv
 refine AQ ?_
 refine Bk rfl .n ?_
 intro w1 hS
 have hS := (hS.perm (Ax.perm (.c .h (.c .h .n)))).A1
 exact ⟨_, ⟨_, rfl, by assumption, rfl⟩, hS⟩
theorem Bc (b : Nat) (T : AF) (g : Hd) (u : Ap) (hg : g.len = T.out.length) (hb : 0 ≤ T.b ∧ T.b < 6) (hn : T.out.length ≤ 100000) : JS Tryz.prog 127 #[.pointer (some ⟨b, 0, none⟩), BS u] [Ac.box b 163 (Ad.enc ⟨T.w, T.b, g⟩), Ac.own g 56 16 (T.out.flatMap Ing.Event.enc)] (fun v B => ∃ g' : Hd, v = .tuple #[] ∧ g'.len = (T.tell u).out.length ∧ B = [Ac.box b 163 (Ad.enc ⟨(T.tell u).w, (T.tell u).b, g'⟩), Ac.own g' 56 16 ((T.tell u).out.flatMap Ing.Event.enc)]) := by
 intro w hS0
 refine Al _ _ Tryz.func127 rfl rfl rfl (hS0) ?_
 refine AJ (Gm rfl (Gm rfl (Gt (BC N9 IP rfl (.cons Ing.Event.l0 rfl rfl rfl (.cons Ing.Event.l3 rfl rfl rfl (.cons Ing.Event.l9 rfl rfl rfl .nil)))) ?_)))
 refine Ag rfl O9 (.c rfl (.c rfl .n)) (.c .h (.c .h .n)) (CL _ _ _ { AF.Fk 16 with text := u } hg hb (show (-1 : Int) < 6 by decide) hn) (fun v1 B hv => ?_)
 obtain ⟨y2, rfl, y3, rfl⟩ := hv
 refine AQ ?_
 refine Bk rfl .n ?_
 intro w1 hS
 have hS := (hS.perm (Ax.perm (.c .h (.c .h .n)))).A1
 exact ⟨_, ⟨_, rfl, by assumption, rfl⟩, hS⟩
theorem Hq (d : Int) (w : World) (gl0 : GV 0 AH.DG w) : Ei Tryz.prog 52 #[.int .i64 d] w fun v w' => v = BS (AH.called d) ∧ CB w w' := by
 refine Al [] [] Tryz.func52 rfl rfl rfl (St.start w []) ?_
 refine Gs (Ga rfl (Gn (.t1 0) (CG (Gm rfl (Gt (A8 rfl rfl) (Gm rfl (Ba 5 rfl rfl (fun q => AE rfl) ?_)))))))
 refine Ba 5 rfl rfl (fun q => CN (cF rfl q) rfl) ?_
 refine Gt (BR rfl rfl (fun h => by rw [h]; rfl)) ?_
 refine Gn (.t2 0 8) ?_
 refine Gc (fun c1 => ?_) (fun c1 => ?_)
 ·
  refine Gs (Ga rfl (Gn (.t1 2) (Ab (AD ?_))))
  refine AY rfl (.tmp rfl .n) ?_
  intro w1 hS; refine ⟨?_, hS.Am⟩; rw [show AH.called d = _ from BB c1]; rfl
 have c1p := kz c1
 have hr : 0 ≤ d ∧ d < 6 := by simp at c1; omega
 refine Aa ?_
 refine AB (.t1 0) ?_
 refine AA (Gs (Gm rfl ?_))
 refine Gt (AR WJ rfl rfl (by omega) (by omega)) ?_
 refine Gt (RF gl0 rfl CV (AH.OX hr.1 hr.2)) (Ga rfl (Gn (.t1 2) (Ab ?_)))
 refine AY rfl (.tmp rfl .n) ?_
 intro w1 hS; refine ⟨?_, hS.Am⟩; rw [show AH.called d = _ from AW c1]; rfl
theorem FF (X : AH) (CW at_ : Int) : JS Tryz.prog 102 #[.agg X.enc.toArray, .int .i64 CW, .int .i64 at_] [] (fun v B => ∃ h' : Hd, v = h'.val ∧ h'.len = (X.has CW at_).length ∧ B = [Ac.own h' 3 1 ((X.has CW at_).flatMap Au)]) := by
 intro w hS0
 refine Al _ _ Tryz.func102 rfl rfl rfl (hS0) ?_
 refine Gs ?_
 refine B4 rfl rfl rfl (fun b1 => ?_)
 refine Ga rfl (Gn (.t3 1 2 3) (Gs (Ga rfl (AQ (AA (CG (Gt (Ah Cw rfl) ?_)))))))
 refine Gt (AZ rfl XB .m0 AH.l1 rfl) (Gm rfl (Gn (.t5 1 2 7 11 12) (Af ?_)))
 refine Bo (.t5 7 12 1 2 11) ?_
 refine E7 Au 3 1 ?_
 refine Dt (fun (k : Int) (xs : List Int) (g : Hd) => 0 ≤ k ∧ k ≤ 9 ∧ xs = X.PE CW at_ k.toNat ∧ g.len = xs.length) (fun (k : Int) (xs : List Int) (g : Hd) => (9 - k).toNat) (fun (k : Int) (xs : List Int) (g : Hd) => [(7, g.val), (12, .int .i64 k)]) (fun (k : Int) (xs : List Int) (g : Hd) => [Ac.own g 3 1 (xs.flatMap Au)]) (0) ([]) (_) ?_ rfl rfl (fun k xs g hI1 => ?_)
 · exact ⟨by omega, by omega, rfl, rfl⟩
 obtain ⟨hI11, hI12, hI13, hI14⟩ := hI1
 refine Gs (Gt (A8 rfl rfl) (AQ (AA (Ao ?_))))
 refine Gc (fun c1 => ?_) (fun c1 => ?_)
 ·
  have c1p := kz c1
  have hxl := AH.Ra X CW at_ k.toNat
  rw [← hI13] at hxl
  refine Aa ?_
  refine AB (.t5 1 2 7 11 12) ?_
  refine AA (Ao (Af (Gs (Gm rfl ?_))))
  refine Gt (F3 Ak.fl Tryz.underlying30 Mo rfl rfl (by omega) (by omega)) ?_
  refine BH rfl KU rfl (fun b2 => ?_)
  refine Ga rfl ?_
  refine AT (AK (AU.id Ak.fl.len Ak.fl.one) rfl rfl rfl Mv rfl .h) ?_
  refine Gn (.t7 1 2 7 8 9 11 12) (Gs (Gt (Ah FU rfl) (Gt (AG rfl A3 .m0 Ak.l2 rfl rfl) (Gm rfl (Gt (Ae rfl rfl) (Gm rfl (Bi 20 rfl rfl (fun q => Ah DF rfl) ?_)))))))
  refine Bi 20 rfl rfl (fun q => AG (Bh rfl q) A3 .m0 Ak.l3 rfl rfl) (Bi 20 rfl rfl (fun q => AE rfl) (Bi 20 rfl rfl (fun q => Ae (Bh rfl q) (Bh rfl q)) (Gt (BK rfl rfl (fun h => h)) (Gn (.t7 1 2 7 8 11 12 25) ?_))))
  refine Gc (fun c2 => ?_) (fun c2 => ?_)
  ·
   have c2p := kz c2
   refine AJ (Gm rfl (Gm rfl ?_))
   refine Fg Au Bv rfl Tryz.underlying169 C5 aM rfl (by decide) (by decide) rfl rfl (fun b3 => ?_)
   refine Cc Bv rfl Tryz.underlying169 C5 aM rfl cR (by decide) (by decide) rfl rfl (fun w hS => Src.D3 Tryz.underlying169 ((Kn.own .m0) w hS)) (by (try dsimp only); omega) (fun _ => (.t (.t .h))) (fun h1 h1l h1z => ?_)
   refine Ga rfl ?_
   refine AQ (AB (.t5 1 2 7 11 12) ?_)
   refine AV (AA (AJ ?_))
   refine Gt (Av rfl rfl (IntWalk.i64_in _ (by omega))) ?_
   refine Gm rfl ?_
   refine AQ (AB (.t5 1 2 7 11 12) ?_)
   refine Bz (k + 1) _ _ ?_ ?_ (.t5 7 12 1 2 11) (.cons _ (.cons _ (.refl _)))
   · exact ⟨by omega, by omega, by rw [AH.Z3 hI11 c2, ← hI13], (by (try dsimp only at *) <;> (try simp only [List.length_append, List.length_cons, List.length_nil]) <;> omega)⟩
   · omega
  have c2p := kz c2
  refine Aa ?_
  refine AB (.t5 1 2 7 11 12) ?_
  refine AV (AA (AJ ?_))
  refine Gt (Av rfl rfl (IntWalk.i64_in _ (by omega))) ?_
  refine Gm rfl ?_
  refine AQ (AB (.t5 1 2 7 11 12) ?_)
  refine Bz (k + 1) _ _ ?_ ?_ (.t5 7 12 1 2 11) (.cons _ (.refl _))
  · exact ⟨by omega, by omega, by rw [AH.aF hI11 c2, ← hI13], (by (try dsimp only at *) <;> (try simp only [List.length_append, List.length_cons, List.length_nil]) <;> omega)⟩
  · omega
 have c1p := kz c1
 obtain rfl : k = 9 := by omega
 refine Bf (AX (AX (Ai ?_)))
 refine AB (.t1 7) ?_
 refine AA (Gs (Gm rfl (Ga rfl (Gn (.t1 6) (Ab ?_)))))
 refine AY rfl (.tmp rfl .n) ?_
 intro w1 hS
 have hS := (hS.perm (Ax.perm (.c .h .n))).A1
 exact ⟨_, ⟨_, rfl, by rw [AH.TF, ← hI13]; assumption, by rw [AH.TF, ← hI13]⟩, hS⟩
theorem LW (b : Nat) (T : AF) (g : Hd) (u : Ap) (f : Hd) (l : List Int) (hg : g.len = T.out.length) (hb : 0 ≤ T.b ∧ T.b < 6) (hf : f.len = l.length) (hl : l.length ≤ 9) (hi : ∀ i ∈ l, 0 ≤ i ∧ i < 9) (hw : T.w.DE) (hu : u.length ≤ 1000) (hn : T.out.length ≤ 100000) : JS Tryz.prog 101 #[.pointer (some ⟨b, 0, none⟩), BS u, f.val] [Ac.box b 163 (Ad.enc ⟨T.w, T.b, g⟩), Ac.own g 56 16 (T.out.flatMap Ing.Event.enc), Ac.own f 3 1 (l.flatMap Au)] (fun v B => ∃ g' : Hd, v = .tuple #[] ∧ g'.len = (T.list u l).out.length ∧ B = [Ac.box b 163 (Ad.enc ⟨(T.list u l).w, (T.list u l).b, g'⟩), Ac.own g' 56 16 ((T.list u l).out.flatMap Ing.Event.enc), Ac.own f 3 1 (l.flatMap Au)]) := by
 intro w hS0
 refine Al _ _ Tryz.func101 rfl rfl rfl (hS0) ?_
 refine CG (Gm rfl (Gt (Ar rfl Tryz.underlying169 rfl) (Gm rfl (AQ (AA (Af ?_))))))
 refine Bo (.t6 1 10 0 2 8 9) ?_
 refine Gk (fun (k : Int) (x : Ap) => 0 ≤ k ∧ k ≤ (l.length : Int) ∧ AF.Hu T.w u l = AF.Hu T.w x (l.drop k.toNat) ∧ x.length ≤ 1000 + k.toNat * 140737488351300) (fun (k : Int) (x : Ap) => ((l.length : Int) - k).toNat) (fun (k : Int) (x : Ap) => [(1, BS x), (10, .int .i64 k)]) (fun (k : Int) (x : Ap) => []) (0) (u) ?_ rfl rfl (fun k x hI1 => ?_)
 · exact ⟨by omega, by omega, by simp, by simp; omega⟩
 obtain ⟨hI11, hI12, hI13, hI14⟩ := hI1
 refine Gs (Gt (A8 rfl rfl) (AQ (AA (Ao ?_))))
 refine Gc (fun c1 => ?_) (fun c1 => ?_)
 ·
  have c1p := kz c1
  have hx := hi _ (Bb.Ep (xs := l) (i := k.toNat) (by omega))
  have hnl := hw.th (l.getD k.toNat 0)
  refine Aa ?_
  refine AB (.t6 0 1 2 8 9 10) ?_
  refine AA (Ao (Af (Gs ?_)))
  refine Gt (Br GW (by decide) (Kn.own .m2) rfl rfl (by omega) (by omega)) ?_
  refine Gt (DH rfl A3 (Kn.own .m2) (by omega)) ?_
  refine Ga rfl (Gn (.t7 0 1 2 7 8 9 10) (Gs (Gm rfl (Gm rfl (Gm rfl (Gt (BT rfl) (Gt (Ah A9 rfl) ?_)))))))
  refine Gt (Ah Cw rfl) ?_
  refine Gt (AR GA rfl rfl (by (try dsimp only at *); (try simp only [List.length_append, List.length_cons, List.length_nil]); omega) (by (try dsimp only at *); (try simp only [List.length_append, List.length_cons, List.length_nil]); omega)) ?_
  refine Gt (Ah MS rfl) ?_
  refine Gt (AG rfl CV .m0 (((Ad.l0.comp AH.l1).comp (AU.arr (n := 9) Ak.fl (by (try dsimp only at *); (try simp only [List.length_append, List.length_cons, List.length_nil]); omega) (by (try dsimp only at *); (try simp only [List.length_append, List.length_cons, List.length_nil]); omega))).comp Ak.l0) rfl rfl) ?_
  refine Gt (CT rfl rfl (by (try dsimp only at *); (try simp only [List.length_append, List.length_cons, List.length_nil]); omega)) ?_
  refine Gt (CT rfl rfl (by (try dsimp only at *); (try simp only [List.length_append, List.length_cons, List.length_nil]); omega)) ?_
  refine Ga rfl (Gn (.t7 0 1 2 7 8 9 10) (Gs (Gm rfl (Gm rfl (Gt (BT rfl) (Gt (Ah A9 rfl) (Gt (Ah Cw rfl) ?_)))))))
  refine Gt (AR GA rfl rfl (by (try dsimp only at *); (try simp only [List.length_append, List.length_cons, List.length_nil]); omega) (by (try dsimp only at *); (try simp only [List.length_append, List.length_cons, List.length_nil]); omega)) ?_
  refine Gt (Ah F5 rfl) ?_
  refine Gt (AG rfl Dj .m0 (((Ad.l0.comp AH.l1).comp (AU.arr (n := 9) Ak.fl (by (try dsimp only at *); (try simp only [List.length_append, List.length_cons, List.length_nil]); omega) (by (try dsimp only at *); (try simp only [List.length_append, List.length_cons, List.length_nil]); omega))).comp Ak.l4) rfl rfl) ?_
  refine Gn (.t7 0 1 2 8 9 10 32) ?_
  refine Gc (fun c2 => ?_) (fun c2 => ?_)
  ·
   have c2p := kz c2
   refine AJ (Gm rfl ?_)
   refine Gt (CT rfl rfl (by (try dsimp only at *); (try simp only [List.length_append, List.length_cons, List.length_nil]); omega)) ?_
   refine Ga rfl ?_
   refine AQ (AB (.t6 0 1 2 8 9 10) ?_)
   refine AV (AA (AJ ?_))
   refine Gt (Av rfl rfl (IntWalk.i64_in _ (by (try dsimp only at *); (try simp only [List.length_append, List.length_cons, List.length_nil]); omega))) ?_
   refine Gm rfl ?_
   refine AQ (AB (.t6 0 1 2 8 9 10) ?_)
   refine Cq (k + 1) _ ?_ ?_ (.t6 1 10 0 2 8 9) (.refl _)
   · exact ⟨by omega, by omega, by rw [hI13, AF.YK hI11 (by omega) c2], by simp only [List.length_append, List.length_cons, List.length_nil]; omega⟩
   · omega
  have c2p := kz c2
  refine Aa ?_
  refine AB (.t6 0 1 2 8 9 10) ?_
  refine AV (AA (AJ ?_))
  refine Gt (Av rfl rfl (IntWalk.i64_in _ (by (try dsimp only at *); (try simp only [List.length_append, List.length_cons, List.length_nil]); omega))) ?_
  refine Gm rfl ?_
  refine AQ (AB (.t6 0 1 2 8 9 10) ?_)
  refine Cq (k + 1) _ ?_ ?_ (.t6 1 10 0 2 8 9) (.refl _)
  · exact ⟨by omega, by omega, by rw [hI13, AF.YM hI11 (by omega) c2], by simp only [List.length_append, List.length_cons, List.length_nil]; omega⟩
  · omega
 have c1p := kz c1
 obtain rfl : k = (l.length : Int) := by omega
 rw [show (l.length : Int).toNat = l.length by omega, List.drop_length] at hI13
 refine Bf (AX (AX (Ai ?_)))
 refine AB (.t3 0 1 2) ?_
 refine AA (CG (Gm rfl (Gt (Ar rfl Tryz.underlying169 rfl) (Gt (Ae rfl rfl) (Gn (.t3 0 1 38) ?_)))))
 refine Gc (fun c3 => ?_) (fun c3 => ?_)
 ·
  have c3p := kz c3
  rw [hf] at c3
  refine AJ (Gm rfl ?_)
  refine Gt (CT rfl rfl (by (try dsimp only at *); (try simp only [List.length_append, List.length_cons, List.length_nil]); omega)) ?_
  refine Ga rfl (Gn (.t2 0 1) (AJ (Gm rfl (Gm rfl ?_))))
  refine Gt (CT rfl rfl (by (try dsimp only at *); (try simp only [List.length_append, List.length_cons, List.length_nil]); omega)) ?_
  refine Ag rfl ED (.c rfl (.c rfl .n)) (.c .h (.c .h .n)) (Bc _ _ _ _ hg hb hn) (fun v1 B hv => ?_)
  obtain ⟨y2, rfl, y3, rfl⟩ := hv
  refine AQ ?_
  refine Bk rfl .n ?_
  intro w1 hS
  have hS := (hS.perm (Ax.perm (.c .h (.c .h (.c .h .n))))).A1
  refine ⟨_, ⟨?gqTrue, rfl, ?hlTrue, ?hBTrue⟩, hS⟩
  case hBTrue => rw [AF.list, show AF.SY T.w u l = _ from BB c3, hI13]; rfl
  case hlTrue => (try simp only [AF.CE] at *); rw [(AF.HO T u l).2.2]; assumption
 have c3p := kz c3
 rw [hf] at c3
 refine Aa ?_
 refine AB (.t2 0 1) ?_
 refine AA (AJ (Gm rfl (Gm rfl ?_)))
 refine Gt (CT rfl rfl (by (try dsimp only at *); (try simp only [List.length_append, List.length_cons, List.length_nil]); omega)) ?_
 refine Ag rfl ED (.c rfl (.c rfl .n)) (.c .h (.c .h .n)) (Bc _ _ _ _ hg hb hn) (fun v4 B hv => ?_)
 obtain ⟨y5, rfl, y6, rfl⟩ := hv
 refine AQ ?_
 refine Bk rfl .n ?_
 intro w1 hS
 have hS := (hS.perm (Ax.perm (.c .h (.c .h (.c .h .n))))).A1
 refine ⟨_, ⟨?gqFalse, rfl, ?hlFalse, ?hBFalse⟩, hS⟩
 case hBFalse => rw [AF.list, show AF.SY T.w u l = _ from AW c3, hI13]; rfl
 case hlFalse => (try simp only [AF.CE] at *); rw [(AF.HO T u l).2.2]; assumption
end Go.Proofs.YtoidpggbbfncpaaGreatDoor
