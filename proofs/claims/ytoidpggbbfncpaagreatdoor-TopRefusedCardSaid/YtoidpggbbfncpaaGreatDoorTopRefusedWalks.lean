/- What the functions that the law TopRefused reaches compute: walks, part 1. No condition. -/
import Derived.Test.YtoidpggbbfncpaaGreatDoorCards
import Derived.Test.YtoidpggbbfncpaaGreatDoorTie
import Derived.Deep.DeepHandedRow
import Derived.Test.YtoidpggbbfncpaaGreatDoorRows
import Derived.Test.YtoidpggbbfncpaaGreatDoorTopRefusedEc3
import Derived.Test.YtoidpggbbfncpaaGreatDoorTopRefusedRa1
import Derived.Test.YtoidpggbbfncpaaGreatDoorTopRefusedRb1
import Derived.Test.YtoidpggbbfncpaaGreatDoorTopRefusedRc1
set_option linter.unusedSimpArgs false
set_option linter.unusedVariables false
set_option maxRecDepth 100000
set_option maxHeartbeats 1000000
namespace Go.Proofs.YtoidpggbbfncpaaGreatDoor
open Go Go.Ing Go.RowKit Go.ChangeShapes Go.WideShapes Go.ChangeAt
theorem Lw : ZV Tryz.prog 35 (.agg (AH.enc (default : AH)).toArray) := Ey (by kernel_rfl)
theorem C4 : Sz Tryz.prog 3 1 := Di (by kernel_rfl)
theorem UZ : ZV Tryz.prog 23 (.agg (B9 (n := 6) Ax (Vector.replicate 6 default)).toArray) := Ey (by kernel_rfl)
theorem Ju : Sz Tryz.prog 4 1 := Di (by kernel_rfl)
theorem ZR : ZV Tryz.prog 24 (.agg (B9 (n := 6) CU (Vector.replicate 6 default)).toArray) := Ey (by kernel_rfl)
theorem EU : Sz Tryz.prog 9 1 := Di (by kernel_rfl)
theorem V5 : Sz Tryz.prog 23 6 := Di (by kernel_rfl)
theorem Yf : Sz Tryz.prog 24 6 := Di (by kernel_rfl)
theorem Tk : G3 Tryz.prog 26 [(0, 1), (1, 1), (2, 6), (8, 6)] := ⟨_, Tryz.underlying26, fun w => by simp [EU w, Ju w, V5 w, Yf w]⟩
theorem NL : ZV Tryz.prog 26 (.agg (Room.enc (default : Room)).toArray) := Ey (by kernel_rfl)
theorem P4 : Sz Tryz.prog 26 14 := Di (by kernel_rfl)
theorem ao : IS Tryz.prog 95 14 := M4 Tryz.underlying95 P4
theorem MG : MZ Tryz.prog 26 14 := ES Tryz.underlying26 rfl P4
theorem Zf : Sz Tryz.prog 27 84 := Di (by kernel_rfl)
theorem GI : FA Tryz.prog 35 0 0 := Br Tryz.underlying35 rfl Zf
theorem Nd : IA Tryz.prog 27 6 14 := L7 Tryz.underlying27 P4
theorem PV : G3 Tryz.prog 29 [(0, 1), (1, 1), (2, 1), (3, 1), (4, 1)] := ⟨_, Tryz.underlying29, fun w => by simp [EU w, C4 w, Ju w]⟩
theorem Js : ZV Tryz.prog 29 (.agg (Al.enc (default : Al)).toArray) := Ey (by kernel_rfl)
theorem MT : Sz Tryz.prog 29 5 := Di (by kernel_rfl)
theorem cB : IS Tryz.prog 96 5 := M4 Tryz.underlying96 MT
theorem K2 : MZ Tryz.prog 29 5 := ES Tryz.underlying29 rfl MT
theorem Z0 : Sz Tryz.prog 30 45 := Di (by kernel_rfl)
theorem Cq : FA Tryz.prog 35 1 84 := Br Tryz.underlying35 rfl Z0
theorem Ff : IA Tryz.prog 30 9 5 := L7 Tryz.underlying30 MT
theorem VL : G3 Tryz.prog 32 [(0, 1), (1, 1), (2, 1), (3, 1), (4, 1), (5, 1)] := ⟨_, Tryz.underlying32, fun w => by simp [EU w, Ju w, C4 w]⟩
theorem K3 : ZV Tryz.prog 32 (.agg (Am.enc (default : Am)).toArray) := Ey (by kernel_rfl)
theorem aQ : Sz Tryz.prog 33 36 := Di (by kernel_rfl)
theorem Bj : FA Tryz.prog 35 2 129 := Br Tryz.underlying35 rfl aQ
theorem Jr : Sz Tryz.prog 32 6 := Di (by kernel_rfl)
theorem Cz : IA Tryz.prog 33 6 6 := L7 Tryz.underlying33 Jr
theorem Dv : Sz Tryz.prog 35 165 := Di (by kernel_rfl)
theorem BT : MZ Tryz.prog 35 165 := ES Tryz.underlying35 rfl Dv
theorem aq : CF Tryz.prog 15 := Tryz.call15
theorem ZM : Sz Tryz.prog 99 88 := Di (by kernel_rfl)
theorem Qz : Sz Tryz.prog 53 1 := Di (by kernel_rfl)
theorem aF : G3 Tryz.prog 101 [(0, 165), (165, 88), (253, 1), (254, 1)] := ⟨_, Tryz.underlying101, fun w => by simp [Dv w, ZM w, C4 w, Qz w]⟩
theorem Z8 : ZV Tryz.prog 101 (.agg (AK.enc (default : AK)).toArray) := Ey (by kernel_rfl)
theorem Qx : ZV Tryz.prog 9 (BQ []) := Ey (by kernel_rfl)
theorem Vv : BY Tryz.prog 9 16 := Sv (by kernel_rfl)
theorem Wx : ZV Tryz.prog 75 (.agg (BB.enc ⟨[], false, false, ⟨none, 0, 0⟩⟩).toArray) := Ey (by kernel_rfl)
theorem L2 : Sz Tryz.prog 52 1 := Di (by kernel_rfl)
theorem EW : FA Tryz.prog 75 3 3 := Br Tryz.underlying75 rfl L2
theorem EK : PT Tryz.prog 52 := IU Tryz.underlying52 rfl
theorem Lp : Sz Tryz.prog 75 4 := Di (by kernel_rfl)
theorem HR : MZ Tryz.prog 75 4 := ES Tryz.underlying75 rfl Lp
theorem H5 : IS Tryz.prog 52 1 := M4 Tryz.underlying52 EU
theorem CD : PT Tryz.prog 9 := IU Tryz.underlying9 rfl
theorem Uo : CF Tryz.prog 69 := Tryz.call69
theorem Sl : ZV Tryz.prog 65 (.agg (Ar.enc ⟨⟨none, 0, 0⟩, 0, false, [], false⟩).toArray) := Ey (by kernel_rfl)
theorem LY : FA Tryz.prog 65 2 2 := Br Tryz.underlying65 rfl Ju
theorem JT : FA Tryz.prog 65 1 1 := Br Tryz.underlying65 rfl C4
theorem E5 : Sz Tryz.prog 65 5 := Di (by kernel_rfl)
theorem Co : MZ Tryz.prog 65 5 := ES Tryz.underlying65 rfl E5
theorem mix : Tryz.prog.follows .mixedOrders = true := by kernel_rfl
theorem ZW : CF Tryz.prog 116 := Tryz.call116
theorem X0 : CF Tryz.prog 115 := Tryz.call115
theorem GG : FA Tryz.prog 29 1 1 := Br Tryz.underlying29 rfl C4
theorem A1 : PT Tryz.prog 3 := IU Tryz.underlying3 rfl
theorem Fg : FA Tryz.prog 29 4 4 := Br Tryz.underlying29 rfl Ju
theorem Cu : PT Tryz.prog 4 := IU Tryz.underlying4 rfl
theorem C8 : FA Tryz.prog 29 3 3 := Br Tryz.underlying29 rfl C4
theorem FB : FA Tryz.prog 29 2 2 := Br Tryz.underlying29 rfl C4
theorem Ho : FA Tryz.prog 32 1 1 := Br Tryz.underlying32 rfl Ju
theorem X9 : MZ Tryz.prog 27 84 := ES Tryz.underlying27 rfl Zf
theorem LZ : FA Tryz.prog 26 2 2 := Br Tryz.underlying26 rfl V5
theorem U8 : MZ Tryz.prog 23 6 := ES Tryz.underlying23 rfl V5
theorem La : FA Tryz.prog 26 3 8 := Br Tryz.underlying26 rfl Yf
theorem Ue : IA Tryz.prog 24 6 1 := L7 Tryz.underlying24 Ju
theorem Vp : MZ Tryz.prog 33 36 := ES Tryz.underlying33 rfl aQ
theorem FE : MZ Tryz.prog 32 6 := ES Tryz.underlying32 rfl Jr
theorem Cx : FA Tryz.prog 32 3 3 := Br Tryz.underlying32 rfl C4
theorem I1 : FA Tryz.prog 32 4 4 := Br Tryz.underlying32 rfl C4
theorem Fj : FA Tryz.prog 32 5 5 := Br Tryz.underlying32 rfl C4
theorem cH : CF Tryz.prog 68 := Tryz.call68
theorem Yy : FA Tryz.prog 26 1 1 := Br Tryz.underlying26 rfl Ju
theorem S8 : MZ Tryz.prog 30 45 := ES Tryz.underlying30 rfl Z0
theorem bS : CF Tryz.prog 19 := Tryz.call19
theorem Wg : CF Tryz.prog 159 := Tryz.call159
theorem TR : CF Tryz.prog 129 := Tryz.call129
theorem Vr : FA Tryz.prog 32 2 2 := Br Tryz.underlying32 rfl Ju
theorem X1 : CF Tryz.prog 160 := Tryz.call160
theorem P7 : FA Tryz.prog 56 2 2 := Br Tryz.underlying56 rfl C4
theorem GJ : FA Tryz.prog 56 3 3 := Br Tryz.underlying56 rfl C4
theorem NS : CF Tryz.prog 130 := Tryz.call130
theorem Rv : FA Tryz.prog 56 0 0 := Br Tryz.underlying56 rfl C4
theorem WC : FA Tryz.prog 56 1 1 := Br Tryz.underlying56 rfl C4
theorem Zt : CF Tryz.prog 173 := Tryz.call173
theorem Hb : ZV Tryz.prog 56 (.agg (Ing.Event.enc (default : Ing.Event)).toArray) := Ey (by kernel_rfl)
theorem Ma : Sz Tryz.prog 56 16 := Di (by kernel_rfl)
theorem OH : MZ Tryz.prog 56 16 := ES Tryz.underlying56 rfl Ma
theorem Ze : CF Tryz.prog 157 := Tryz.call157
theorem Mb : FA Tryz.prog 56 10 10 := Br Tryz.underlying56 rfl V5
theorem RM : IA Tryz.prog 23 6 1 := L7 Tryz.underlying23 C4
theorem CN : FA Tryz.prog 163 1 165 := Br Tryz.underlying163 rfl C4
theorem A6 : FA Tryz.prog 163 0 0 := Br Tryz.underlying163 rfl Dv
theorem J4 : FA Tryz.prog 32 0 0 := Br Tryz.underlying32 rfl EU
theorem V6 : FA Tryz.prog 56 6 6 := Br Tryz.underlying56 rfl EU
theorem Wa : FA Tryz.prog 56 7 7 := Br Tryz.underlying56 rfl EU
theorem CH : FA Tryz.prog 163 2 166 := Br Tryz.underlying163 rfl Qz
theorem DV : PT Tryz.prog 53 := IU Tryz.underlying53 rfl
theorem X8 : CF Tryz.prog 123 := Tryz.call123
theorem Uz : BY Tryz.prog 56 160 := Sv (by kernel_rfl)
theorem N6 : G3 Tryz.prog 56 [(0, 1), (1, 1), (2, 1), (3, 1), (4, 1), (5, 1), (6, 1), (7, 1), (8, 1), (9, 1), (10, 6)] := ⟨_, Tryz.underlying56, fun w => by simp [C4 w, EU w, V5 w]⟩
theorem NN : CF Tryz.prog 96 := Tryz.call96
theorem WB : IA Tryz.prog 133 21 1 := L7 Tryz.underlying133 EU
theorem ZE : ZV Tryz.prog 3 (.int .i64 0) := Ey (by kernel_rfl)
theorem af : BY Tryz.prog 3 8 := Sv (by kernel_rfl)
theorem F1 : IS Tryz.prog 169 1 := M4 Tryz.underlying169 C4
theorem Li : FA Tryz.prog 29 0 0 := Br Tryz.underlying29 rfl EU
theorem Dz : CF Tryz.prog 127 := Tryz.call127
theorem Yt : FA Tryz.prog 26 0 0 := Br Tryz.underlying26 rfl EU
theorem Zu : CF Tryz.prog 52 := Tryz.call52
theorem Qt : CF Tryz.prog 102 := Tryz.call102
theorem Xt : CF Tryz.prog 101 := Tryz.call101
theorem Yu : CF Tryz.prog 43 := Tryz.call43
theorem bq : CF Tryz.prog 46 := Tryz.call46
theorem S5 : G3 Tryz.prog 163 [(0, 165), (165, 1), (166, 1)] := ⟨_, Tryz.underlying163, fun w => by simp [Dv w, C4 w, Qz w]⟩
theorem TF : ZV Tryz.prog 163 (.agg (Ad.enc (default : Ad)).toArray) := Ey (by kernel_rfl)
theorem TP : CF Tryz.prog 124 := Tryz.call124
theorem Sx : CF Tryz.prog 100 := Tryz.call100
theorem X5 : Sz Tryz.prog 104 1 := Di (by kernel_rfl)
theorem PQ : FA Tryz.prog 107 0 0 := Br Tryz.underlying107 rfl X5
theorem Wc : PT Tryz.prog 104 := IU Tryz.underlying104 rfl
theorem Sd : ∃ i, Tryz.prog.info? 107 = some i ∧ i.size ≠ 0 := by
  have h : (Tryz.prog.info? 107).map (·.size) = some 2 := by kernel_rfl
  obtain ⟨i, h1, h2⟩ := Option.map_eq_some_iff.1 h
  exact ⟨i, h1, by omega⟩
theorem Yv : CF Tryz.prog 71 := Tryz.call71
theorem TO : Sz Tryz.prog 105 1 := Di (by kernel_rfl)
theorem EZ : FA Tryz.prog 107 1 1 := Br Tryz.underlying107 rfl TO
theorem Hl : PT Tryz.prog 105 := IU Tryz.underlying105 rfl
theorem Uq : Sz Tryz.prog 5 1 := Di (by kernel_rfl)
theorem Y6 : ZV Tryz.prog 5 (.int .u8 0) := Ey (by kernel_rfl)
theorem bC : BY Tryz.prog 5 1 := Sv (by kernel_rfl)
theorem cW : Tryz.prog.cellsOf 5 = 1 := by kernel_rfl
theorem bA : CF Tryz.prog 49 := Tryz.call49
theorem Tc : ZV Tryz.prog 107 (.agg (DJ.enc ⟨none, ⟨none, 0, 0⟩⟩).toArray) := Ey (by kernel_rfl)
theorem Xl : CF Tryz.prog 50 := Tryz.call50
theorem OT : CF Tryz.prog 51 := Tryz.call51
theorem Ys : FA Tryz.prog 56 8 8 := Br Tryz.underlying56 rfl EU
theorem YI : FA Tryz.prog 56 4 4 := Br Tryz.underlying56 rfl C4
theorem Y8 : FA Tryz.prog 56 9 9 := Br Tryz.underlying56 rfl EU
theorem YU : FA Tryz.prog 56 5 5 := Br Tryz.underlying56 rfl C4
theorem bn : CF Tryz.prog 53 := Tryz.call53
theorem Xj : CF Tryz.prog 54 := Tryz.call54
theorem GK : FA Tryz.prog 65 0 0 := Br Tryz.underlying65 rfl L2
theorem Hr : FA Tryz.prog 65 3 3 := Br Tryz.underlying65 rfl EU
theorem Ye : CF Tryz.prog 44 := Tryz.call44
theorem IJ : FA Tryz.prog 65 4 4 := Br Tryz.underlying65 rfl Ju
theorem Db : FA Tryz.prog 98 4 16 := Br Tryz.underlying98 rfl E5
theorem al : CF Tryz.prog 82 := Tryz.call82
theorem QE : FA Tryz.prog 98 5 21 := Br Tryz.underlying98 rfl L2
theorem Ml : FA Tryz.prog 101 3 254 := Br Tryz.underlying101 rfl Qz
theorem bU : IS Tryz.prog 53 16 := M4 Tryz.underlying53 Ma
theorem FR : FA Tryz.prog 101 1 165 := Br Tryz.underlying101 rfl ZM
theorem SL : Sz Tryz.prog 98 22 := Di (by kernel_rfl)
theorem M7 : IA Tryz.prog 99 4 22 := L7 Tryz.underlying99 SL
theorem IM : FA Tryz.prog 98 0 0 := Br Tryz.underlying98 rfl C4
theorem Hi : FA Tryz.prog 98 1 1 := Br Tryz.underlying98 rfl C4
theorem bl : CF Tryz.prog 23 := Tryz.call23
theorem R7 : CF Tryz.prog 64 := Tryz.call64
theorem Dw : FA Tryz.prog 101 0 0 := Br Tryz.underlying101 rfl Dv
theorem ZG : CF Tryz.prog 114 := Tryz.call114
theorem UX : CF Tryz.prog 79 := Tryz.call79
theorem Kl : ZV Tryz.prog 151 (.agg (Order.enc (default : Order)).toArray) := Ey (by kernel_rfl)
theorem Q9 : G3 Tryz.prog 151 [(0, 1), (1, 1), (2, 1), (3, 1), (4, 1), (5, 1)] := ⟨_, Tryz.underlying151, fun w => by simp [C4 w, Ju w, EU w]⟩
theorem Dq : Sz Tryz.prog 151 6 := Di (by kernel_rfl)
theorem B8 : MZ Tryz.prog 151 6 := ES Tryz.underlying151 rfl Dq
theorem cG : CF Tryz.prog 87 := Tryz.call87
theorem Zb : CF Tryz.prog 76 := Tryz.call76
theorem X7 : CF Tryz.prog 174 := Tryz.call174
theorem WI : CF Tryz.prog 176 := Tryz.call176
theorem Z5 : CF Tryz.prog 179 := Tryz.call179
theorem VM : IS Tryz.prog 105 1 := M4 Tryz.underlying105 Uq
theorem ZL : PT Tryz.prog 5 := IU Tryz.underlying5 rfl
theorem Zy : CF Tryz.prog 167 := Tryz.call167
theorem ab : CF Tryz.prog 168 := Tryz.call168
theorem Xv : CF Tryz.prog 180 := Tryz.call180
theorem aI : Sz Tryz.prog 133 21 := Di (by kernel_rfl)
theorem Yr : MZ Tryz.prog 133 21 := ES Tryz.underlying133 rfl aI
theorem aU : CF Tryz.prog 169 := Tryz.call169
theorem bG : CF Tryz.prog 59 := Tryz.call59
theorem Z9 : CF Tryz.prog 181 := Tryz.call181
theorem Zx : CF Tryz.prog 170 := Tryz.call170
theorem X2 : CF Tryz.prog 171 := Tryz.call171
theorem Z7 : CF Tryz.prog 30 := Tryz.call30
theorem ZS : CF Tryz.prog 172 := Tryz.call172
theorem Zq : CF Tryz.prog 151 := Tryz.call151
theorem Hy : CF Tryz.prog 150 := Tryz.call150
theorem YE : CF Tryz.prog 152 := Tryz.call152
theorem Z1 : CF Tryz.prog 153 := Tryz.call153
theorem aB : CF Tryz.prog 94 := Tryz.call94
theorem P8 : FA Tryz.prog 151 5 5 := Br Tryz.underlying151 rfl EU
theorem FP : FA Tryz.prog 151 3 3 := Br Tryz.underlying151 rfl EU
theorem Fz : FA Tryz.prog 151 1 1 := Br Tryz.underlying151 rfl C4
theorem TB : CF Tryz.prog 154 := Tryz.call154
theorem Gb : FA Tryz.prog 151 2 2 := Br Tryz.underlying151 rfl Ju
theorem Xw : CF Tryz.prog 155 := Tryz.call155
theorem X4 : CF Tryz.prog 156 := Tryz.call156
theorem HU : FA Tryz.prog 151 4 4 := Br Tryz.underlying151 rfl EU
theorem X6 : CF Tryz.prog 128 := Tryz.call128
theorem TA : CF Tryz.prog 136 := Tryz.call136
theorem YC : CF Tryz.prog 125 := Tryz.call125
theorem Xz : CF Tryz.prog 131 := Tryz.call131
theorem VF : CF Tryz.prog 132 := Tryz.call132
theorem Ov : CF Tryz.prog 134 := Tryz.call134
theorem Z2 : CF Tryz.prog 161 := Tryz.call161
theorem X3 : CF Tryz.prog 133 := Tryz.call133
theorem M6 : CF Tryz.prog 135 := Tryz.call135
theorem C3 : FA Tryz.prog 151 0 0 := Br Tryz.underlying151 rfl C4
theorem aY : CF Tryz.prog 137 := Tryz.call137
theorem aA : CF Tryz.prog 138 := Tryz.call138
theorem Zl : CF Tryz.prog 139 := Tryz.call139
theorem S9 : CF Tryz.prog 140 := Tryz.call140
theorem bo : CF Tryz.prog 99 := Tryz.call99
theorem aJ : CF Tryz.prog 103 := Tryz.call103
theorem Zh : CF Tryz.prog 104 := Tryz.call104
theorem ZP : CF Tryz.prog 105 := Tryz.call105
theorem Zg : CF Tryz.prog 106 := Tryz.call106
theorem ZQ : CF Tryz.prog 107 := Tryz.call107
theorem Xa : CF Tryz.prog 84 := Tryz.call84
theorem Jq : Sz Tryz.prog 69 10 := Di (by kernel_rfl)
theorem UW : G3 Tryz.prog 98 [(0, 1), (1, 1), (2, 10), (12, 4), (16, 5), (21, 1)] := ⟨_, Tryz.underlying98, fun w => by simp [C4 w, Jq w, Lp w, E5 w, L2 w]⟩
theorem Uc : ZV Tryz.prog 98 (.agg (A0.enc (default : A0)).toArray) := Ey (by kernel_rfl)
theorem aK : CF Tryz.prog 122 := Tryz.call122
theorem YX : CF Tryz.prog 67 := Tryz.call67
theorem Ka : FA Tryz.prog 98 3 12 := Br Tryz.underlying98 rfl Lp
theorem cI : CF Tryz.prog 91 := Tryz.call91
theorem aj : CF Tryz.prog 92 := Tryz.call92
theorem cJ : CF Tryz.prog 93 := Tryz.call93
theorem bw : CF Tryz.prog 95 := Tryz.call95
theorem cC : CF Tryz.prog 97 := Tryz.call97
theorem Z3 : CF Tryz.prog 186 := Tryz.call186
theorem aZ : CF Tryz.prog 175 := Tryz.call175
theorem Zr : CF Tryz.prog 158 := Tryz.call158
theorem ZH : CF Tryz.prog 126 := Tryz.call126
theorem Vh : CF Tryz.prog 62 := Tryz.call62
theorem bf : CF Tryz.prog 98 := Tryz.call98
theorem KN : FA Tryz.prog 98 2 2 := Br Tryz.underlying98 rfl Jq
theorem PW : FA Tryz.prog 69 5 9 := Br Tryz.underlying69 rfl C4
theorem bu : CF Tryz.prog 83 := Tryz.call83
theorem bE : CF Tryz.prog 77 := Tryz.call77
theorem bI : CF Tryz.prog 78 := Tryz.call78
theorem Q3 : CF Tryz.prog 65 := Tryz.call65
theorem ZO : Sz Tryz.prog 67 3 := Di (by kernel_rfl)
theorem J3 : FA Tryz.prog 69 3 3 := Br Tryz.underlying69 rfl ZO
theorem KT : IA Tryz.prog 67 3 1 := L7 Tryz.underlying67 C4
theorem JL : FA Tryz.prog 69 4 6 := Br Tryz.underlying69 rfl ZO
theorem FL : FA Tryz.prog 69 0 0 := Br Tryz.underlying69 rfl C4
theorem Kc : FA Tryz.prog 69 1 1 := Br Tryz.underlying69 rfl C4
theorem GN : FA Tryz.prog 69 2 2 := Br Tryz.underlying69 rfl EU
theorem ZB : ZV Tryz.prog 69 (.agg (AN.enc (default : AN)).toArray) := Ey (by kernel_rfl)
theorem Y3 : CF Tryz.prog 73 := Tryz.call73
theorem Du : MZ Tryz.prog 69 10 := ES Tryz.underlying69 rfl Jq
theorem Yp : CF Tryz.prog 55 := Tryz.call55
theorem RP : CF Tryz.prog 74 := Tryz.call74
theorem ZI : ZV Tryz.prog 145 (.agg (B9 (n := 2) Ax (Vector.replicate 2 default)).toArray) := Ey (by kernel_rfl)
theorem bc : CF Tryz.prog 80 := Tryz.call80
theorem bZ : CF Tryz.prog 81 := Tryz.call81
theorem W5 : CF Tryz.prog 75 := Tryz.call75
theorem bm : CF Tryz.prog 56 := Tryz.call56
theorem aM : CF Tryz.prog 57 := Tryz.call57
theorem bO : CF Tryz.prog 58 := Tryz.call58
theorem Hp : FA Tryz.prog 75 0 0 := Br Tryz.underlying75 rfl EU
theorem KA : FA Tryz.prog 75 1 1 := Br Tryz.underlying75 rfl Ju
theorem KR : FA Tryz.prog 75 2 2 := Br Tryz.underlying75 rfl Ju
theorem Y4 : CF Tryz.prog 70 := Tryz.call70
theorem cK : CF Tryz.prog 45 := Tryz.call45
theorem JR : ZV Tryz.prog 44 (.agg (Bf.enc (default : Bf)).toArray) := Ey (by kernel_rfl)
theorem Pp : FA Tryz.prog 101 2 253 := Br Tryz.underlying101 rfl C4
theorem Zo : Sz Tryz.prog 42 1 := Di (by kernel_rfl)
theorem MU : G3 Tryz.prog 44 [(0, 1), (1, 1)] := ⟨_, Tryz.underlying44, fun w => by simp [Zo w, EU w]⟩
theorem I7 : Sz Tryz.prog 44 2 := Di (by kernel_rfl)
theorem Hz : MZ Tryz.prog 44 2 := ES Tryz.underlying44 rfl I7
theorem M5 : FA Tryz.prog 41 0 0 := Br Tryz.underlying41 rfl C4
theorem Ve : FA Tryz.prog 41 2 2 := Br Tryz.underlying41 rfl C4
theorem bX : CF Tryz.prog 60 := Tryz.call60
theorem SH : FA Tryz.prog 41 1 1 := Br Tryz.underlying41 rfl C4
theorem bD : CF Tryz.prog 61 := Tryz.call61
theorem Yj : FA Tryz.prog 41 3 3 := Br Tryz.underlying41 rfl EU
theorem cE : CF Tryz.prog 29 := Tryz.call29
theorem au : CF Tryz.prog 63 := Tryz.call63
theorem bN : CF Tryz.prog 66 := Tryz.call66
theorem aS : CF Tryz.prog 37 := Tryz.call37
theorem Y0 : G3 Tryz.prog 41 [(0, 1), (1, 1), (2, 1), (3, 1)] := ⟨_, Tryz.underlying41, fun w => by simp [C4 w, EU w]⟩
theorem YR : ZV Tryz.prog 41 (.agg (Bt.enc (default : Bt)).toArray) := Ey (by kernel_rfl)
theorem Wk : CF Tryz.prog 38 := Tryz.call38
theorem Yq : CF Tryz.prog 21 := Tryz.call21
theorem Ry : FA Tryz.prog 44 0 0 := Br Tryz.underlying44 rfl Zo
theorem WT : PT Tryz.prog 42 := IU Tryz.underlying42 rfl
theorem aw : CF Tryz.prog 24 := Tryz.call24
theorem av : CF Tryz.prog 33 := Tryz.call33
theorem aV : Sz Tryz.prog 41 4 := Di (by kernel_rfl)
theorem aR : IS Tryz.prog 22 4 := M4 Tryz.underlying22 aV
theorem Vf : MZ Tryz.prog 41 4 := ES Tryz.underlying41 rfl aV
theorem an : CF Tryz.prog 41 := Tryz.call41
theorem ZX : CF Tryz.prog 26 := Tryz.call26
theorem aT : CF Tryz.prog 28 := Tryz.call28
theorem bB : CF Tryz.prog 39 := Tryz.call39
theorem Zs : CF Tryz.prog 32 := Tryz.call32
theorem bK : CF Tryz.prog 40 := Tryz.call40
theorem aC : CF Tryz.prog 18 := Tryz.call18
theorem bd : NM Tryz.prog 1 9 (fun s : As => BQ s) := XL Tryz.underlying9
theorem aN : NM Tryz.prog 1 4 (fun b : Bool => .bool b) := VQ Tryz.underlying4
theorem Yw : NM Tryz.prog 1 3 (fun n : Int => .int .i64 n) := Xo Tryz.underlying3
theorem cA : NM Tryz.prog 2 23 (fun v : OK _ 6 => .agg (B9 Ax v).toArray) := Kq B0 Tryz.underlying23 (by kernel_rfl) (by kernel_rfl) (.inr ⟨A1, rfl, fun _ => rfl⟩) Yw
theorem bb : NM Tryz.prog 2 24 (fun v : OK _ 6 => .agg (B9 CU v).toArray) := Kq Gf Tryz.underlying24 (by kernel_rfl) (by kernel_rfl) (.inr ⟨Cu, rfl, fun _ => rfl⟩) aN
theorem Zd : MZ Tryz.prog 24 6 := ES Tryz.underlying24 rfl Yf
theorem bP : NM Tryz.prog 3 26 (fun x : Room => .agg (Room.enc x).toArray) := Ib Tryz.underlying26 (by kernel_rfl) (.cons (by decide) rfl (.inr ⟨CD, rfl, fun _ => rfl⟩) Room.l0 bd (by decide) (.cons (by decide) rfl (.inr ⟨Cu, rfl, fun _ => rfl⟩) Room.l1 aN (by decide) (.cons (by decide) rfl (.inl ⟨U8, fun _ => rfl⟩) Room.l2 cA (by decide) (.cons (by decide) rfl (.inl ⟨Zd, fun _ => rfl⟩) Room.l3 bb (by decide) .nil)))) (fun x y => by rw [Bool.eq_iff_iff]; cases x; cases y; simp)
theorem bj : NM Tryz.prog 4 27 (fun v : OK _ 6 => .agg (B9 Room.enc v).toArray) := Kq Room.fl Tryz.underlying27 (by kernel_rfl) (by kernel_rfl) (.inl ⟨MG, fun _ => rfl⟩) bP
theorem bx : NM Tryz.prog 2 29 (fun x : Al => .agg (Al.enc x).toArray) := Ib Tryz.underlying29 (by kernel_rfl) (.cons (by decide) rfl (.inr ⟨CD, rfl, fun _ => rfl⟩) Al.l0 bd (by decide) (.cons (by decide) rfl (.inr ⟨A1, rfl, fun _ => rfl⟩) Al.l1 Yw (by decide) (.cons (by decide) rfl (.inr ⟨A1, rfl, fun _ => rfl⟩) Al.l2 Yw (by decide) (.cons (by decide) rfl (.inr ⟨A1, rfl, fun _ => rfl⟩) Al.l3 Yw (by decide) (.cons (by decide) rfl (.inr ⟨Cu, rfl, fun _ => rfl⟩) Al.l4 aN (by decide) .nil))))) (fun x y => by rw [Bool.eq_iff_iff]; cases x; cases y; simp)
theorem bY : NM Tryz.prog 3 30 (fun v : OK _ 9 => .agg (B9 Al.enc v).toArray) := Kq Al.fl Tryz.underlying30 (by kernel_rfl) (by kernel_rfl) (.inl ⟨K2, fun _ => rfl⟩) bx
theorem bt : NM Tryz.prog 2 32 (fun x : Am => .agg (Am.enc x).toArray) := Ib Tryz.underlying32 (by kernel_rfl) (.cons (by decide) rfl (.inr ⟨CD, rfl, fun _ => rfl⟩) Am.l0 bd (by decide) (.cons (by decide) rfl (.inr ⟨Cu, rfl, fun _ => rfl⟩) Am.l1 aN (by decide) (.cons (by decide) rfl (.inr ⟨Cu, rfl, fun _ => rfl⟩) Am.l2 aN (by decide) (.cons (by decide) rfl (.inr ⟨A1, rfl, fun _ => rfl⟩) Am.l3 Yw (by decide) (.cons (by decide) rfl (.inr ⟨A1, rfl, fun _ => rfl⟩) Am.l4 Yw (by decide) (.cons (by decide) rfl (.inr ⟨A1, rfl, fun _ => rfl⟩) Am.l5 Yw (by decide) .nil)))))) (fun x y => by rw [Bool.eq_iff_iff]; cases x; cases y; simp)
theorem bk : NM Tryz.prog 3 33 (fun v : OK _ 6 => .agg (B9 Am.enc v).toArray) := Kq Am.fl Tryz.underlying33 (by kernel_rfl) (by kernel_rfl) (.inl ⟨FE, fun _ => rfl⟩) bt
theorem bW : NM Tryz.prog 5 35 (fun x : AH => .agg (AH.enc x).toArray) := Ib Tryz.underlying35 (by kernel_rfl) (.cons (by decide) rfl (.inl ⟨X9, fun _ => rfl⟩) AH.l0 bj (by decide) (.cons (by decide) rfl (.inl ⟨S8, fun _ => rfl⟩) AH.l1 bY (by decide) (.cons (by decide) rfl (.inl ⟨Vp, fun _ => rfl⟩) AH.l2 bk (by decide) .nil))) (fun x y => by rw [Bool.eq_iff_iff]; cases x; cases y; simp)
theorem aL : CF Tryz.prog 16 := Tryz.call16
theorem Yd : FA Tryz.prog 44 1 1 := Br Tryz.underlying44 rfl EU
theorem ay : CF Tryz.prog 47 := Tryz.call47
theorem bJ : CF Tryz.prog 22 := Tryz.call22
theorem Nh (p : Option Addr) (a : Bt) (r : Bf) : II Tryz.prog 41 #[.pointer p, .agg a.enc.toArray, .agg r.enc.toArray] [] (fun v B => v = .bool true ∧ B = []) := by
 intro w hS0
 refine Ai _ _ Tryz.func41 rfl rfl rfl (hS0) ?_
 refine Gs ?_
 refine Bv rfl rfl rfl (fun b1 => ?_)
 refine Bv rfl rfl rfl (fun b2 => ?_)
 refine Ga rfl (Gn (.nil _) (Gs (Ga rfl (AP (AA (Ab ?_))))))
 refine AY rfl (.tmp rfl .n) ?_
 intro w1 hS
 have hS := (hS.perm (Av.perm .n)).Ay
 exact ⟨_, ⟨rfl, rfl⟩, hS⟩
theorem OS  (w : World) : EF Tryz.prog 15 #[] w fun v w' => v = .agg AH.new.enc.toArray ∧ B6 w w' := by
 refine Ai [] [] Tryz.func15 rfl rfl rfl (St.start w []) ?_
 refine Gs ?_
 refine BD rfl Lw rfl (fun b1 => ?_)
 refine AP (AA (Gs ?_))
 refine BD rfl Lw rfl (fun b2 => ?_)
 refine AP (AA (CC ?_))
 refine Gt (Ea Tryz.underlying23 C4 UZ rfl (.cons (AS.arr (n := 6) (i := 0) B0 (by decide) (by decide)) rfl rfl rfl (.cons (AS.arr (n := 6) (i := 1) B0 (by decide) (by decide)) rfl rfl rfl (.cons (AS.arr (n := 6) (i := 2) B0 (by decide) (by decide)) rfl rfl rfl (.cons (AS.arr (n := 6) (i := 3) B0 (by decide) (by decide)) rfl rfl rfl (.cons (AS.arr (n := 6) (i := 4) B0 (by decide) (by decide)) rfl rfl rfl (.cons (AS.arr (n := 6) (i := 5) B0 (by decide) (by decide)) rfl rfl rfl .nil))))))) ?_
 refine Gt (Ea Tryz.underlying24 Ju ZR rfl (.cons (AS.arr (n := 6) (i := 5) Gf (by decide) (by decide)) rfl rfl rfl .nil)) ?_
 refine Gt (BC Tk NL rfl (.cons Room.l0 rfl rfl rfl (.cons Room.l2 rfl rfl rfl (.cons Room.l3 rfl rfl rfl .nil)))) ?_
 refine Gt (Ea Tryz.underlying23 C4 UZ rfl (.cons (AS.arr (n := 6) (i := 0) B0 (by decide) (by decide)) rfl rfl rfl (.cons (AS.arr (n := 6) (i := 1) B0 (by decide) (by decide)) rfl rfl rfl (.cons (AS.arr (n := 6) (i := 2) B0 (by decide) (by decide)) rfl rfl rfl (.cons (AS.arr (n := 6) (i := 3) B0 (by decide) (by decide)) rfl rfl rfl (.cons (AS.arr (n := 6) (i := 4) B0 (by decide) (by decide)) rfl rfl rfl (.cons (AS.arr (n := 6) (i := 5) B0 (by decide) (by decide)) rfl rfl rfl .nil))))))) ?_
 refine Gt (BC Tk NL rfl (.cons Room.l0 rfl rfl rfl (.cons Room.l2 rfl rfl rfl .nil))) ?_
 refine Gt (Ea Tryz.underlying23 C4 UZ rfl (.cons (AS.arr (n := 6) (i := 0) B0 (by decide) (by decide)) rfl rfl rfl (.cons (AS.arr (n := 6) (i := 1) B0 (by decide) (by decide)) rfl rfl rfl (.cons (AS.arr (n := 6) (i := 2) B0 (by decide) (by decide)) rfl rfl rfl (.cons (AS.arr (n := 6) (i := 3) B0 (by decide) (by decide)) rfl rfl rfl (.cons (AS.arr (n := 6) (i := 4) B0 (by decide) (by decide)) rfl rfl rfl (.cons (AS.arr (n := 6) (i := 5) B0 (by decide) (by decide)) rfl rfl rfl .nil))))))) ?_
 refine Gt (BC Tk NL rfl (.cons Room.l0 rfl rfl rfl (.cons Room.l2 rfl rfl rfl (.cons Room.l1 rfl rfl rfl .nil)))) ?_
 refine Gt (Ea Tryz.underlying23 C4 UZ rfl (.cons (AS.arr (n := 6) (i := 0) B0 (by decide) (by decide)) rfl rfl rfl (.cons (AS.arr (n := 6) (i := 1) B0 (by decide) (by decide)) rfl rfl rfl (.cons (AS.arr (n := 6) (i := 2) B0 (by decide) (by decide)) rfl rfl rfl (.cons (AS.arr (n := 6) (i := 3) B0 (by decide) (by decide)) rfl rfl rfl (.cons (AS.arr (n := 6) (i := 4) B0 (by decide) (by decide)) rfl rfl rfl (.cons (AS.arr (n := 6) (i := 5) B0 (by decide) (by decide)) rfl rfl rfl .nil))))))) ?_
 refine Gt (BC Tk NL rfl (.cons Room.l0 rfl rfl rfl (.cons Room.l2 rfl rfl rfl (.cons Room.l1 rfl rfl rfl .nil)))) ?_
 refine Gt (Ea Tryz.underlying23 C4 UZ rfl (.cons (AS.arr (n := 6) (i := 0) B0 (by decide) (by decide)) rfl rfl rfl (.cons (AS.arr (n := 6) (i := 1) B0 (by decide) (by decide)) rfl rfl rfl (.cons (AS.arr (n := 6) (i := 2) B0 (by decide) (by decide)) rfl rfl rfl (.cons (AS.arr (n := 6) (i := 3) B0 (by decide) (by decide)) rfl rfl rfl (.cons (AS.arr (n := 6) (i := 4) B0 (by decide) (by decide)) rfl rfl rfl (.cons (AS.arr (n := 6) (i := 5) B0 (by decide) (by decide)) rfl rfl rfl .nil))))))) ?_
 refine Gt (Ea Tryz.underlying24 Ju ZR rfl (.cons (AS.arr (n := 6) (i := 2) Gf (by decide) (by decide)) rfl rfl rfl .nil)) ?_
 refine Gt (BC Tk NL rfl (.cons Room.l0 rfl rfl rfl (.cons Room.l2 rfl rfl rfl (.cons Room.l3 rfl rfl rfl (.cons Room.l1 rfl rfl rfl .nil))))) ?_
 refine Gt (Ea Tryz.underlying23 C4 UZ rfl (.cons (AS.arr (n := 6) (i := 0) B0 (by decide) (by decide)) rfl rfl rfl (.cons (AS.arr (n := 6) (i := 1) B0 (by decide) (by decide)) rfl rfl rfl (.cons (AS.arr (n := 6) (i := 2) B0 (by decide) (by decide)) rfl rfl rfl (.cons (AS.arr (n := 6) (i := 3) B0 (by decide) (by decide)) rfl rfl rfl (.cons (AS.arr (n := 6) (i := 4) B0 (by decide) (by decide)) rfl rfl rfl (.cons (AS.arr (n := 6) (i := 5) B0 (by decide) (by decide)) rfl rfl rfl .nil))))))) ?_
 refine Gt (BC Tk NL rfl (.cons Room.l0 rfl rfl rfl (.cons Room.l2 rfl rfl rfl .nil))) ?_
 refine Va (cs := B9 (n := 6) Room.enc (Vector.replicate 6 default)) (cs' := B9 (n := 6) Room.enc AH.SJ) rfl Tryz.underlying95 P4 NL (by decide) (by decide) (by kernel_rfl) (.cons (AS.arr (n := 6) (i := 0) Room.fl (by decide) (by decide)) rfl rfl rfl (.cons (AS.arr (n := 6) (i := 1) Room.fl (by decide) (by decide)) rfl rfl rfl (.cons (AS.arr (n := 6) (i := 2) Room.fl (by decide) (by decide)) rfl rfl rfl (.cons (AS.arr (n := 6) (i := 3) Room.fl (by decide) (by decide)) rfl rfl rfl (.cons (AS.arr (n := 6) (i := 4) Room.fl (by decide) (by decide)) rfl rfl rfl (.cons (AS.arr (n := 6) (i := 5) Room.fl (by decide) (by decide)) rfl rfl rfl .nil)))))) rfl (fun b3 => ?_)
 refine Gt (Aq rfl Tryz.underlying95 rfl) (Gm rfl (Gn (.t5 0 1 20 21 22) (Ae ?_)))
 refine Bn (.t5 22 0 1 20 21) ?_
 refine Be (.t .h) ?_
 refine CS (fun (k : Int) => 0 ≤ k ∧ k ≤ 6) (fun (k : Int) => (6 - k).toNat) (fun (k : Int) => [(22, .int .i64 k)]) (fun (k : Int) => [Ac.box b2 35 (AH.enc (AH.R0 k.toNat))]) (0) ?_ rfl rfl (fun k hI1 => ?_)
 · exact ⟨Int.le_refl _, by omega⟩
 obtain ⟨hI11, hI12⟩ := hI1
 refine Gs (Gt (A5 rfl rfl) (AP (AA (Ao ?_))))
 refine Gc (fun c1 => ?_) (fun c1 => ?_)
 ·
  have c1p := kz c1
  dsimp only at c1p
  refine Aa ?_
  refine AB (.t5 0 1 20 21 22) ?_
  refine AA (Ao (Ae (Gs (Gm rfl ?_))))
  refine Gt (Bo ao (by decide) (Kn.own .m1) rfl rfl (by omega) (by dsimp only; omega)) ?_
  refine Gt (N5 rfl MG (by decide) Room.fl (Kn.own .m1) (by simp; omega)) ?_
  refine BD rfl NL rfl (fun b4 => ?_)
  refine Ga rfl ?_
  refine AQ (AJ (AS.id Room.fl.len Room.fl.one) rfl rfl rfl P4 rfl .h) ?_
  refine Gn (.t7 0 1 2 3 20 21 22) (AI (Gm rfl (Gt (AZ rfl MG .m0 (AS.id Room.fl.len Room.fl.one) rfl) (Gt (Af GI rfl) ?_))))
  refine Gt (AR Nd rfl rfl (by omega) (by omega)) ?_
  refine AQ (AJ (AH.l0.comp (AS.ar (n := 6) Room.fl (by omega))) rfl rfl rfl P4 rfl (.t .h)) ?_
  refine AP (AB (.t5 0 1 20 21 22) ?_)
  refine AT (AA (AI ?_))
  refine Gt (Aw rfl rfl (IntWalk.i64_in _ (by omega))) ?_
  refine Gm rfl ?_
  refine AP (AB (.t5 0 1 20 21 22) ?_)
  refine B2 (k + 1) ?_ ?_ (.t5 22 0 1 20 21) (by rw [AH.Uh (by omega)]; exact (.cons _ (.refl _)))
  · exact ⟨by omega, by omega⟩
  · omega
 have c1p := kz c1
 dsimp only at c1p
 obtain rfl : k = 6 := by omega
 refine Bb (AV (AV (Aj ?_)))
 refine AB (.t2 0 1) ?_
 refine AA (CC (Gt (BC PV Js rfl (.cons Al.l0 rfl rfl rfl (.cons Al.l1 rfl rfl rfl .nil))) (Gt (BC PV Js rfl (.cons Al.l0 rfl rfl rfl (.cons Al.l1 rfl rfl rfl (.cons Al.l3 rfl rfl rfl .nil)))) (Gt (BC PV Js rfl (.cons Al.l0 rfl rfl rfl (.cons Al.l1 rfl rfl rfl .nil))) (Gt (BC PV Js rfl (.cons Al.l0 rfl rfl rfl (.cons Al.l1 rfl rfl rfl (.cons Al.l3 rfl rfl rfl .nil)))) (Gt (BC PV Js rfl (.cons Al.l0 rfl rfl rfl (.cons Al.l2 rfl rfl rfl (.cons Al.l3 rfl rfl rfl .nil)))) (Gt (BC PV Js rfl (.cons Al.l0 rfl rfl rfl (.cons Al.l3 rfl rfl rfl .nil))) ?_)))))))
 refine Gt (BC PV Js rfl (.cons Al.l0 rfl rfl rfl .nil)) (Gt (BC PV Js rfl (.cons Al.l0 rfl rfl rfl (.cons Al.l1 rfl rfl rfl (.cons Al.l4 rfl rfl rfl .nil)))) (Gt (BC PV Js rfl (.cons Al.l0 rfl rfl rfl (.cons Al.l2 rfl rfl rfl (.cons Al.l3 rfl rfl rfl .nil)))) ?_))
 refine Va (cs := B9 (n := 9) Al.enc (Vector.replicate 9 default)) (cs' := B9 (n := 9) Al.enc AH.Pt) rfl Tryz.underlying96 MT Js (by decide) (by decide) (by kernel_rfl) (.cons (AS.arr (n := 9) (i := 0) Al.fl (by decide) (by decide)) rfl rfl rfl (.cons (AS.arr (n := 9) (i := 1) Al.fl (by decide) (by decide)) rfl rfl rfl (.cons (AS.arr (n := 9) (i := 2) Al.fl (by decide) (by decide)) rfl rfl rfl (.cons (AS.arr (n := 9) (i := 3) Al.fl (by decide) (by decide)) rfl rfl rfl (.cons (AS.arr (n := 9) (i := 4) Al.fl (by decide) (by decide)) rfl rfl rfl (.cons (AS.arr (n := 9) (i := 5) Al.fl (by decide) (by decide)) rfl rfl rfl (.cons (AS.arr (n := 9) (i := 6) Al.fl (by decide) (by decide)) rfl rfl rfl (.cons (AS.arr (n := 9) (i := 7) Al.fl (by decide) (by decide)) rfl rfl rfl (.cons (AS.arr (n := 9) (i := 8) Al.fl (by decide) (by decide)) rfl rfl rfl .nil))))))))) rfl (fun b5 => ?_)
 refine Gt (Aq rfl Tryz.underlying96 rfl) (Gm rfl (Gn (.t5 0 1 41 42 43) (Ae ?_)))
 refine Bn (.t5 43 0 1 41 42) ?_
 refine Be (.t .h) ?_
 refine CS (fun (k : Int) => 0 ≤ k ∧ k ≤ 9) (fun (k : Int) => (9 - k).toNat) (fun (k : Int) => [(43, .int .i64 k)]) (fun (k : Int) => [Ac.box b2 35 (AH.enc (AH.KL k.toNat))]) (0) ?_ rfl rfl (fun k hI2 => ?_)
 · exact ⟨Int.le_refl _, by omega⟩
 obtain ⟨hI21, hI22⟩ := hI2
 refine Gs (Gt (A5 rfl rfl) (AP (AA (Ao ?_))))
 refine Gc (fun c2 => ?_) (fun c2 => ?_)
 ·
  have c2p := kz c2
  dsimp only at c2p
  refine Aa ?_
  refine AB (.t5 0 1 41 42 43) ?_
  refine AA (Ao (Ae (Gs (Gm rfl ?_))))
  refine Gt (Bo cB (by decide) (Kn.own .m1) rfl rfl (by omega) (by dsimp only; omega)) ?_
  refine Gt (N5 rfl K2 (by decide) Al.fl (Kn.own .m1) (by simp; omega)) ?_
  refine BD rfl Js rfl (fun b6 => ?_)
  refine Ga rfl ?_
  refine AQ (AJ (AS.id Al.fl.len Al.fl.one) rfl rfl rfl MT rfl .h) ?_
  refine Gn (.t7 0 1 4 5 41 42 43) (AI (Gm rfl (Gt (AZ rfl K2 .m0 (AS.id Al.fl.len Al.fl.one) rfl) (Gt (Af Cq rfl) ?_))))
  refine Gt (AR Ff rfl rfl (by omega) (by omega)) ?_
  refine AQ (AJ (AH.l1.comp (AS.ar (n := 9) Al.fl (by omega))) rfl rfl rfl MT rfl (.t .h)) ?_
  refine AP (AB (.t5 0 1 41 42 43) ?_)
  refine AT (AA (AI ?_))
  refine Gt (Aw rfl rfl (IntWalk.i64_in _ (by omega))) ?_
  refine Gm rfl ?_
  refine AP (AB (.t5 0 1 41 42 43) ?_)
  refine B2 (k + 1) ?_ ?_ (.t5 43 0 1 41 42) (by rw [AH.Uf (by omega)]; exact (.cons _ (.refl _)))
  · exact ⟨by omega, by omega⟩
  · omega
 have c2p := kz c2
 dsimp only at c2p
 obtain rfl : k = 9 := by omega
 refine Bb (AV (AV (Aj ?_)))
 refine AB (.t2 0 1) ?_
 refine AA (Gs (Gt (BC VL K3 rfl (.cons Am.l0 rfl rfl rfl (.cons Am.l1 rfl rfl rfl (.cons Am.l2 rfl rfl rfl (.cons Am.l4 rfl rfl rfl .nil))))) (Gt (Af Bj rfl) ?_)))
 refine Gt (AR Cz rfl rfl (by decide) (by decide)) ?_
 refine AQ (AJ (AH.l2.comp (AS.arr (n := 6) Am.fl (by decide) (by decide))) rfl rfl rfl Jr rfl .h) ?_
 refine Gn (.t2 0 1) (Gs (Gt (BC VL K3 rfl (.cons Am.l0 rfl rfl rfl (.cons Am.l1 rfl rfl rfl (.cons Am.l3 rfl rfl rfl (.cons Am.l4 rfl rfl rfl .nil))))) (Gt (Af Bj rfl) ?_)))
 refine Gt (AR Cz rfl rfl (by decide) (by decide)) ?_
 refine AQ (AJ (AH.l2.comp (AS.arr (n := 6) Am.fl (by decide) (by decide))) rfl rfl rfl Jr rfl .h) ?_
 refine Gn (.t2 0 1) (Gs (Gt (AZ rfl BT .m0 (AS.id AH.fl.len AH.fl.one) rfl) ?_))
 refine AQ (AJ (AS.id AH.fl.len AH.fl.one) rfl rfl rfl Dv rfl (.t (.t (.t .h)))) ?_
 refine Gn (.t1 0) (Ab ?_)
 refine AY rfl (.cell rfl .m3 (.inl ⟨(by rw [AH.fl.len]; exact BT), rfl⟩) .n) ?_
 intro w1 hS; refine ⟨?_, hS.Ak⟩; rfl
theorem Iy  : II Tryz.prog 37 #[] [] (fun v B => ∃ (b : Nat) (V : AK) (ls : Vector BI 4) (ev : List Ing.Event), v = .pointer (some ⟨b, 0, none⟩) ∧ A3 V ls ev = AM.new ∧ B = [Ac.box b 101 (AK.enc V), Ac.De (CB 9 (AK.Ap V) ls), Ac.own (AK.last V) 56 16 ((ev).flatMap Ing.Event.enc)]) := by
 intro w hS0
 refine Ai _ _ Tryz.func37 rfl rfl rfl (hS0) ?_
 refine Gs (Ga rfl (Gn (.nil _) (Gs ?_)))
 refine A8 rfl aq .n (fun w hS => OS w) ?_
 refine Gt (BC aF Z8 rfl (.cons AK.l0 rfl rfl rfl .nil)) ?_
 refine Bv rfl rfl rfl (fun b1 => ?_)
 refine Ga rfl (Gn (.t1 0) (Ab ?_))
 refine AY rfl (.tmp rfl .n) ?_
 intro w1 hS
 have hS := (hS.perm (Av.perm (.c .h .n))).Ay
 have h2 := (St.XA hS (l := CB 9 Mi Mj) (fun r hr => VE 9 w1 r hr)).Cl 56 16
 refine ⟨_, ⟨b1, ⟨AH.new, Mi, 0, ⟨none, 0, 0⟩⟩, Mj, [], rfl, rfl, rfl⟩, h2.perm (XP _ _ _)⟩
theorem Bx {t0 : Nat} (h : Hd) (xs : List As) (hb : xs.length ≤ 17592186044416) : E9 Tryz.prog 69 #[h.val] [] (fun w => Rd w h t0 1 (xs.flatMap A4)) (fun v B => ∃ h' : Hd, v = h'.val ∧ h'.len = xs.length ∧ B = [Ac.own h' 9 1 (xs.flatMap A4)]) := by
 intro w hS0 hH
 have r0 := hH
 have hl := r0.J7 DH (by decide)
 refine Ai _ _ Tryz.func69 rfl rfl rfl (hS0) ?_
 refine Gs (Ga rfl (Gn (.t1 0) (CC (Gm rfl (Gt (Sp Tryz.underlying52 rfl) (Gn (.t2 0 4) ?_))))))
 refine Gc (fun c1 => ?_) (fun c1 => ?_)
 ·
  refine Gs (Ga rfl (Gn (.t1 2) (Ab (AD ?_))))
  refine AY rfl (.tmp rfl .n) ?_
  intro w1 hS
  have hS := (hS.perm (Av.perm .n)).Ay
  have hx : xs = [] := by
    rcases xs with _ | ⟨x, xs⟩
    · rfl
    · exfalso
      obtain ⟨b, o, C, fz, e1, _⟩ := r0.2 (by simp [A4])
      rw [e1] at c1
      cases c1
  subst hx
  exact ⟨_, ⟨⟨none, 0, 0⟩, rfl, rfl, rfl⟩, hS.Cl _ _⟩
 have c1p := kz c1
 refine Aa ?_
 refine AB (.t1 0) ?_
 refine AA (Gs ?_)
 refine Xe A4 rfl Tryz.underlying52 EU (fun b1 => ?_)
 refine Gm rfl ?_
 refine Gw (e := A4) rfl Tryz.underlying52 EU Qx rfl Vv (by decide) rfl rfl (fun w hS => Src.Dd Tryz.underlying52 ((Kn.Gv r0) w hS)) rfl rfl (by omega) (fun _ => .h) (fun h1 h1l => ?_)
 refine Ga rfl (Gn (.t1 2) (Ab ?_))
 refine AY rfl (.tmp rfl .n) ?_
 intro w1 hS
 have hS := (hS.perm (Av.perm (.c .h .n))).Ay
 exact ⟨_, ⟨_, rfl, by omega, rfl⟩, hS⟩
theorem Nl {t0 : Nat} (l : BB) (qs : List As) (hb : qs.length ≤ 17592186044416) : E9 Tryz.prog 91 #[.agg l.enc.toArray] [] (fun w => Rd w l.queue t0 1 (qs.flatMap A4) ∧ l.queue.len ≤ l.queue.cap) (fun v B => (qs = [] ∧ v = .tuple #[.agg l.enc.toArray, BQ [], .bool false] ∧ B = []) ∨ (∃ q r, qs = q :: r ∧ ∃ h' : Hd, v = .tuple #[.agg (BB.enc ⟨l.now, l.Cd, l.ret, h'⟩).toArray, BQ q, .bool true] ∧ h'.len = r.length ∧ B = [Ac.own h' 9 1 (r.flatMap A4)])) := by
 intro w hS0 hH
 obtain ⟨r0, k0⟩ := hH
 have hl0 := r0.J7 DH (by decide)
 refine Ai _ _ Tryz.func91 rfl rfl rfl (hS0) ?_
 refine Gs ?_
 refine Bv rfl rfl rfl (fun b1 => ?_)
 refine BD rfl Wx rfl (fun b2 => ?_)
 refine Ga rfl (Ga rfl (Gn (.t2 1 2) (CC (Gt (Af EW rfl) (Gt (AF rfl EK .m1 BB.l3 rfl rfl) (Gt (Aq rfl Tryz.underlying52 rfl) (Gt (Ag rfl rfl) ?_)))))))
 refine Gn (.t3 1 2 9) ?_
 refine Gc (fun c1 => ?_) (fun c1 => ?_)
 ·
  have c1p := kz c1
  have hq : qs = [] := List.length_eq_zero_iff.1 (by omega)
  refine Gs (Gt (AZ rfl HR .m1 (AS.id BB.fl.len BB.fl.one) rfl) ?_)
  refine AQ (AJ (AS.id BB.fl.len BB.fl.one) rfl rfl rfl Lp rfl .h) ?_
  refine Ga rfl (Ga rfl (Gn (.t3 2 3 4) (Ab (AD ?_))))
  refine AY rfl (.cell rfl .m0 (.inl ⟨(by rw [BB.fl.len]; exact HR), rfl⟩) (.tmp rfl (.tmp rfl .n))) ?_
  intro w1 hS
  have hS := (hS.perm (Av.perm .n)).Ay
  exact ⟨_, .inl ⟨hq, rfl, rfl⟩, hS⟩
 have c1p := kz c1
 obtain ⟨q, r, rfl⟩ := Bc.S6 (qs := qs) (by omega)
 rw [List.length_cons] at hl0 hb
 refine Aa ?_
 refine AB (.t2 1 2) ?_
 refine AA (Gs (Gt (Af EW rfl) (Gt (AF rfl EK .m1 BB.l3 rfl rfl) ?_)))
 refine Gt (Bo H5 (by decide) (Kn.Gv r0) rfl rfl (by omega) (by omega)) ?_
 refine Gt (C5 rfl CD (Kn.Gv r0) (by simp)) ?_
 refine Ga rfl (Gn (.t3 1 2 5) (Gs (Gt (Af EW rfl) (Gt (AF rfl EK .m1 BB.l3 rfl rfl) ?_))))
 refine Gt (Qm Tryz.underlying52 EU rfl rfl (by decide) (by omega)) ?_
 refine BE rfl Uo (.c rfl .n) .n (Bx _ r (by omega)) (fun w hS => by have h := (Kn.cut (l := 1) (r := l.queue.len) DH (Kn.Gv r0) (by omega) (Nat.le_refl _) (Tn.of k0)) w hS; rw [show (((q :: r).take l.queue.len).drop 1) = r from by rw [List.take_of_length_le (by simp; omega)]; rfl] at h; exact h) (fun v2 B hv => ?_)
 obtain ⟨y3, rfl, y4, rfl⟩ := hv
 refine Gt (Af EW rfl) ?_
 refine AQ (AJ BB.l3 rfl rfl rfl L2 rfl (.t (.t .h))) ?_
 refine Gn (.t3 1 2 5) (Gs (Gt (AZ rfl HR .m2 (AS.id BB.fl.len BB.fl.one) rfl) (Gm rfl ?_)))
 refine AQ (AJ (AS.id BB.fl.len BB.fl.one) rfl rfl rfl Lp rfl (.t .h)) ?_
 refine Ga rfl (Ga rfl (Gn (.t3 2 3 4) (Ab ?_)))
 refine AY rfl (.cell rfl .m1 (.inl ⟨(by rw [BB.fl.len]; exact HR), rfl⟩) (.tmp rfl (.tmp rfl .n))) ?_
 intro w1 hS
 have hS := (hS.perm (Av.perm (.c .h .n))).Ay
 exact ⟨_, .inr ⟨q, r, rfl, _, rfl, by assumption, rfl⟩, hS⟩
theorem MM (p : Ar) (w : World) : EF Tryz.prog 92 #[.agg p.enc.toArray] w fun v w' => v = .agg (Ar.enc ⟨p.wait, 0, false, p.ring, p.cut⟩).toArray ∧ B6 w w' := by
 refine Ai [] [] Tryz.func92 rfl rfl rfl (St.start w []) ?_
 refine Gs ?_
 refine Bv rfl rfl rfl (fun b1 => ?_)
 refine BD rfl Sl rfl (fun b2 => ?_)
 refine Gn (.t2 1 2) (Gs (Gt (Af LY rfl) ?_))
 refine AQ (AJ Ar.l2 rfl rfl rfl Ju rfl (.t .h)) ?_
 refine Gt (Af JT rfl) ?_
 refine AQ (AJ Ar.l1 rfl rfl rfl C4 rfl (.t .h)) ?_
 refine Gn (.t2 1 2) (Gs (Gt (AZ rfl Co .m1 (AS.id Ar.fl.len Ar.fl.one) rfl) ?_))
 refine AQ (AJ (AS.id Ar.fl.len Ar.fl.one) rfl rfl rfl E5 rfl .h) ?_
 refine Gn (.t1 2) (Ab ?_)
 refine AY rfl (.cell rfl .m0 (.inl ⟨(by rw [Ar.fl.len]; exact Co), rfl⟩) .n) ?_
 intro w1 hS; refine ⟨?_, hS.Ak⟩; rfl
theorem G2 (s : As) (c : UInt8) (hs : s.length ≤ 10000000) (w : World) : EF Tryz.prog 116 #[BQ s, .int .u8 (c.toNat : Int)] w fun v w' => v = BQ (Words.RG c s) ∧ B6 w w' := by
 refine Ai [] [] Tryz.func116 rfl rfl rfl (St.start w []) ?_
 refine Gs (Ga rfl (Gn (.t2 0 1) (Ao (Ae ?_))))
 refine Bn (.t2 0 1) ?_
 refine CS (fun (r : As) => Words.RG c s = Words.RG c r ∧ r.length ≤ s.length) (fun (r : As) => r.length) (fun (r : As) => [(0, BQ r)]) (fun (r : As) => []) (s) ?_ rfl rfl (fun r hI1 => ?_)
 · exact ⟨rfl, Nat.le_refl _⟩
 obtain ⟨hI11, hI12⟩ := hI1
 refine CC (Gm rfl (Gt (BH rfl Tryz.underlying9 rfl) (Gt (Ce rfl rfl) (Gm rfl (BZ 8 rfl rfl (fun q => AE rfl) (BZ 8 rfl rfl (fun q => AE rfl) (BZ 8 rfl rfl (fun q => BH rfl Tryz.underlying9 (BV rfl q)) ?_)))))))
 refine BZ 8 rfl rfl (fun q => by have q1 := q; (try simp at q1); exact E2 (BV rfl q) rfl (IntWalk.i64_in _ (by omega))) ?_
 refine BZ 8 rfl rfl (fun q => by have q1 := q; (try simp at q1); exact Bh Tryz.underlying9 (BV rfl q) (BV rfl q) (by omega) (by omega)) ?_
 refine BZ 8 rfl rfl (fun q => AE rfl) (BZ 8 rfl rfl (fun q => Ag (BV rfl q) (BV rfl q)) (Gt (BG rfl rfl (fun h => h)) (Gn (.t3 0 1 16) ?_)))
 refine Gc (fun c1 => ?_) (fun c1 => ?_)
 ·
  have c1p := kz c1
  have hlt : 0 < r.length := by simp at c1; omega
  refine Aa ?_
  refine AB (.t2 0 1) ?_
  refine AA (Ae (AI (Gm rfl (Gm rfl (Gt (BH rfl Tryz.underlying9 rfl) ?_)))))
  refine Gt (E2 rfl rfl (IntWalk.i64_in _ (by omega))) ?_
  refine Gt (Hw Tryz.underlying9 rfl rfl (by omega) (by omega)) ?_
  refine Ga rfl ?_
  refine AP (AB (.t2 0 1) ?_)
  refine AT ?_
  refine B2 _ ?_ ?_ (.t2 0 1) (.refl _)
  · exact ⟨by rw [hI11, Words.aa c1] <;> rfl, by first | (simp; done) | (simp; omega)⟩
  · first | (simp; done) | (simp; omega)
 refine Bb (AV (AV (Aj ?_)))
 refine AB (.t1 0) ?_
 refine AA (Gs (Gm rfl (Ga rfl (Gn (.t1 4) (Ab ?_)))))
 refine AY rfl (.tmp rfl .n) ?_
 intro w1 hS; refine ⟨?_, hS.Ak⟩; rw [hI11, Words.Zz c1]; rfl
theorem Eo (s : As) (c : UInt8) (hs : s.length ≤ 10000000) (w : World) : EF Tryz.prog 115 #[BQ s, .int .u8 (c.toNat : Int)] w fun v w' => v = BQ (Words.PD c s) ∧ B6 w w' := by
 refine Ai [] [] Tryz.func115 rfl rfl rfl (St.start w []) ?_
 refine Gs (Ga rfl (Gn (.t2 0 1) (Ao (Ae ?_))))
 refine Bn (.t2 0 1) ?_
 refine CS (fun (r : As) => Words.PD c s = Words.PD c r ∧ r.length ≤ s.length) (fun (r : As) => r.length) (fun (r : As) => [(0, BQ r)]) (fun (r : As) => []) (s) ?_ rfl rfl (fun r hI1 => ?_)
 · exact ⟨rfl, Nat.le_refl _⟩
 obtain ⟨hI11, hI12⟩ := hI1
 refine CC (Gm rfl (Gt (BH rfl Tryz.underlying9 rfl) (Gt (Ce rfl rfl) (Gm rfl (BZ 8 rfl rfl (fun q => AE rfl) ?_)))))
 refine BZ 8 rfl rfl (fun q => by have q1 := q; (try simp at q1); exact Bh Tryz.underlying9 (BV rfl q) rfl (by decide) (by omega)) ?_
 refine BZ 8 rfl rfl (fun q => AE rfl) (BZ 8 rfl rfl (fun q => Ag (BV rfl q) (BV rfl q)) (Gt (BG rfl rfl (fun h => h)) (Gn (.t3 0 1 13) ?_)))
 refine Gc (fun c1 => ?_) (fun c1 => ?_)
 ·
  have c1p := kz c1
  have hlt : 0 < r.length := by simp at c1; omega
  refine Aa ?_
  refine AB (.t2 0 1) ?_
  refine AA (Ae (AI (Gm rfl ?_)))
  refine Gt (F9 Tryz.underlying9 rfl rfl (by decide) (by omega)) ?_
  refine Ga rfl ?_
  refine AP (AB (.t2 0 1) ?_)
  refine AT ?_
  refine B2 _ ?_ ?_ (.t2 0 1) (.refl _)
  · exact ⟨by rw [hI11, Words.ZN c1] <;> rfl, by first | (simp; done) | (simp; omega)⟩
  · first | (simp; done) | (simp; omega)
 refine Bb (AV (AV (Aj ?_)))
 refine AB (.t1 0) ?_
 refine AA (Gs (Gm rfl (Ga rfl (Gn (.t1 4) (Ab ?_)))))
 refine AY rfl (.tmp rfl .n) ?_
 intro w1 hS; refine ⟨?_, hS.Ak⟩; rw [hI11, Words.aX c1]; rfl
theorem Ha (s : As) (hs : s.length ≤ 10000000) (w : World) : EF Tryz.prog 94 #[BQ s, BQ [32]] w fun v w' => v = BQ (Words.PD 32 (Words.RG 32 s)) ∧ B6 w w' := by
 refine Ai [] [] Tryz.func94 rfl rfl rfl (St.start w []) ?_
 refine Gs (Ga rfl (Gn (.t2 0 1) (CC (Gm rfl (Gt (Bl rfl rfl) (Gm rfl (BW 9 rfl rfl (fun q => AE rfl) ?_)))))))
 refine BW 9 rfl rfl (fun q => Bl (cF rfl q) rfl) ?_
 refine Gt (BR rfl rfl (fun h => by rw [h]; rfl)) ?_
 refine Gn (.t3 0 1 12) ?_
 refine Gc (fun c1 => ?_) (fun c1 => ?_)
 ·
  refine Gs (Gm rfl (Ga rfl (Gn (.t1 4) (Ab (AD ?_)))))
  refine AY rfl (.tmp rfl .n) ?_
  intro w1 hS; refine ⟨?_, hS.Ak⟩; have e : s = [] := by simpa using c1
  subst e; rfl
 have c1p := kz c1
 refine Aa ?_
 refine AB (.t2 0 1) ?_
 refine AA (CC (Gm rfl (Gt (BH rfl Tryz.underlying9 rfl) (Gt (Ag rfl rfl) (Gm rfl (BZ 17 rfl rfl (fun q => AE rfl) ?_))))))
 refine BZ 17 rfl rfl (fun q => by have q1 := q; (try simp at q1); exact Bh Tryz.underlying9 (BV rfl q) rfl (by decide) (by (try simp only [List.length_cons, List.length_nil]); omega)) ?_
 refine BZ 17 rfl rfl (fun q => A5 (BV rfl q) rfl) (Gt (BG rfl rfl (fun h => h)) (Gn (.t3 0 1 21) ?_))
 refine FQ rfl rfl ?_
 refine Ao ?_
 refine BF (N := 8) [0, 0, 2, 7, 0, 16, 63, 127] mix (by kernel_rfl) rfl ?_
 refine Pf 0 rfl (AE rfl) (Pf 1 rfl (AE rfl) ?_)
 refine Pf 2 rfl (Bh Tryz.underlying9 rfl rfl (by decide) (by (try simp only [List.length_cons, List.length_nil]); omega)) ?_
 refine BX 3 rfl rfl (by kernel_rfl) (K9 (KH (Dt ZW (.c rfl (.c rfl .n)) (fun w hS => G2 _ 32 hs w)))) ?_
 refine Pf 4 rfl (AE rfl) ?_
 refine Pf 5 rfl (Bh Tryz.underlying9 rfl rfl (by decide) (by (try simp only [List.length_cons, List.length_nil]); omega)) ?_
 refine BX 6 rfl rfl (by kernel_rfl) (K9 (KH (Dt X0 (.c rfl (.c rfl .n)) (fun w hS => Eo _ 32 (by have := Words.Pd 32 s; omega) w)))) ?_
 refine Pf 7 rfl (Az rfl) ?_
 refine A2 (by kernel_rfl) ?_
 refine AB (.t1 4) ?_
 refine AA (Ab (AD ?_))
 refine AY rfl (.tmp rfl .n) ?_
 intro w1 hS; refine ⟨?_, hS.Ak⟩; rfl
theorem Jn (X : AH) (i : Int) (h0 : 0 ≤ i) (h9 : i < 9) (w : World) : EF Tryz.prog 68 #[.agg X.enc.toArray, .int .i64 i] w fun v w' => v = .bool (X.Cb i) ∧ B6 w w' := by
 refine Ai [] [] Tryz.func68 rfl rfl rfl (St.start w []) ?_
 refine Gs ?_
 refine Bv rfl rfl rfl (fun b1 => ?_)
 refine Ga rfl (Gn (.t2 1 2) (Gs (Gm rfl (Gt (Af Cq rfl) ?_))))
 refine Gt (AR Ff rfl rfl (by omega) (by omega)) ?_
 refine Gt (AZ rfl K2 .m0 (AH.l1.comp (AS.ar (n := 9) Al.fl (by omega))) rfl) ?_
 refine BD rfl Js rfl (fun b2 => ?_)
 refine AQ (AJ (AS.id Al.fl.len Al.fl.one) rfl rfl rfl MT rfl .h) ?_
 refine Gn (.t2 2 5) (CC (Gt (Af GG rfl) (Gt (AF rfl A1 .m0 Al.l1 rfl rfl) (Gt (A5 rfl rfl) (Gm rfl (BW 15 rfl rfl (fun q => Af GG rfl) (BW 15 rfl rfl (fun q => AF (cF rfl q) A1 .m0 Al.l1 rfl rfl) ?_)))))))
 refine BW 15 rfl rfl (fun q => Ce (cF rfl q) rfl) ?_
 refine Gt (BR rfl rfl (fun h => by rw [h]; rfl)) ?_
 refine Gm rfl (BW 20 rfl rfl (fun q => Af GG rfl) (BW 20 rfl rfl (fun q => AF (cF rfl q) A1 .m0 Al.l1 rfl rfl) (BW 20 rfl rfl (fun q => Ag (cF rfl q) rfl) (BW 20 rfl rfl (fun q => AE (cF rfl q)) ?_))))
 refine DE (t := 24) rfl rfl rfl (fun qc q => Af Fg rfl) ?_
 refine DE (t := 24) rfl rfl rfl (fun qc q => AF (BV rfl (by rw [qc, q]; rfl)) Cu .m0 Al.l4 rfl rfl) ?_
 refine BW 20 rfl rfl (fun q => BG (cF rfl q) rfl (fun h => by rw [q, h]; rfl)) ?_
 refine Gt (BR rfl rfl (fun h => by rw [h]; rfl)) ?_
 refine Gm rfl (BW 29 rfl rfl (fun q => Af C8 rfl) (BW 29 rfl rfl (fun q => AF (cF rfl q) A1 .m0 Al.l3 rfl rfl) (BW 29 rfl rfl (fun q => A5 (cF rfl q) rfl) ?_)))
 refine Gt (BR rfl rfl (fun h => by rw [h]; rfl)) ?_
 refine Gn (.t3 2 5 33) ?_
 refine Gc (fun c1 => ?_) (fun c1 => ?_)
 ·
  refine Gs (Ga rfl (Gn (.t1 4) (Ab (AD ?_))))
  refine AY rfl (.tmp rfl .n) ?_
  intro w1 hS; refine ⟨congrArg Value.bool ?_, hS.Ak⟩; simp only [AH.Cb, c1, ↓reduceIte, Bool.false_eq_true]
 have c1p := kz c1
 refine Aa ?_
 refine AB (.t2 2 5) ?_
 refine AA (Gs (Gt (Af GG rfl) (Gt (AF rfl A1 .m0 Al.l1 rfl rfl) (Gt (Ag rfl rfl) (Gm rfl (BZ 37 rfl rfl (fun q => Af Fg rfl) (BZ 37 rfl rfl (fun q => AF (BV rfl q) Cu .m0 Al.l4 rfl rfl) ?_)))))))
 refine Gt (BG rfl rfl (fun h => h)) (Ga rfl (Gn (.t3 2 5 6) (CC (Gt (Af FB rfl) (Gt (AF rfl A1 .m0 Al.l2 rfl rfl) (Gn (.t4 2 5 6 42) (Ae ?_)))))))
 refine Gs (Gt (Ag rfl rfl) (Ga rfl (Gn (.t5 2 5 6 42 43) ?_)))
 refine Gc (fun c2 => ?_) (fun c2 => ?_)
 ·
  refine Gs (Gt (Af C8 rfl) (Gt (AF rfl A1 .m0 Al.l3 rfl rfl) (Gt (A5 rfl rfl) (Gm rfl (BZ 48 rfl rfl (fun q => AE rfl) (BZ 48 rfl rfl (fun q => BO (BV rfl q)) (Gt (BG rfl rfl (fun h => h)) ?_)))))))
  refine Ga rfl (Gn (.t1 4) (Ab (AO (AD ?_))))
  refine AY rfl (.tmp rfl .n) ?_
  intro w1 hS; refine ⟨congrArg Value.bool ?_, hS.Ak⟩; simp only [AH.Cb, c1, c2, ↓reduceIte, Bool.false_eq_true]
 have c2p := kz c2
 refine Gs (Gt (Ag rfl rfl) (Ga rfl (Gn (.t5 2 5 6 42 52) ?_)))
 refine Gc (fun c3 => ?_) (fun c3 => ?_)
 ·
  have c3p := kz c3
  refine Gs (Gt (Af C8 rfl) (Gt (AF rfl A1 .m0 Al.l3 rfl rfl) (Gt (A5 rfl rfl) (Gm rfl (BZ 57 rfl rfl (fun q => Af C8 rfl) (BZ 57 rfl rfl (fun q => AF (BV rfl q) A1 .m0 Al.l3 rfl rfl) (BZ 57 rfl rfl (fun q => Af Bj rfl) ?_)))))))
  refine BZ 57 rfl rfl (fun q => by have q1 := q; (try simp at q1); exact AR Cz (BV rfl q) (BV rfl q) (by omega) (by omega)) ?_
  refine BZ 57 rfl rfl (fun q => Af Ho (BV rfl q)) ?_
  refine BZ 57 rfl rfl (fun q => by have q1 := q; (try simp at q1); exact AF (BV rfl q) Cu .m1 ((AH.l2.comp (AS.ar (n := 6) Am.fl (by omega))).comp Am.l1) rfl rfl) ?_
  refine Gt (BG rfl rfl (fun h => h)) (Ga rfl (Gn (.t1 4) (Ab (AO (AD ?_)))))
  refine AY rfl (.tmp rfl .n) ?_
  intro w1 hS; refine ⟨congrArg Value.bool ?_, hS.Ak⟩; simp only [AH.Cb, c1, c2, c3, ↓reduceIte, Bool.false_eq_true]
 have c3p := kz c3
 refine Gs (Gt (Ag rfl rfl) (Ga rfl (Gn (.t4 2 5 6 65) ?_)))
 refine Gc (fun c4 => ?_) (fun c4 => ?_)
 ·
  have c4p := kz c4
  refine CC (Gt (Af C8 rfl) (Gt (AF rfl A1 .m0 Al.l3 rfl rfl) (Gt (CI rfl rfl) (Gm rfl (BW 70 rfl rfl (fun q => Af C8 rfl) (BW 70 rfl rfl (fun q => AF (cF rfl q) A1 .m0 Al.l3 rfl rfl) (BW 70 rfl rfl (fun q => Af Cq rfl) ?_)))))))
  refine BW 70 rfl rfl (fun q => by have q1 := q; (try simp at q1); exact AR Ff (cF rfl q) (cF rfl q) (by omega) (by omega)) ?_
  refine BW 70 rfl rfl (fun q => Af GG (cF rfl q)) ?_
  refine BW 70 rfl rfl (fun q => by have q1 := q; (try simp at q1); exact AF (cF rfl q) A1 .m1 ((AH.l1.comp (AS.ar (n := 9) Al.fl (by omega))).comp Al.l1) rfl rfl) ?_
  refine BW 70 rfl rfl (fun q => CT (cF rfl q) rfl) ?_
  refine Gt (BR rfl rfl (fun h => by rw [h]; rfl)) ?_
  refine Gm rfl (BW 79 rfl rfl (fun q => AE rfl) ?_)
  refine Gt (BR rfl rfl (fun h => by rw [h]; rfl)) ?_
  refine Gn (.t3 2 5 81) ?_
  refine Gc (fun c5 => ?_) (fun c5 => ?_)
  ·
   refine Gs (Ga rfl (Gn (.t1 4) (Ab (AD (AO (AD ?_))))))
   refine AY rfl (.tmp rfl .n) ?_
   intro w1 hS; refine ⟨congrArg Value.bool ?_, hS.Ak⟩; simp only [AH.Cb, c1, c2, c3, c4, c5, ↓reduceIte, Bool.false_eq_true]
  have c5p := kz c5
  refine Aa ?_
  refine AB (.t2 2 5) ?_
  refine AA (Gs (Gm rfl (AP (AA (Ae ?_)))))
  refine Bn (.t3 82 2 5) ?_
  refine Gr (fun (k : Int) (t : Al) => 0 ≤ k ∧ k ≤ 10 ∧ X.Cb i = X.I3 (10 - k).toNat t) (fun (k : Int) (t : Al) => (10 - k).toNat) (fun (k : Int) (t : Al) => [(82, .int .i64 k)]) (fun (k : Int) (t : Al) => [Ac.box b2 29 (Al.enc t)]) (0) (X.AX.at i) ?_ rfl rfl (fun k t hI1 => ?_)
  · refine ⟨Int.le_refl _, by omega, ?_⟩; simp only [AH.Cb, c1, c2, c3, c4, c5, ↓reduceIte, Bool.false_eq_true]; rfl
  obtain ⟨hI11, hI12, hI13⟩ := hI1
  refine Gs (Gt (A5 rfl rfl) (AP (AA (Ao ?_))))
  refine Gc (fun c6 => ?_) (fun c6 => ?_)
  ·
   have c6p := kz c6
   rw [show (10 - k).toNat = (10 - (k + 1)).toNat + 1 from by omega, AH.I3, show decide ((10 - (k + 1)).toNat = 0) = decide (k = 9) from decide_eq_decide.2 ⟨by omega, by omega⟩] at hI13
   refine Aa ?_
   refine AB (.t3 2 5 82) ?_
   refine AA (Ao (Ae (Gs (Gm rfl (Ga rfl (Gn (.t4 2 5 7 82) (CC ?_)))))))
   refine Gt (Af FB rfl) (Gt (AF rfl A1 .m0 Al.l2 rfl rfl) (Gt (CT rfl rfl) (Gn (.t5 2 5 7 82 87) ?_)))
   refine Gc (fun c7 => ?_) (fun c7 => ?_)
   ·
    refine Gs (Ga rfl (Gn (.t1 4) (Ab (AD (AO (AD (AD ?_)))))))
    refine AO (AO (AD ?_))
    refine AY rfl (.tmp rfl .n) ?_
    intro w1 hS; refine ⟨congrArg Value.bool ?_, hS.Ak⟩; rw [hI13]; simp only [c1, c2, c3, c4, c5, c6, c7, ↓reduceIte, Bool.false_eq_true]
   have c7p := kz c7
   refine Aa ?_
   refine AB (.t4 2 5 7 82) ?_
   refine AA (CC (Gm rfl (Gt (Ag rfl rfl) (Gm rfl (BW 90 rfl rfl (fun q => Af C8 rfl) (BW 90 rfl rfl (fun q => AF (cF rfl q) A1 .m0 Al.l3 rfl rfl) (BW 90 rfl rfl (fun q => A5 (cF rfl q) rfl) ?_)))))))
   refine Gt (BR rfl rfl (fun h => by rw [h]; rfl)) ?_
   refine Gm rfl (BW 95 rfl rfl (fun q => Af C8 rfl) (BW 95 rfl rfl (fun q => AF (cF rfl q) A1 .m0 Al.l3 rfl rfl) (BW 95 rfl rfl (fun q => CI (cF rfl q) rfl) ?_)))
   refine Gt (BR rfl rfl (fun h => by rw [h]; rfl)) ?_
   refine Gn (.t4 2 5 82 99) ?_
   refine Gc (fun c8 => ?_) (fun c8 => ?_)
   ·
    refine Gs (Ga rfl (Gn (.t1 4) (Ab (AD (AO (AD (AD ?_)))))))
    refine AO (AO (AD ?_))
    refine AY rfl (.tmp rfl .n) ?_
    intro w1 hS; refine ⟨congrArg Value.bool ?_, hS.Ak⟩; rw [hI13]; simp only [c1, c2, c3, c4, c5, c6, c7, c8, ↓reduceIte, Bool.false_eq_true]
   have c8p := kz c8
   refine Aa ?_
   refine AB (.t3 2 5 82) ?_
   refine AA (AI (Gt (Af C8 rfl) (Gt (AF rfl A1 .m0 Al.l3 rfl rfl) (Gt (Af Cq rfl) ?_))))
   refine Gt (AR Ff rfl rfl (by omega) (by omega)) ?_
   refine Gt (AZ rfl K2 .m1 (AH.l1.comp (AS.ar (n := 9) Al.fl (by omega))) rfl) ?_
   refine AQ (AJ (AS.id Al.fl.len Al.fl.one) rfl rfl rfl MT rfl .h) ?_
   refine AP (AB (.t3 2 5 82) ?_)
   refine AT (AA (AI ?_))
   refine Gt (Aw rfl rfl (IntWalk.i64_in _ (by omega))) ?_
   refine Gm rfl ?_
   refine AP (AB (.t3 2 5 82) ?_)
   refine DP (k + 1) (X.AX.at t.at_) ?_ ?_ (.t3 82 2 5) (.refl _)
   · exact ⟨by omega, by omega, by rw [hI13]; simp only [c1, c2, c3, c4, c5, c6, c7, c8, ↓reduceIte, Bool.false_eq_true]⟩
   · omega
  have c6p := kz c6
  obtain rfl : k = 10 := by omega
  refine Bb (AV (AV (Aj ?_)))
  refine AB (.nil _) ?_
  refine AT (AA (Gs (Ga rfl (AP (AA (Ab ?_))))))
  refine AY rfl (.tmp rfl .n) ?_
  intro w1 hS; refine ⟨congrArg Value.bool ?_, hS.Ak⟩; rw [hI13]; rfl
 refine Aa ?_
 refine AB (.nil _) ?_
 refine AT (AA (Gs (Ga rfl (AP (AA (Ab ?_))))))
 refine AY rfl (.tmp rfl .n) ?_
 intro w1 hS; refine ⟨congrArg Value.bool ?_, hS.Ak⟩; simp only [AH.Cb, c1, c2, c3, c4, ↓reduceIte, Bool.false_eq_true]
theorem G6 (X : AH) (w : World) : EF Tryz.prog 43 #[.agg X.enc.toArray] w fun v w' => v = .bool X.Bu ∧ B6 w w' := by
 refine Ai [] [] Tryz.func43 rfl rfl rfl (St.start w []) ?_
 refine Gs ?_
 refine Bv rfl rfl rfl (fun b1 => ?_)
 refine Ga rfl (Gn (.t1 1) (CC (Gt (Af GI rfl) (Gt (AZ rfl X9 .m0 AH.l0 rfl) (Gm rfl (Gn (.t3 1 11 12) (Ae ?_)))))))
 refine Bn (.t3 12 1 11) ?_
 refine CS (fun (k : Int) => 0 ≤ k ∧ k ≤ 6 ∧ X.Bu = (CA 6 X.LR (6 - k).toNat && (CA 6 (fun k => !AH.DY (X.AW.at k)) 6 && CA 9 X.Cb 9))) (fun (k : Int) => (6 - k).toNat) (fun (k : Int) => [(12, .int .i64 k)]) (fun (k : Int) => []) (0) ?_ rfl rfl (fun k hI1 => ?_)
 · exact ⟨Int.le_refl _, by omega, rfl⟩
 obtain ⟨hI11, hI12, hI13⟩ := hI1
 refine Gs (Gt (A5 rfl rfl) (AP (AA (Ao ?_))))
 refine Gc (fun c1 => ?_) (fun c1 => ?_)
 ·
  have c1p := kz c1
  rw [C2 _ (by omega)] at hI13
  refine Aa ?_
  refine AB (.t3 1 11 12) ?_
  refine AA (Ao (Ae (Gs ?_)))
  refine Gt (Fl Room.fl Tryz.underlying27 MG rfl rfl (by omega) (by omega)) ?_
  refine BD rfl NL rfl (fun b2 => ?_)
  refine AQ (AJ (AS.id Room.fl.len Room.fl.one) rfl rfl rfl P4 rfl .h) ?_
  refine Gn (.t4 1 4 11 12) (Gs (Gt (Af LZ rfl) (Gt (AZ rfl U8 .m0 Room.l2 rfl) (Gm rfl (Gn (.t6 1 4 11 12 16 17) (Ae ?_))))))
  refine Bn (.t6 17 1 4 11 12 16) ?_
  refine CS (fun (d : Int) => 0 ≤ d ∧ d ≤ 6 ∧ X.LR k = CA 6 (fun d => !AH.Ic (X.Bz.at k) d) (6 - d).toNat) (fun (d : Int) => (6 - d).toNat) (fun (d : Int) => [(17, .int .i64 d)]) (fun (d : Int) => []) (0) ?_ rfl rfl (fun d hI2 => ?_)
  · exact ⟨Int.le_refl _, by omega, rfl⟩
  obtain ⟨hI21, hI22, hI23⟩ := hI2
  refine Gs (Gt (A5 rfl rfl) (AP (AA (Ao ?_))))
  refine Gc (fun c2 => ?_) (fun c2 => ?_)
  ·
   have c2p := kz c2
   rw [C2 _ (by omega)] at hI23
   refine Aa ?_
   refine AB (.t6 1 4 11 12 16 17) ?_
   refine AA (Ao (Ae (Gs (Gm rfl ?_))))
   refine Gt (Jh B0 Tryz.underlying23 C4 A1 rfl rfl (by omega) (by omega) rfl) ?_
   refine Ga rfl (Ga rfl (Gn (.t8 1 4 5 6 11 12 16 17) (Gs (Gm rfl (Gt (A5 rfl rfl) (Gm rfl (BW 23 rfl rfl (fun q => AE rfl) ?_)))))))
   refine BW 23 rfl rfl (fun q => Ce (cF rfl q) rfl) ?_
   refine Gt (BR rfl rfl (fun h => by rw [h]; rfl)) ?_
   refine Gm rfl (BW 27 rfl rfl (fun q => AE rfl) (BW 27 rfl rfl (fun q => Ag (cF rfl q) rfl) (BW 27 rfl rfl (fun q => AE (cF rfl q)) ?_)))
   refine DE (t := 30) rfl rfl rfl (fun qc q => AE rfl) ?_
   refine DE (t := 30) rfl rfl rfl (fun qc q => Af La rfl) ?_
   refine DE (t := 30) rfl rfl rfl (fun qc q => by have q1 := q; have qc1 := qc; (try simp at q1 qc1); exact AR Ue (BV rfl (by rw [qc, q]; rfl)) (BV rfl (by rw [qc, q]; rfl)) (by omega) (by omega)) ?_
   refine DE (t := 30) rfl rfl rfl (fun qc q => by have q1 := q; have qc1 := qc; (try simp at q1 qc1); exact AF (BV rfl (by rw [qc, q]; rfl)) Cu .m0 (Room.l3.comp (AS.ar (n := 6) Gf (by omega))) rfl rfl) ?_
   refine BW 27 rfl rfl (fun q => BG (cF rfl q) rfl (fun h => by rw [q, h]; rfl)) ?_
   refine Gt (BR rfl rfl (fun h => by rw [h]; rfl)) ?_
   refine Gn (.t7 1 4 11 12 16 17 36) ?_
   refine Gc (fun c3 => ?_) (fun c3 => ?_)
   ·
    refine Gs (Ga rfl (Gn (.t1 2) (Ab (AO (AD (AD (AO ?_)))))))
    refine AO (AD (AD (AO (AD ?_))))
    refine AY rfl (.tmp rfl .n) ?_
    intro w1 hS; refine ⟨congrArg Value.bool ?_, hS.Ak⟩; rw [hI13, hI23, AH.Ic, c3]; rfl
   have c3p := kz c3
   refine Aa ?_
   refine AB (.t6 1 4 11 12 16 17) ?_
   refine AT (AA (AI ?_))
   refine Gt (Aw rfl rfl (IntWalk.i64_in _ (by omega))) ?_
   refine Gm rfl ?_
   refine AP (AB (.t6 1 4 11 12 16 17) ?_)
   refine B2 (d + 1) ?_ ?_ (.t6 17 1 4 11 12 16) (.refl _)
   · exact ⟨by omega, by omega, by rw [hI23, AH.Ic, c3]; rfl⟩
   · omega
  have c2p := kz c2
  obtain rfl : d = 6 := by omega
  refine Bb (AV (AV (Aj ?_)))
  refine AB (.t3 1 11 12) ?_
  refine AT (AA (AI ?_))
  refine Gt (Aw rfl rfl (IntWalk.i64_in _ (by omega))) ?_
  refine Gm rfl ?_
  refine AP (AB (.t3 1 11 12) ?_)
  refine B2 (k + 1) ?_ ?_ (.t3 12 1 11) (.cons _ (.refl _))
  · exact ⟨by omega, by omega, by rw [hI13, hI23]; rfl⟩
  · omega
 have c1p := kz c1
 obtain rfl : k = 6 := by omega
 refine Bb (AV (AV (Aj ?_)))
 refine AB (.t1 1) ?_
 refine AA (CC (Gt (Af Bj rfl) (Gt (AZ rfl Vp .m0 AH.l2 rfl) (Gm rfl (Gn (.t3 1 40 41) (Ae ?_))))))
 refine Bn (.t3 41 1 40) ?_
 refine CS (fun (b : Int) => 0 ≤ b ∧ b ≤ 6 ∧ X.Bu = (CA 6 (fun k => !AH.DY (X.AW.at k)) (6 - b).toNat && CA 9 X.Cb 9)) (fun (b : Int) => (6 - b).toNat) (fun (b : Int) => [(41, .int .i64 b)]) (fun (b : Int) => []) (0) ?_ rfl rfl (fun b hI3 => ?_)
 · exact ⟨Int.le_refl _, by omega, hI13⟩
 obtain ⟨hI31, hI32, hI33⟩ := hI3
 refine Gs (Gt (A5 rfl rfl) (AP (AA (Ao ?_))))
 refine Gc (fun c4 => ?_) (fun c4 => ?_)
 ·
  have c4p := kz c4
  rw [C2 _ (by omega)] at hI33
  refine Aa ?_
  refine AB (.t3 1 40 41) ?_
  refine AA (Ao (Ae (Gs ?_)))
  refine Gt (Fl Am.fl Tryz.underlying33 FE rfl rfl (by omega) (by omega)) ?_
  refine BD rfl K3 rfl (fun b3 => ?_)
  refine AQ (AJ (AS.id Am.fl.len Am.fl.one) rfl rfl rfl Jr rfl .h) ?_
  refine Gn (.t4 1 8 40 41) (Gs (Gt (Af Cx rfl) (Gt (AF rfl A1 .m0 Am.l3 rfl rfl) (Gt (A5 rfl rfl) (Gm rfl (BW 47 rfl rfl (fun q => Af Cx rfl) (BW 47 rfl rfl (fun q => AF (cF rfl q) A1 .m0 Am.l3 rfl rfl) ?_)))))))
  refine BW 47 rfl rfl (fun q => CI (cF rfl q) rfl) ?_
  refine Gt (BR rfl rfl (fun h => by rw [h]; rfl)) ?_
  refine Gm rfl (BW 52 rfl rfl (fun q => Af I1 rfl) (BW 52 rfl rfl (fun q => AF (cF rfl q) A1 .m0 Am.l4 rfl rfl) (BW 52 rfl rfl (fun q => A5 (cF rfl q) rfl) ?_)))
  refine Gt (BR rfl rfl (fun h => by rw [h]; rfl)) ?_
  refine Gm rfl (BW 57 rfl rfl (fun q => Af I1 rfl) (BW 57 rfl rfl (fun q => AF (cF rfl q) A1 .m0 Am.l4 rfl rfl) (BW 57 rfl rfl (fun q => Ce (cF rfl q) rfl) ?_)))
  refine Gt (BR rfl rfl (fun h => by rw [h]; rfl)) ?_
  refine Gm rfl (BW 62 rfl rfl (fun q => Af Fj rfl) (BW 62 rfl rfl (fun q => AF (cF rfl q) A1 .m0 Am.l5 rfl rfl) (BW 62 rfl rfl (fun q => A5 (cF rfl q) rfl) ?_)))
  refine Gt (BR rfl rfl (fun h => by rw [h]; rfl)) ?_
  refine Gm rfl (BW 67 rfl rfl (fun q => Af Fj rfl) (BW 67 rfl rfl (fun q => AF (cF rfl q) A1 .m0 Am.l5 rfl rfl) (BW 67 rfl rfl (fun q => Ce (cF rfl q) rfl) ?_)))
  refine Gt (BR rfl rfl (fun h => by rw [h]; rfl)) ?_
  refine Gm rfl (BW 72 rfl rfl (fun q => Af Ho rfl) (BW 72 rfl rfl (fun q => AF (cF rfl q) Cu .m0 Am.l1 rfl rfl) (BW 72 rfl rfl (fun q => BO (cF rfl q)) (BW 72 rfl rfl (fun q => AE (cF rfl q)) ?_))))
  refine DE (t := 76) rfl rfl rfl (fun qc q => Af Fj rfl) ?_
  refine DE (t := 76) rfl rfl rfl (fun qc q => AF (BV rfl (by rw [qc, q]; rfl)) A1 .m0 Am.l5 rfl rfl) ?_
  refine DE (t := 76) rfl rfl rfl (fun qc q => CT (BV rfl (by rw [qc, q]; rfl)) rfl) ?_
  refine BW 72 rfl rfl (fun q => BG (cF rfl q) rfl (fun h => by rw [q, h]; rfl)) ?_
  refine Gt (BR rfl rfl (fun h => by rw [h]; rfl)) ?_
  refine Gm rfl (BW 82 rfl rfl (fun q => Af Ho rfl) (BW 82 rfl rfl (fun q => AF (cF rfl q) Cu .m0 Am.l1 rfl rfl) (BW 82 rfl rfl (fun q => Af I1 rfl) (BW 82 rfl rfl (fun q => AF (cF rfl q) A1 .m0 Am.l4 rfl rfl) (BW 82 rfl rfl (fun q => Ce (cF rfl q) rfl) (BW 82 rfl rfl (fun q => I5 Tryz.underlying4 (cF rfl q) (cF rfl q)) ?_))))))
  refine Gt (BR rfl rfl (fun h => by rw [h]; rfl)) ?_
  refine Gn (.t4 1 40 41 89) ?_
  refine Gc (fun c5 => ?_) (fun c5 => ?_)
  ·
   refine Gs (Ga rfl (Gn (.t1 2) (Ab (AO (AD (AD (AO ?_)))))))
   refine AD ?_
   refine AY rfl (.tmp rfl .n) ?_
   intro w1 hS; refine ⟨congrArg Value.bool ?_, hS.Ak⟩; rw [hI33, AH.DY, c5]; rfl
  have c5p := kz c5
  refine Aa ?_
  refine AB (.t3 1 40 41) ?_
  refine AT (AA (AI ?_))
  refine Gt (Aw rfl rfl (IntWalk.i64_in _ (by omega))) ?_
  refine Gm rfl ?_
  refine AP (AB (.t3 1 40 41) ?_)
  refine B2 (b + 1) ?_ ?_ (.t3 41 1 40) (.cons _ (.refl _))
  · exact ⟨by omega, by omega, by rw [hI33, AH.DY, c5]; rfl⟩
  · omega
 have c4p := kz c4
 obtain rfl : b = 6 := by omega
 refine Bb (AV (AV (Aj ?_)))
 refine AB (.t1 1) ?_
 refine AA (CC (Gm rfl (AP (AA (Ae ?_)))))
 refine Bn (.t2 91 1) ?_
 refine CS (fun (t : Int) => 0 ≤ t ∧ t ≤ 9 ∧ X.Bu = CA 9 X.Cb (9 - t).toNat) (fun (t : Int) => (9 - t).toNat) (fun (t : Int) => [(91, .int .i64 t)]) (fun (t : Int) => []) (0) ?_ rfl rfl (fun t hI4 => ?_)
 · exact ⟨Int.le_refl _, by omega, hI33⟩
 obtain ⟨hI41, hI42, hI43⟩ := hI4
 refine Gs (Gt (A5 rfl rfl) (AP (AA (Ao ?_))))
 refine Gc (fun c6 => ?_) (fun c6 => ?_)
 ·
  have c6p := kz c6
  rw [C2 _ (by omega)] at hI43
  refine Aa ?_
  refine AB (.t2 1 91) ?_
  refine AA (Ao (Ae (Gs (Gm rfl (Ga rfl (Gn (.t3 1 9 91) (Gs ?_)))))))
  refine Gt (AZ rfl BT .m0 (AS.id AH.fl.len AH.fl.one) rfl) (Gm rfl ?_)
  refine A8 rfl cH (.c rfl (.c rfl .n)) (fun w hS => Jn X _ (by omega) (by omega) w) ?_
  refine Gt (BO rfl) (Gn (.t3 1 91 97) ?_)
  refine Gc (fun c7 => ?_) (fun c7 => ?_)
  ·
   refine Gs (Ga rfl (Gn (.t1 2) (Ab (AO (AD (AD (AO ?_)))))))
   refine AD ?_
   refine AY rfl (.tmp rfl .n) ?_
   intro w1 hS; refine ⟨congrArg Value.bool ?_, hS.Ak⟩; rw [hI43, show X.Cb t = false by simpa using c7]; rfl
  have c7p := kz c7
  refine Aa ?_
  refine AB (.t2 1 91) ?_
  refine AT (AA (AI ?_))
  refine Gt (Aw rfl rfl (IntWalk.i64_in _ (by omega))) ?_
  refine Gm rfl ?_
  refine AP (AB (.t2 1 91) ?_)
  refine B2 (t + 1) ?_ ?_ (.t2 91 1) (.refl _)
  · exact ⟨by omega, by omega, by rw [hI43, show X.Cb t = true by simpa using c7]; rfl⟩
  · omega
 have c6p := kz c6
 obtain rfl : t = 9 := by omega
 refine Bb (AV (AV (Aj ?_)))
 refine AB (.nil _) ?_
 refine AA (Gs (Ga rfl (AP (AA (Ab ?_)))))
 refine AY rfl (.tmp rfl .n) ?_
 intro w1 hS; refine ⟨congrArg Value.bool ?_, hS.Ak⟩; rw [hI43]; rfl
theorem Ll (s : As) (hs : s.length ≤ 100000000) (w : World) : EF Tryz.prog 46 #[BQ s] w fun v w' => v = .bool (AG.Jb s) ∧ B6 w w' := by
 refine Ai [] [] Tryz.func46 rfl rfl rfl (St.start w []) ?_
 refine Gs (Ga rfl (Gn (.t1 0) (CC (Gm rfl (Gt (BH rfl Tryz.underlying9 rfl) (Gm rfl (Gn (.t3 0 5 6) ?_)))))))
 refine Ae ?_
 refine Bn (.t3 6 0 5) ?_
 refine CS (fun (k : Int) => 0 ≤ k ∧ k ≤ (s.length : Int) ∧ AG.HG s 0 = AG.HG s k.toNat) (fun (k : Int) => ((s.length : Int) - k).toNat) (fun (k : Int) => [(6, .int .i64 k)]) (fun (k : Int) => []) (0) ?_ rfl rfl (fun k hI1 => ?_)
 · exact ⟨by omega, by omega, rfl⟩
 obtain ⟨hI11, hI12, hI13⟩ := hI1
 refine Gs (Gt (A5 rfl rfl) (AP (AA (Ao ?_))))
 refine Gc (fun c1 => ?_) (fun c1 => ?_)
 ·
  have c1p := kz c1
  have hst := AG.Ur (s := s) hI11 (by omega)
  refine Aa ?_
  refine AB (.t3 0 5 6) ?_
  refine AA (Ao (Ae (Gs (Gm rfl (Ga rfl (Gn (.t4 0 3 5 6) (Gs ?_)))))))
  refine Gm rfl (Gm rfl ?_)
  refine Gt (Bh Tryz.underlying9 rfl rfl (by omega) (by omega)) ?_
  refine Gt (A5 rfl rfl) (Gm rfl (BW 13 rfl rfl (fun q => AE rfl) (BW 13 rfl rfl (fun q => AE rfl) ?_)))
  refine BW 13 rfl rfl (fun q => by have q1 := q; (try simp at q1); exact Bh Tryz.underlying9 (cF rfl q) (cF rfl q) (by omega) (by omega)) ?_
  refine BW 13 rfl rfl (fun q => Ce (cF rfl q) rfl) ?_
  refine Gt (BR rfl rfl (fun h => by rw [h]; rfl)) ?_
  refine Gn (.t4 0 5 6 18) ?_
  refine Gc (fun c2 => ?_) (fun c2 => ?_)
  ·
   rw [show AG.low (s.getD k.toNat 0) = true from c2] at hst
   refine Gs (Ga rfl (Gn (.t1 2) (Ab (AO (AD (AD (AO ?_)))))))
   refine AD ?_
   refine AY rfl (.tmp rfl .n) ?_
   intro w1 hS; refine ⟨?_, hS.Ak⟩; exact congrArg Value.bool (by rw [AG.Jb, hI13, hst]; rfl)
  have c2p := kz c2
  rw [show AG.low (s.getD k.toNat 0) = false from c2] at hst
  refine Aa ?_
  refine AB (.t3 0 5 6) ?_
  refine AT (AA (AI ?_))
  refine Gt (Aw rfl rfl (IntWalk.i64_in _ (by omega))) ?_
  refine Gm rfl ?_
  refine AP (AB (.t3 0 5 6) ?_)
  refine B2 (k + 1) ?_ ?_ (.t3 6 0 5) (.refl _)
  · exact ⟨by omega, by omega, by rw [hI13, hst]; rfl⟩
  · omega
 have c1p := kz c1
 obtain rfl : k = (s.length : Int) := by omega
 rw [AG.WV] at hI13
 refine Bb (AV (AV (Aj ?_)))
 refine AB (.t1 0) ?_
 refine AA (Gs (Gm rfl (Gt (BH rfl Tryz.underlying9 rfl) (Gt (CI rfl rfl) (Gm rfl (BZ 23 rfl rfl (fun q => AE rfl) (BZ 23 rfl rfl (fun q => BH rfl Tryz.underlying9 (BV rfl q)) ?_)))))))
 refine BZ 23 rfl rfl (fun q => Hn (BV rfl q) rfl) (Gt (BG rfl rfl (fun h => h)) (Gm rfl (BZ 28 rfl rfl (fun q => AE rfl) (BZ 28 rfl rfl (fun q => DW (BV rfl q) rfl) (Gt (BG rfl rfl (fun h => h)) (Gm rfl (BZ 32 rfl rfl (fun q => AE rfl) ?_)))))))
 refine BZ 32 rfl rfl (fun q => DW (BV rfl q) rfl) (Gt (BG rfl rfl (fun h => h)) (Ga rfl (Gn (.t1 2) (Ab ?_))))
 refine AY rfl (.tmp rfl .n) ?_
 intro w1 hS; refine ⟨?_, hS.Ak⟩; exact congrArg Value.bool (by rw [AG.Jb, hI13]; simp only [Bool.true_and]; rfl)
theorem Fh (X : AH) (b : Int) (w : World) : EF Tryz.prog 159 #[.agg X.enc.toArray, .int .i64 b] w fun v w' => v = .bool (X.A7 b) ∧ B6 w w' := by
 refine Ai [] [] Tryz.func159 rfl rfl rfl (St.start w []) ?_
 refine Gs ?_
 refine Bv rfl rfl rfl (fun b1 => ?_)
 refine Ga rfl (Gn (.t2 1 2) (Gs (Gm rfl (Gt (CI rfl rfl) (Gm rfl (BZ 7 rfl rfl (fun q => AE rfl) (BZ 7 rfl rfl (fun q => A5 (BV rfl q) rfl) ?_)))))))
 refine Gt (BG rfl rfl (fun h => h)) (Gm rfl (BZ 11 rfl rfl (fun q => AE rfl) (BZ 11 rfl rfl (fun q => Af Bj rfl) ?_)))
 refine BZ 11 rfl rfl (fun q => by have q1 := q; (try simp at q1); exact AR Cz (BV rfl q) (BV rfl q) (by omega) (by omega)) ?_
 refine BZ 11 rfl rfl (fun q => Af Ho (BV rfl q)) ?_
 refine BZ 11 rfl rfl (fun q => by have q1 := q; (try simp at q1); exact AF (BV rfl q) Cu .m0 ((AH.l2.comp (AS.ar (n := 6) Am.fl (by omega))).comp Am.l1) rfl rfl) ?_
 refine Gt (BG rfl rfl (fun h => h)) (Ga rfl (Gn (.t1 4) (Ab ?_)))
 refine AY rfl (.tmp rfl .n) ?_
 intro w1 hS; refine ⟨?_, hS.Ak⟩; rfl
theorem Ny (X : AH) (i : Int) (w : World) : EF Tryz.prog 19 #[.agg X.enc.toArray, .int .i64 i] w fun v w' => v = .tuple #[.int .i64 (X.room i).1, .bool (X.room i).2] ∧ B6 w w' := by
 refine Ai [] [] Tryz.func19 rfl rfl rfl (St.start w []) ?_
 refine Gs ?_
 refine Bv rfl rfl rfl (fun b1 => ?_)
 refine Ga rfl (Ga rfl (Gn (.t2 1 2) (Gs (Ga rfl (AP (AA (CC ?_)))))))
 refine Gm rfl (AP (AA (Ae ?_)))
 refine Bn (.t4 1 6 8 2) ?_
 refine Dk (fun (k : Int) (j : Int) (o : Bool) => 0 ≤ k ∧ k ≤ 10 ∧ X.room i = X.I6 (10 - k).toNat j o) (fun (k : Int) (j : Int) (o : Bool) => (10 - k).toNat) (fun (k : Int) (j : Int) (o : Bool) => [(1, .int .i64 j), (6, .bool o), (8, .int .i64 k)]) (fun (k : Int) (j : Int) (o : Bool) => []) (0) (i) (true) ?_ rfl rfl (fun k j o hI1 => ?_)
 · exact ⟨Int.le_refl _, by omega, rfl⟩
 obtain ⟨hI11, hI12, hI13⟩ := hI1
 refine Gs (Gt (A5 rfl rfl) (AP (AA (Ao ?_))))
 refine Gc (fun c1 => ?_) (fun c1 => ?_)
 ·
  have c1p := kz c1
  rw [show (10 - k).toNat = (10 - (k + 1)).toNat + 1 from by omega, AH.I6] at hI13
  refine Aa ?_
  refine AB (.t4 1 2 6 8) ?_
  refine AA (Ao (Ae (CC (Gm rfl (Gt (A5 rfl rfl) (Gm rfl (BW 12 rfl rfl (fun q => AE rfl) ?_)))))))
  refine BW 12 rfl rfl (fun q => CI (cF rfl q) rfl) ?_
  refine Gt (BR rfl rfl (fun h => by rw [h]; rfl)) ?_
  refine Gn (.t5 1 2 6 8 15) ?_
  refine Gc (fun c2 => ?_) (fun c2 => ?_)
  ·
   refine Gs (Ga rfl (Ga rfl (Gn (.t2 4 5) (Ab (AD (AO (AD ?_)))))))
   refine AD (AO (AD ?_))
   refine AY rfl (.tmp rfl (.tmp rfl .n)) ?_
   intro w1 hS; refine ⟨?_, hS.Ak⟩; rw [hI13]; simp only [c1, c2, ↓reduceIte, Bool.false_eq_true]; rfl
  have c2p := kz c2
  refine Aa ?_
  refine AB (.t4 1 2 6 8) ?_
  refine AA (Gs (Gm rfl (Gt (Af Cq rfl) ?_)))
  refine Gt (AR Ff rfl rfl (by omega) (by omega)) ?_
  refine Gt (AZ rfl K2 .m0 (AH.l1.comp (AS.ar (n := 9) Al.fl (by omega))) rfl) ?_
  refine BD rfl Js rfl (fun b2 => ?_)
  refine AQ (AJ (AS.id Al.fl.len Al.fl.one) rfl rfl rfl MT rfl .h) ?_
  refine Gn (.t4 2 6 7 8) (CC (Gt (Af FB rfl) (Gt (AF rfl A1 .m0 Al.l2 rfl rfl) (Gn (.t5 2 6 7 8 21) (Ae (Gs (Gt (Ag rfl rfl) ?_)))))))
  refine Ga rfl (Gn (.t6 2 6 7 8 21 22) ?_)
  refine Gc (fun c3 => ?_) (fun c3 => ?_)
  ·
   refine Gs (Gt (Af C8 rfl) (Gt (AF rfl A1 .m0 Al.l3 rfl rfl) (Gm rfl (Ga rfl (Ga rfl (Gn (.t2 4 5) (Ab ?_)))))))
   refine AO (AD (AO (AD (AD (AO (AD ?_))))))
   refine AY rfl (.tmp rfl (.tmp rfl .n)) ?_
   intro w1 hS; refine ⟨?_, hS.Ak⟩; rw [hI13]; simp only [c1, c2, c3, ↓reduceIte, Bool.false_eq_true]; rfl
  have c3p := kz c3
  refine Gs (Gt (Ag rfl rfl) (Ga rfl (Gn (.t6 2 6 7 8 21 27) ?_)))
  refine Gc (fun c4 => ?_) (fun c4 => ?_)
  ·
   have c4p := kz c4
   refine CC (Gt (Af C8 rfl) (Gt (AF rfl A1 .m0 Al.l3 rfl rfl) (Gt (A5 rfl rfl) (Gm rfl (BW 32 rfl rfl (fun q => Af C8 rfl) (BW 32 rfl rfl (fun q => AF (cF rfl q) A1 .m0 Al.l3 rfl rfl) (BW 32 rfl rfl (fun q => CI (cF rfl q) rfl) ?_)))))))
   refine Gt (BR rfl rfl (fun h => by rw [h]; rfl)) ?_
   refine Gn (.t4 2 6 7 36) ?_
   refine Gc (fun c5 => ?_) (fun c5 => ?_)
   ·
    refine Gs (Ga rfl (Ga rfl (Gn (.t2 4 5) (Ab (AD (AO (AD ?_)))))))
    refine AO (AD (AD (AO (AD ?_))))
    refine AY rfl (.tmp rfl (.tmp rfl .n)) ?_
    intro w1 hS; refine ⟨?_, hS.Ak⟩; rw [hI13]; simp only [c1, c2, c3, c4, c5, ↓reduceIte, Bool.false_eq_true]; rfl
   have c5p := kz c5
   refine Aa ?_
   refine AB (.t3 2 6 7) ?_
   refine AA (Gs (Gt (Af C8 rfl) (Gt (AF rfl A1 .m0 Al.l3 rfl rfl) (Gt (Af Bj rfl) ?_))))
   refine Gt (AR Cz rfl rfl (by omega) (by omega)) ?_
   refine Gt (Af Cx rfl) ?_
   refine Gt (AF rfl A1 .m1 ((AH.l2.comp (AS.ar (n := 6) Am.fl (by omega))).comp Am.l3) rfl rfl) ?_
   refine Gm rfl (Ga rfl (Ga rfl (Gn (.t2 4 5) (Ab (AO (AD (AO ?_)))))))
   refine AD (AD (AO (AD ?_)))
   refine AY rfl (.tmp rfl (.tmp rfl .n)) ?_
   intro w1 hS; refine ⟨?_, hS.Ak⟩; rw [hI13]; simp only [c1, c2, c3, c4, c5, ↓reduceIte, Bool.false_eq_true]; rfl
  have c4p := kz c4
  refine Gs (Gt (Ag rfl rfl) (Ga rfl (Gn (.t5 2 6 7 8 44) ?_)))
  refine Gc (fun c6 => ?_) (fun c6 => ?_)
  ·
   have c6p := kz c6
   refine Aa ?_
   refine AB (.t4 2 6 7 8) ?_
   refine AT (AA (Gs (Gt (Af C8 rfl) (Gt (AF rfl A1 .m0 Al.l3 rfl rfl) (Ga rfl (Gn (.t4 1 2 6 8) (Gs ?_)))))))
   refine Gm rfl (Gt (CI rfl rfl) (Gm rfl (BZ 50 rfl rfl (fun q => AE rfl) (BZ 50 rfl rfl (fun q => A5 (BV rfl q) rfl) (Gt (BG rfl rfl (fun h => h)) (Gm rfl (BZ 54 rfl rfl (fun q => AE rfl) ?_)))))))
   refine BZ 54 rfl rfl (fun q => Af Cq rfl) ?_
   refine BZ 54 rfl rfl (fun q => by have q1 := q; (try simp at q1); exact AR Ff (BV rfl q) (BV rfl q) (by omega) (by omega)) ?_
   refine BZ 54 rfl rfl (fun q => Af Fg (BV rfl q)) ?_
   refine BZ 54 rfl rfl (fun q => by have q1 := q; (try simp at q1); exact AF (BV rfl q) Cu .m1 ((AH.l1.comp (AS.ar (n := 9) Al.fl (by omega))).comp Al.l4) rfl rfl) ?_
   refine BZ 54 rfl rfl (fun q => BO (BV rfl q)) (Gt (BG rfl rfl (fun h => h)) (Gn (.t5 1 2 6 8 61) ?_))
   refine Gc (fun c7 => ?_) (fun c7 => ?_)
   ·
    have c7p := kz c7
    refine AI (Ga rfl ?_)
    refine AP (AB (.t4 1 2 6 8) ?_)
    refine AT (AA (AI ?_))
    refine Gt (Aw rfl rfl (IntWalk.i64_in _ (by omega))) ?_
    refine Gm rfl ?_
    refine AP (AB (.t4 1 2 6 8) ?_)
    refine Bw (k + 1) ((X.AX.at j).at_) (false) ?_ ?_ (.t4 1 6 8 2) (.cons _ (.refl _))
    · exact ⟨by omega, by omega, by rw [hI13]; simp only [c1, c2, c3, c4, c6, c7, ↓reduceIte, Bool.false_eq_true]⟩
    · omega
   have c7p := kz c7
   refine Aa ?_
   refine AB (.t4 1 2 6 8) ?_
   refine AT (AA (AI ?_))
   refine Gt (Aw rfl rfl (IntWalk.i64_in _ (by omega))) ?_
   refine Gm rfl ?_
   refine AP (AB (.t4 1 2 6 8) ?_)
   refine Bw (k + 1) ((X.AX.at j).at_) (o) ?_ ?_ (.t4 1 6 8 2) (.cons _ (.refl _))
   · exact ⟨by omega, by omega, by rw [hI13]; simp only [c1, c2, c3, c4, c6, c7, ↓reduceIte, Bool.false_eq_true]⟩
   · omega
  refine Gs (Ga rfl (Ga rfl (Gn (.t2 4 5) (Ab (AO (AD (AO ?_)))))))
  refine AD (AD (AO (AD ?_)))
  refine AY rfl (.tmp rfl (.tmp rfl .n)) ?_
  intro w1 hS; refine ⟨?_, hS.Ak⟩; rw [hI13]; simp only [c1, c2, c3, c4, c6, ↓reduceIte, Bool.false_eq_true]; rfl
 have c1p := kz c1
 obtain rfl : k = 10 := by omega
 refine Bb (AV (AV (Aj ?_)))
 refine AB (.nil _) ?_
 refine AA (Gs (Ga rfl (Ga rfl (AP (AA (Ab ?_))))))
 refine AY rfl (.tmp rfl (.tmp rfl .n)) ?_
 intro w1 hS; refine ⟨?_, hS.Ak⟩; rw [hI13]; rfl
theorem EJ (X : AH) (r : Int) (w : World) : EF Tryz.prog 129 #[.agg X.enc.toArray, .int .i64 r] w fun v w' => v = .bool (X.G1 r) ∧ B6 w w' := by
 refine Ai [] [] Tryz.func129 rfl rfl rfl (St.start w []) ?_
 refine Gs ?_
 refine Bv rfl rfl rfl (fun b1 => ?_)
 refine Ga rfl (Gn (.t2 1 2) (CC (Gm rfl (Gt (A5 rfl rfl) (Gm rfl (BW 11 rfl rfl (fun q => AE rfl) (BW 11 rfl rfl (fun q => CI (cF rfl q) rfl) ?_)))))))
 refine Gt (BR rfl rfl (fun h => by rw [h]; rfl)) ?_
 refine Gn (.t3 1 2 14) ?_
 refine Gc (fun c1 => ?_) (fun c1 => ?_)
 ·
  refine Gs (Ga rfl (Gn (.t1 4) (Ab (AD ?_))))
  refine AY rfl (.tmp rfl .n) ?_
  intro w1 hS; refine ⟨congrArg Value.bool ?_, hS.Ak⟩; rw [show X.G1 r = _ from BA c1]
 have c1p := kz c1
 have hr : 0 ≤ r ∧ r < 6 := by simp at c1; omega
 refine Aa ?_
 refine AB (.t2 1 2) ?_
 refine AA (CC (Gm rfl (Gt (Af GI rfl) ?_)))
 refine Gt (AR Nd rfl rfl (by omega) (by omega)) ?_
 refine Gt (Af Yy rfl) ?_
 refine Gt (AF rfl Cu .m0 ((AH.l0.comp (AS.ar (n := 6) Room.fl (by omega))).comp Room.l1) rfl rfl) ?_
 refine Gt (BO rfl) (Gn (.t3 1 2 20) ?_)
 refine Gc (fun c2 => ?_) (fun c2 => ?_)
 ·
  refine Gs (Ga rfl (Gn (.t1 4) (Ab (AD ?_))))
  refine AY rfl (.tmp rfl .n) ?_
  intro w1 hS; refine ⟨congrArg Value.bool ?_, hS.Ak⟩; rw [show X.G1 r = _ from (AU c1).trans (BA c2)]
 have c2p := kz c2
 refine Aa ?_
 refine AB (.t2 1 2) ?_
 refine AA (CC (Gt (Af Cq rfl) (Gt (AZ rfl S8 .m0 AH.l1 rfl) (Gm rfl (Gn (.t4 1 2 22 23) (Ae ?_))))))
 refine Bn (.t4 23 1 2 22) ?_
 refine CS (fun (k : Int) => 0 ≤ k ∧ k ≤ 9 ∧ CA 9 (fun i => !X.lit r i) 9 = CA 9 (fun i => !X.lit r i) (9 - k).toNat) (fun (k : Int) => (9 - k).toNat) (fun (k : Int) => [(23, .int .i64 k)]) (fun (k : Int) => []) (0) ?_ rfl rfl (fun k hI1 => ?_)
 · exact ⟨by omega, by omega, rfl⟩
 obtain ⟨hI11, hI12, hI13⟩ := hI1
 refine Gs (Gt (A5 rfl rfl) (AP (AA (Ao ?_))))
 refine Gc (fun c3 => ?_) (fun c3 => ?_)
 ·
  have c3p := kz c3
  rw [C2 _ (by omega)] at hI13
  refine Aa ?_
  refine AB (.t4 1 2 22 23) ?_
  refine AA (Ao (Ae (Gs (Gm rfl ?_))))
  refine Gt (Fl Al.fl Tryz.underlying30 K2 rfl rfl (by omega) (by omega)) ?_
  refine BD rfl Js rfl (fun b2 => ?_)
  refine Ga rfl ?_
  refine AQ (AJ (AS.id Al.fl.len Al.fl.one) rfl rfl rfl MT rfl .h) ?_
  refine Gn (.t6 1 2 5 6 22 23) (CC (Gt (Af GG rfl) (Gt (AF rfl A1 .m0 Al.l1 rfl rfl) (Gt (CT rfl rfl) (Gm rfl (BW 30 rfl rfl (fun q => Af Fg rfl) (BW 30 rfl rfl (fun q => AF (cF rfl q) Cu .m0 Al.l4 rfl rfl) ?_)))))))
  refine BW 30 rfl rfl (fun q => BO (cF rfl q)) ?_
  refine Gt (BR rfl rfl (fun h => by rw [h]; rfl)) ?_
  refine Gn (.t6 1 2 5 22 23 34) ?_
  refine Gc (fun c4 => ?_) (fun c4 => ?_)
  ·
   have c4p := kz c4
   refine Bb (AV (Aj ?_))
   refine AB (.t4 1 2 22 23) ?_
   refine AA (AI ?_)
   refine Gt (Aw rfl rfl (IntWalk.i64_in _ (by omega))) ?_
   refine Gm rfl ?_
   refine AP (AB (.t4 1 2 22 23) ?_)
   refine B2 (k + 1) ?_ ?_ (.t4 23 1 2 22) (.cons _ (.refl _))
   · exact ⟨by omega, by omega, by rw [hI13, show X.lit r k = false from by rw [AH.lit, c4]; first | rfl | exact Bool.and_false _]; rfl⟩
   · omega
  have c4p := kz c4
  refine Aa ?_
  refine AB (.t5 1 2 5 22 23) ?_
  refine AA (Gs (Gt (AZ rfl BT .m1 (AS.id AH.fl.len AH.fl.one) rfl) (Gm rfl ?_)))
  refine A8 rfl bS (.c rfl (.c rfl .n)) (fun w hS => Ny _ _ w) ?_
  refine Gm rfl (Gt (AL rfl rfl) (Gt (AL rfl rfl) (Ga rfl (Ga rfl (Gn (.t6 1 2 7 8 22 23) (Gs (Gm rfl ?_)))))))
  refine Gm rfl (Gt (Ag rfl rfl) (Gm rfl (BZ 44 rfl rfl (fun q => AE rfl) (Gt (BG rfl rfl (fun h => h)) (Gn (.t5 1 2 22 23 46) ?_)))))
  refine Gc (fun c5 => ?_) (fun c5 => ?_)
  ·
   refine Gs (Ga rfl (Gn (.t1 4) (Ab (AO (AD (AD (AO ?_)))))))
   refine AD ?_
   refine AY rfl (.tmp rfl .n) ?_
   intro w1 hS; refine ⟨congrArg Value.bool ?_, hS.Ak⟩; rw [show X.G1 r = _ from (AU c1).trans (AU c2), hI13, show X.lit r k = true from by rw [AH.lit, c4, c5]; rfl]; rfl
  have c5p := kz c5
  refine Aa ?_
  refine AB (.t4 1 2 22 23) ?_
  refine AT (AA (AI ?_))
  refine Gt (Aw rfl rfl (IntWalk.i64_in _ (by omega))) ?_
  refine Gm rfl ?_
  refine AP (AB (.t4 1 2 22 23) ?_)
  refine B2 (k + 1) ?_ ?_ (.t4 23 1 2 22) (.cons _ (.refl _))
  · exact ⟨by omega, by omega, by rw [hI13, show X.lit r k = false from by rw [AH.lit, c5]; first | rfl | exact Bool.and_false _]; rfl⟩
  · omega
 have c3p := kz c3
 obtain rfl : k = 9 := by omega
 refine Bb (AV (AV (Aj ?_)))
 refine AB (.nil _) ?_
 refine AA (Gs (Ga rfl (AP (AA (Ab ?_)))))
 refine AY rfl (.tmp rfl .n) ?_
 intro w1 hS; refine ⟨congrArg Value.bool ?_, hS.Ak⟩; rw [show X.G1 r = _ from (AU c1).trans (AU c2), hI13]; rfl
theorem HJ (X : AH) (b : Int) (w : World) : EF Tryz.prog 160 #[.agg X.enc.toArray, .int .i64 b] w fun v w' => v = .bool (X.hidden b) ∧ B6 w w' := by
 refine Ai [] [] Tryz.func160 rfl rfl rfl (St.start w []) ?_
 refine Gs ?_
 refine Bv rfl rfl rfl (fun b1 => ?_)
 refine Ga rfl (Gn (.t2 1 2) (CC (Gt (Af Cq rfl) (Gt (AZ rfl S8 .m0 AH.l1 rfl) (Gm rfl (Gn (.t3 1 8 9) (Ae ?_)))))))
 refine Bn (.t3 9 1 8) ?_
 refine CS (fun (k : Int) => 0 ≤ k ∧ k ≤ 9 ∧ CA 9 (fun i => !X.LN b i) 9 = CA 9 (fun i => !X.LN b i) (9 - k).toNat) (fun (k : Int) => (9 - k).toNat) (fun (k : Int) => [(9, .int .i64 k)]) (fun (k : Int) => []) (0) ?_ rfl rfl (fun k hI1 => ?_)
 · exact ⟨by omega, by omega, rfl⟩
 obtain ⟨hI11, hI12, hI13⟩ := hI1
 refine Gs (Gt (A5 rfl rfl) (AP (AA (Ao ?_))))
 refine Gc (fun c1 => ?_) (fun c1 => ?_)
 ·
  have c1p := kz c1
  rw [C2 _ (by omega)] at hI13
  refine Aa ?_
  refine AB (.t3 1 8 9) ?_
  refine AA (Ao (Ae (Gs ?_)))
  refine Gt (Fl Al.fl Tryz.underlying30 K2 rfl rfl (by omega) (by omega)) ?_
  refine BD rfl Js rfl (fun b2 => ?_)
  refine AQ (AJ (AS.id Al.fl.len Al.fl.one) rfl rfl rfl MT rfl .h) ?_
  refine Gn (.t4 1 6 8 9) (Gs (Gt (Af GG rfl) (Gt (AF rfl A1 .m0 Al.l1 rfl rfl) (Gt (Ag rfl rfl) (Gm rfl (BZ 15 rfl rfl (fun q => Af Fg rfl) (BZ 15 rfl rfl (fun q => AF (BV rfl q) Cu .m0 Al.l4 rfl rfl) ?_)))))))
  refine Gt (BG rfl rfl (fun h => h)) (Gm rfl (BZ 19 rfl rfl (fun q => Af FB rfl) (BZ 19 rfl rfl (fun q => AF (BV rfl q) A1 .m0 Al.l2 rfl rfl) (BZ 19 rfl rfl (fun q => Ag (BV rfl q) rfl) (Gt (BG rfl rfl (fun h => h)) (Gm rfl (BZ 24 rfl rfl (fun q => Af C8 rfl) ?_)))))))
  refine BZ 24 rfl rfl (fun q => AF (BV rfl q) A1 .m0 Al.l3 rfl rfl) (BZ 24 rfl rfl (fun q => AE rfl) (BZ 24 rfl rfl (fun q => Ag (BV rfl q) (BV rfl q)) (Gt (BG rfl rfl (fun h => h)) (Gn (.t4 1 8 9 29) ?_))))
  refine Gc (fun c2 => ?_) (fun c2 => ?_)
  ·
   refine Gs (Ga rfl (Gn (.t1 4) (Ab (AO (AD (AD (AO ?_)))))))
   refine AD ?_
   refine AY rfl (.tmp rfl .n) ?_
   intro w1 hS; refine ⟨congrArg Value.bool ?_, hS.Ak⟩; rw [AH.hidden, hI13, show X.LN b k = true from c2]; rfl
  have c2p := kz c2
  refine Aa ?_
  refine AB (.t3 1 8 9) ?_
  refine AT (AA (AI ?_))
  refine Gt (Aw rfl rfl (IntWalk.i64_in _ (by omega))) ?_
  refine Gm rfl ?_
  refine AP (AB (.t3 1 8 9) ?_)
  refine B2 (k + 1) ?_ ?_ (.t3 9 1 8) (.cons _ (.refl _))
  · exact ⟨by omega, by omega, by rw [hI13, show X.LN b k = false from c2]; rfl⟩
  · omega
 have c1p := kz c1
 obtain rfl : k = 9 := by omega
 refine Bb (AV (AV (Aj ?_)))
 refine AB (.nil _) ?_
 refine AA (Gs (Ga rfl (AP (AA (Ab ?_)))))
 refine AY rfl (.tmp rfl .n) ?_
 intro w1 hS; refine ⟨congrArg Value.bool ?_, hS.Ak⟩; rw [AH.hidden, hI13]; rfl
theorem DC (X : AH) (a b : Int) (w : World) : EF Tryz.prog 130 #[.agg X.enc.toArray, .int .i64 a, .int .i64 b] w fun v w' => v = .bool (X.H8 a b) ∧ B6 w w' := by
 refine Ai [] [] Tryz.func130 rfl rfl rfl (St.start w []) ?_
 refine Gs ?_
 refine Bv rfl rfl rfl (fun b1 => ?_)
 refine Ga rfl (Gn (.t3 1 2 3) (CC (Gt (AZ rfl BT .m0 (AS.id AH.fl.len AH.fl.one) rfl) (Gm rfl ?_))))
 refine A8 rfl Wg (.c rfl (.c rfl .n)) (fun w hS => Fh _ _ w) ?_
 refine Gt (BO rfl) (Gm rfl (BW 13 rfl rfl (fun q => AZ rfl BT .m0 (AS.id AH.fl.len AH.fl.one) rfl) (BW 13 rfl rfl (fun q => AE rfl) ?_)))
 refine QC (t := 13) rfl rfl rfl (fun q => by have q1 := q; (try simp at q1); exact Dt Wg (.c (cF rfl q) (.c (cF rfl q) .n)) (fun w hS => Fh _ _ w)) ?_
 refine BW 13 rfl rfl (fun q => BO (cF rfl q)) ?_
 refine Gt (BR rfl rfl (fun h => by rw [h]; rfl)) ?_
 refine Gn (.t4 1 2 3 18) ?_
 refine Gc (fun c1 => ?_) (fun c1 => ?_)
 ·
  refine Gs (Ga rfl (Gn (.t1 6) (Ab (AD ?_))))
  refine AY rfl (.tmp rfl .n) ?_
  intro w1 hS; refine ⟨congrArg Value.bool ?_, hS.Ak⟩; rw [show X.H8 a b = _ from (BA c1)]
 have c1p := kz c1
 have hr : (0 ≤ a ∧ a < 6) ∧ 0 ≤ b ∧ b < 6 := by simp at c1; have h1 := AH.JZ c1.1; have h2 := AH.JZ c1.2; omega
 refine Aa ?_
 refine AB (.t3 1 2 3) ?_
 refine AA (CC (Gm rfl (Gm rfl (Gt (Ag rfl rfl) (Gn (.t4 1 2 3 21) ?_)))))
 refine Gc (fun c2 => ?_) (fun c2 => ?_)
 ·
  refine Gs (Ga rfl (Gn (.t1 6) (Ab (AD ?_))))
  refine AY rfl (.tmp rfl .n) ?_
  intro w1 hS; refine ⟨congrArg Value.bool ?_, hS.Ak⟩; rw [show X.H8 a b = _ from ((AU c1).trans (BA c2))]
 have c2p := kz c2
 refine Aa ?_
 refine AB (.t3 1 2 3) ?_
 refine AA (Ao ?_)
 refine BF (N := 12) [0, 0, 3, 7, 0, 0, 48, 112, 0, 0, 783, 2047] mix (by kernel_rfl) rfl ?_
 refine Pf 0 rfl (AE rfl) (Pf 1 rfl (Af Bj rfl) ?_)
 refine Pf 2 rfl (AR Cz rfl rfl (by omega) (by omega)) ?_
 refine Pf 3 rfl (AZ rfl FE .m0 (AH.l2.comp (AS.ar (n := 6) Am.fl (by omega))) rfl) ?_
 refine Pf 4 rfl (AE rfl) (Pf 5 rfl (Af Bj rfl) ?_)
 refine Pf 6 rfl (AR Cz rfl rfl (by omega) (by omega)) ?_
 refine Pf 7 rfl (AZ rfl FE .m0 (AH.l2.comp (AS.ar (n := 6) Am.fl (by omega))) rfl) ?_
 refine JO 8 9 rfl rfl (by kernel_rfl) ?_ ?_
 ·
  refine BD rfl K3 rfl (fun b2 => ?_)
  refine Bp rfl ⟨?_, ?_⟩
  · exact (Po rfl (AZ rfl FE .m1 (AH.l2.comp (AS.ar (n := 6) Am.fl (by omega))) rfl) rfl rfl (Po rfl (AR Cz rfl rfl (by omega) (by omega)) rfl rfl (Po rfl (Af Bj rfl) rfl rfl (Po rfl (AE rfl) rfl rfl (Po rfl (AZ rfl FE .m1 (AH.l2.comp (AS.ar (n := 6) Am.fl (by omega))) rfl) rfl rfl (Po rfl (AR Cz rfl rfl (by omega) (by omega)) rfl rfl (Po rfl (Af Bj rfl) rfl rfl (Po rfl (AE rfl) rfl rfl Au))))))))
  refine An 9 rfl (by kernel_rfl) ?_
  refine BD rfl K3 rfl (fun b3 => ?_)
  refine Bp rfl ⟨?_, ?_⟩
  · exact (Po rfl (AZ rfl FE .m2 (AH.l2.comp (AS.ar (n := 6) Am.fl (by omega))) rfl) rfl rfl (Po rfl (AR Cz rfl rfl (by omega) (by omega)) rfl rfl (Po rfl (Af Bj rfl) rfl rfl (Po rfl (AE rfl) rfl rfl (Po rfl (AZ rfl FE .m2 (AH.l2.comp (AS.ar (n := 6) Am.fl (by omega))) rfl) rfl rfl (Po rfl (AR Cz rfl rfl (by omega) (by omega)) rfl rfl (Po rfl (Af Bj rfl) rfl rfl (Po rfl (AE rfl) rfl rfl Au))))))))
  refine An 10 rfl (by kernel_rfl) ?_
  refine AQ (AJ (AS.id Am.fl.len Am.fl.one) rfl rfl rfl Jr rfl (.t .h)) ?_
  refine BL rfl ⟨?_, ?_⟩
  · exact (Po rfl (AZ rfl FE .m2 (AH.l2.comp (AS.ar (n := 6) Am.fl (by omega))) rfl) rfl rfl (Po rfl (AR Cz rfl rfl (by omega) (by omega)) rfl rfl (Po rfl (Af Bj rfl) rfl rfl (Po rfl (AE rfl) rfl rfl (Pk (Pk (Pk (Pk Au))))))))
  refine An 11 rfl (by kernel_rfl) ?_
  refine AQ (AJ (AS.id Am.fl.len Am.fl.one) rfl rfl rfl Jr rfl .h) ?_
  refine BL rfl ⟨?_, ?_⟩
  · exact (Pk (Pk (Pk (Pk (Pk (Pk (Pk (Pk Au))))))))
  refine A2 (by kernel_rfl) ?_
  refine AB (.t4 2 3 7 8) ?_
  refine AA (Gs (Gt (Af Cx rfl) (Gt (AF rfl A1 .m1 Am.l3 rfl rfl) (Gt (Af Cx rfl) (Gt (AF rfl A1 .m0 Am.l3 rfl rfl) (Gt (Ag rfl rfl) (Gm rfl ?_)))))))
  refine BZ 35 rfl rfl (fun q => AZ rfl BT .m2 (AS.id AH.fl.len AH.fl.one) rfl) (BZ 35 rfl rfl (fun q => Af Cx rfl) (BZ 35 rfl rfl (fun q => AF (BV rfl q) A1 .m1 Am.l3 rfl rfl) ?_))
  refine KW (t := 35) rfl rfl rfl (fun q => Dt TR (.c (BV rfl q) (.c (BV rfl q) .n)) (fun w hS => EJ _ _ w)) ?_
  refine Gt (BG rfl rfl (fun h => h)) (Gm rfl (BZ 41 rfl rfl (fun q => Af Vr rfl) (BZ 41 rfl rfl (fun q => AF (BV rfl q) Cu .m1 Am.l2 rfl rfl) (BZ 41 rfl rfl (fun q => AE (BV rfl q)) ?_))))
  refine Cy (t := 44) rfl rfl rfl (fun qc q => AZ rfl BT .m2 (AS.id AH.fl.len AH.fl.one) rfl) ?_
  refine Cy (t := 44) rfl rfl rfl (fun qc q => AE rfl) ?_
  refine TJ (t := 44) rfl rfl rfl (fun qc q => by have q1 := q; have qc1 := qc; (try simp at q1 qc1); exact Dt X1 (.c (BV rfl (by rw [qc, q]; rfl)) (.c (BV rfl (by rw [qc, q]; rfl)) .n)) (fun w hS => HJ _ _ w)) ?_
  refine Cy (t := 44) rfl rfl rfl (fun qc q => BO (BV rfl (by rw [qc, q]; rfl))) ?_
  refine BZ 41 rfl rfl (fun q => BR (BV rfl q) rfl (fun h => by rw [q, h]; rfl)) ?_
  refine Gt (BG rfl rfl (fun h => h)) (Ga rfl (Gn (.t1 6) (Ab ?_)))
  refine AY rfl (.tmp rfl .n) ?_
  intro w1 hS; refine ⟨congrArg Value.bool ?_, hS.Ak⟩; rw [show X.H8 a b = _ from ((AU c1).trans (AU c2))]
 ·
  refine BD rfl K3 rfl (fun b4 => ?_)
  refine Bp rfl ⟨?_, ?_⟩
  · exact (Po rfl (AZ rfl FE .m1 (AH.l2.comp (AS.ar (n := 6) Am.fl (by omega))) rfl) rfl rfl (Po rfl (AR Cz rfl rfl (by omega) (by omega)) rfl rfl (Po rfl (Af Bj rfl) rfl rfl (Po rfl (AE rfl) rfl rfl (Po rfl (AZ rfl FE .m1 (AH.l2.comp (AS.ar (n := 6) Am.fl (by omega))) rfl) rfl rfl (Po rfl (AR Cz rfl rfl (by omega) (by omega)) rfl rfl (Po rfl (Af Bj rfl) rfl rfl (Po rfl (AE rfl) rfl rfl Au))))))))
  refine An 8 rfl (by kernel_rfl) ?_
  refine BD rfl K3 rfl (fun b5 => ?_)
  refine Bp rfl ⟨?_, ?_⟩
  · exact (Po rfl (AZ rfl FE .m2 (AH.l2.comp (AS.ar (n := 6) Am.fl (by omega))) rfl) rfl rfl (Po rfl (AR Cz rfl rfl (by omega) (by omega)) rfl rfl (Po rfl (Af Bj rfl) rfl rfl (Po rfl (AE rfl) rfl rfl (Po rfl (AZ rfl FE .m2 (AH.l2.comp (AS.ar (n := 6) Am.fl (by omega))) rfl) rfl rfl (Po rfl (AR Cz rfl rfl (by omega) (by omega)) rfl rfl (Po rfl (Af Bj rfl) rfl rfl (Po rfl (AE rfl) rfl rfl Au))))))))
  refine An 10 rfl (by kernel_rfl) ?_
  refine AQ (AJ (AS.id Am.fl.len Am.fl.one) rfl rfl rfl Jr rfl .h) ?_
  refine BL rfl ⟨?_, ?_⟩
  · exact (Po rfl (AZ rfl FE .m2 (AH.l2.comp (AS.ar (n := 6) Am.fl (by omega))) rfl) rfl rfl (Po rfl (AR Cz rfl rfl (by omega) (by omega)) rfl rfl (Po rfl (Af Bj rfl) rfl rfl (Po rfl (AE rfl) rfl rfl (Pk (Pk (Pk (Pk Au))))))))
  refine An 11 rfl (by kernel_rfl) ?_
  refine AQ (AJ (AS.id Am.fl.len Am.fl.one) rfl rfl rfl Jr rfl (.t .h)) ?_
  refine BL rfl ⟨?_, ?_⟩
  · exact (Pk (Pk (Pk (Pk (Pk (Pk (Pk (Pk Au))))))))
  refine A2 (by kernel_rfl) ?_
  refine AB (.t4 2 3 7 8) ?_
  refine AA (Gs (Gt (Af Cx rfl) (Gt (AF rfl A1 .m0 Am.l3 rfl rfl) (Gt (Af Cx rfl) (Gt (AF rfl A1 .m1 Am.l3 rfl rfl) (Gt (Ag rfl rfl) (Gm rfl ?_)))))))
  refine BZ 35 rfl rfl (fun q => AZ rfl BT .m2 (AS.id AH.fl.len AH.fl.one) rfl) (BZ 35 rfl rfl (fun q => Af Cx rfl) (BZ 35 rfl rfl (fun q => AF (BV rfl q) A1 .m0 Am.l3 rfl rfl) ?_))
  refine KW (t := 35) rfl rfl rfl (fun q => Dt TR (.c (BV rfl q) (.c (BV rfl q) .n)) (fun w hS => EJ _ _ w)) ?_
  refine Gt (BG rfl rfl (fun h => h)) (Gm rfl (BZ 41 rfl rfl (fun q => Af Vr rfl) (BZ 41 rfl rfl (fun q => AF (BV rfl q) Cu .m0 Am.l2 rfl rfl) (BZ 41 rfl rfl (fun q => AE (BV rfl q)) ?_))))
  refine Cy (t := 44) rfl rfl rfl (fun qc q => AZ rfl BT .m2 (AS.id AH.fl.len AH.fl.one) rfl) ?_
  refine Cy (t := 44) rfl rfl rfl (fun qc q => AE rfl) ?_
  refine TJ (t := 44) rfl rfl rfl (fun qc q => by have q1 := q; have qc1 := qc; (try simp at q1 qc1); exact Dt X1 (.c (BV rfl (by rw [qc, q]; rfl)) (.c (BV rfl (by rw [qc, q]; rfl)) .n)) (fun w hS => HJ _ _ w)) ?_
  refine Cy (t := 44) rfl rfl rfl (fun qc q => BO (BV rfl (by rw [qc, q]; rfl))) ?_
  refine BZ 41 rfl rfl (fun q => BR (BV rfl q) rfl (fun h => by rw [q, h]; rfl)) ?_
  refine Gt (BG rfl rfl (fun h => h)) (Ga rfl (Gn (.t1 6) (Ab ?_)))
  refine AY rfl (.tmp rfl .n) ?_
  intro w1 hS; refine ⟨congrArg Value.bool ?_, hS.Ak⟩; rw [show X.H8 a b = _ from ((AU c1).trans (AU c2))]
theorem MQ (k : Int) (w : World) : EF Tryz.prog 173 #[.int .i64 k] w fun v w' => v = .bool (AH.Zi k) ∧ B6 w w' := by
 refine Ai [] [] Tryz.func173 rfl rfl rfl (St.start w []) ?_
 refine Gs (Ga rfl (Gn (.t1 0) (Gs (Gm rfl (Gt (Ag rfl rfl) (Gm rfl (BW 5 rfl rfl (fun q => AE rfl) ?_)))))))
 refine BW 5 rfl rfl (fun q => Ag (cF rfl q) rfl) ?_
 refine Gt (BR rfl rfl (fun h => by rw [h]; rfl)) ?_
 refine Gm rfl (BW 9 rfl rfl (fun q => AE rfl) (BW 9 rfl rfl (fun q => Ag (cF rfl q) rfl) ?_))
 refine Gt (BR rfl rfl (fun h => by rw [h]; rfl)) ?_
 refine Ga rfl (Gn (.t1 2) (Ab ?_))
 refine AY rfl (.tmp rfl .n) ?_
 intro w1 hS; refine ⟨?_, hS.Ak⟩; rfl
theorem JB (X : AH) (b : Int) (e : Ing.Event) (w : World) : EF Tryz.prog 157 #[.agg X.enc.toArray, .int .i64 b, .agg e.enc.toArray] w fun v w' => v = .int .i64 (X.Df b e) ∧ B6 w w' := by
 refine Ai [] [] Tryz.func157 rfl rfl rfl (St.start w []) ?_
 refine Gs ?_
 refine Bv rfl rfl rfl (fun b1 => ?_)
 refine Bv rfl rfl rfl (fun b2 => ?_)
 refine Ga rfl (Gn (.t3 1 3 5) (Ao (Ae (Gs (Gt (AZ rfl BT .m1 (AS.id AH.fl.len AH.fl.one) rfl) (Gm rfl ?_))))))
 refine A8 rfl Wg (.c rfl (.c rfl .n)) (fun w hS => Fh _ _ w) ?_
 refine Gt (BO rfl) (Ga rfl (Gn (.t4 1 3 5 8) ?_))
 refine Gc (fun c1 => ?_) (fun c1 => ?_)
 ·
  refine Gs (Ga rfl (Gn (.t1 6) (Ab (AO (AD ?_)))))
  refine AY rfl (.tmp rfl .n) ?_
  intro w1 hS; refine ⟨?_, hS.Ak⟩; rw [show X.Df b e = _ from (BA c1)]; rfl
 have c1p := kz c1
 have hr : 0 ≤ b ∧ b < 6 := by simp at c1; have h1 := AH.JZ c1; omega
 refine Gs (Gm rfl (Gt (Af P7 rfl) (Gt (AF rfl A1 .m0 Ing.Event.l2 rfl rfl) (Gt (Ag rfl rfl) (Ga rfl (Gn (.t4 1 3 5 13) ?_))))))
 refine Gc (fun c2 => ?_) (fun c2 => ?_)
 ·
  refine CC (Gt (Af GJ rfl) (Gt (AF rfl A1 .m0 Ing.Event.l3 rfl rfl) (Gt (A5 rfl rfl) (Gm rfl (BW 21 rfl rfl (fun q => Af GJ rfl) (BW 21 rfl rfl (fun q => AF (cF rfl q) A1 .m0 Ing.Event.l3 rfl rfl) (BW 21 rfl rfl (fun q => CI (cF rfl q) rfl) ?_)))))))
  refine Gt (BR rfl rfl (fun h => by rw [h]; rfl)) ?_
  refine Gm rfl (BW 26 rfl rfl (fun q => AZ rfl BT .m1 (AS.id AH.fl.len AH.fl.one) rfl) (BW 26 rfl rfl (fun q => AE rfl) (BW 26 rfl rfl (fun q => Af GJ rfl) (BW 26 rfl rfl (fun q => AF (cF rfl q) A1 .m0 Ing.Event.l3 rfl rfl) ?_))))
  refine QC (t := 26) rfl rfl rfl (fun q => by have q1 := q; (try simp at q1); exact Dt NS (.c (cF rfl q) (.c (cF rfl q) (.c (cF rfl q) .n))) (fun w hS => DC _ _ _ w)) ?_
  refine Gt (BR rfl rfl (fun h => by rw [h]; rfl)) ?_
  refine Gn (.t1 32) ?_
  refine Gc (fun c3 => ?_) (fun c3 => ?_)
  ·
   refine Gs (Ga rfl (Gn (.t1 6) (Ab (AD (AO (AD ?_))))))
   refine AY rfl (.tmp rfl .n) ?_
   intro w1 hS; refine ⟨?_, hS.Ak⟩; rw [show X.Df b e = _ from ((AU c1).trans ((BA c2).trans (BA c3)))]; rfl
  refine Aa ?_
  refine AB (.nil _) ?_
  refine AA (Gs (Ga rfl (AP (AA (Ab (AO (AD ?_)))))))
  refine AY rfl (.tmp rfl .n) ?_
  intro w1 hS; refine ⟨?_, hS.Ak⟩; rw [show X.Df b e = _ from ((AU c1).trans ((BA c2).trans (AU c3)))]; rfl
 have c2p := kz c2
 refine Ao ?_
 refine BF (N := 14) [0, 1, 3, 7, 15, 15, 63, 127, 255, 15, 527, 2047, 4095, 8191] mix (by kernel_rfl) rfl ?_
 refine Pf 0 rfl (Af Rv rfl) (Pf 1 rfl (AF rfl A1 .m0 Ing.Event.l0 rfl rfl) (Pf 2 rfl (Ag rfl rfl) (Pf 3 rfl (AE rfl) (G9 4 37 rfl rfl rfl (fun q => AE rfl) (G9 5 37 rfl rfl rfl (fun q => Af Bj rfl) ?_)))))
 refine BX 6 rfl rfl (by kernel_rfl) (GS (t := 37) rfl rfl (fun q => by have q1 := q; (try simp at q1); exact Hx (AR Cz (cF rfl q) (cF rfl q) (by omega) (by omega)))) ?_
 refine G9 7 37 rfl rfl rfl (fun q => Af Cx (cF rfl q)) ?_
 refine BX 8 rfl rfl (by kernel_rfl) (GS (t := 37) rfl rfl (fun q => by have q1 := q; (try simp at q1); exact Hx (AF (cF rfl q) A1 .m1 ((AH.l2.comp (AS.ar (n := 6) Am.fl (by omega))).comp Am.l3) rfl rfl))) ?_
 refine G9 9 37 rfl rfl rfl (fun q => Af WC rfl) (G9 10 37 rfl rfl rfl (fun q => AF (cF rfl q) A1 .m0 Ing.Event.l1 rfl rfl) (G9 11 37 rfl rfl rfl (fun q => CT (cF rfl q) (cF rfl q)) ?_))
 refine Pf 12 rfl (BR rfl rfl (fun h => by rw [h]; rfl)) ?_
 refine Pf 13 rfl (Az rfl) ?_
 refine A2 (by kernel_rfl) ?_
 refine AB (.t4 1 3 5 33) ?_
 refine AA ?_
 refine Gc (fun c4 => ?_) (fun c4 => ?_)
 ·
  refine Gs (Ga rfl (Gn (.t1 6) (Ab (AO (AD ?_)))))
  refine AY rfl (.tmp rfl .n) ?_
  intro w1 hS; refine ⟨?_, hS.Ak⟩; rw [show X.Df b e = _ from ((AU c1).trans ((AU c2).trans (BA c4)))]; rfl
 have c4p := kz c4
 refine Aa ?_
 refine AB (.t3 1 3 5) ?_
 refine AT (AA (Gs (Ga rfl (AP (AA (CC (Gt (AZ rfl BT .m1 (AS.id AH.fl.len AH.fl.one) rfl) ?_)))))))
 refine Gm rfl (Gt (Af P7 rfl) (Gt (AF rfl A1 .m0 Ing.Event.l2 rfl rfl) ?_))
 refine A8 rfl NS (.c rfl (.c rfl (.c rfl .n))) (fun w hS => DC _ _ _ w) ?_
 refine Gt (BO rfl) (Gn (.t5 1 3 5 7 52) ?_)
 refine Gc (fun c5 => ?_) (fun c5 => ?_)
 ·
  have c5p := kz c5
  refine CC (Gt (Af Rv rfl) (Gt (AF rfl A1 .m0 Ing.Event.l0 rfl rfl) ?_))
  refine A8 rfl Zt (.c rfl .n) (fun w hS => MQ _ w) ?_
  refine Gt (BO rfl) (Gn (.t5 1 3 5 7 56) ?_)
  refine Gc (fun c6 => ?_) (fun c6 => ?_)
  ·
   refine Gs (Ga rfl (Gn (.t1 6) (Ab (AD (AD ?_)))))
   refine AY rfl (.tmp rfl .n) ?_
   intro w1 hS; refine ⟨?_, hS.Ak⟩; rw [show X.Df b e = _ from ((AU c1).trans ((AU c2).trans ((AU c4).trans ((BA c5).trans (BA c6)))))]; rfl
  have c6p := kz c6
  refine Aa ?_
  refine AB (.t4 1 3 5 7) ?_
  refine AA (AI (Gm rfl ?_))
  refine Gt (Aw rfl rfl (IntWalk.i64_in _ (by omega))) ?_
  refine Ga rfl (Gn (.t4 1 3 5 7) (CC (Gt (Af GJ rfl) (Gt (AF rfl A1 .m0 Ing.Event.l3 rfl rfl) (Gt (CI rfl rfl) (Gm rfl (BZ 62 rfl rfl (fun q => Af GJ rfl) ?_)))))))
  refine BZ 62 rfl rfl (fun q => AF (BV rfl q) A1 .m0 Ing.Event.l3 rfl rfl) (BZ 62 rfl rfl (fun q => A5 (BV rfl q) rfl) (Gt (BG rfl rfl (fun h => h)) (Gm rfl (BZ 67 rfl rfl (fun q => AZ rfl BT .m1 (AS.id AH.fl.len AH.fl.one) rfl) (BZ 67 rfl rfl (fun q => AE rfl) (BZ 67 rfl rfl (fun q => Af GJ rfl) (BZ 67 rfl rfl (fun q => AF (BV rfl q) A1 .m0 Ing.Event.l3 rfl rfl) ?_)))))))
  refine KW (t := 67) rfl rfl rfl (fun q => Dt NS (.c (BV rfl q) (.c (BV rfl q) (.c (BV rfl q) .n))) (fun w hS => DC _ _ _ w)) ?_
  refine BZ 67 rfl rfl (fun q => BO (BV rfl q)) (Gt (BG rfl rfl (fun h => h)) (Gn (.t2 7 74) ?_))
  refine Gc (fun c7 => ?_) (fun c7 => ?_)
  ·
   have c7p := kz c7
   refine AI (Gm rfl ?_)
   refine Gt (Aw rfl rfl (IntWalk.i64_in _ (by omega))) ?_
   refine Ga rfl (Gn (.t1 7) (Gs (Gm rfl (Ga rfl (Gn (.t1 6) (Ab ?_))))))
   refine AY rfl (.tmp rfl .n) ?_
   intro w1 hS; refine ⟨?_, hS.Ak⟩; rw [show X.Df b e = _ from ((AU c1).trans ((AU c2).trans ((AU c4).trans ((BA c5).trans ((AU c6).trans (BA c7))))))]; rfl
  refine Aa ?_
  refine AB (.t1 7) ?_
  refine AA (Gs (Gm rfl (Ga rfl (Gn (.t1 6) (Ab ?_)))))
  refine AY rfl (.tmp rfl .n) ?_
  intro w1 hS; refine ⟨?_, hS.Ak⟩; rw [show X.Df b e = _ from ((AU c1).trans ((AU c2).trans ((AU c4).trans ((BA c5).trans ((AU c6).trans (AU c7))))))]; rfl
 have c5p := kz c5
 refine Aa ?_
 refine AB (.t4 1 3 5 7) ?_
 refine AA (CC (Gt (Af GJ rfl) (Gt (AF rfl A1 .m0 Ing.Event.l3 rfl rfl) (Gt (CI rfl rfl) (Gm rfl (BZ 62 rfl rfl (fun q => Af GJ rfl) (BZ 62 rfl rfl (fun q => AF (BV rfl q) A1 .m0 Ing.Event.l3 rfl rfl) ?_)))))))
 refine BZ 62 rfl rfl (fun q => A5 (BV rfl q) rfl) (Gt (BG rfl rfl (fun h => h)) (Gm rfl (BZ 67 rfl rfl (fun q => AZ rfl BT .m1 (AS.id AH.fl.len AH.fl.one) rfl) (BZ 67 rfl rfl (fun q => AE rfl) (BZ 67 rfl rfl (fun q => Af GJ rfl) (BZ 67 rfl rfl (fun q => AF (BV rfl q) A1 .m0 Ing.Event.l3 rfl rfl) ?_))))))
 refine KW (t := 67) rfl rfl rfl (fun q => Dt NS (.c (BV rfl q) (.c (BV rfl q) (.c (BV rfl q) .n))) (fun w hS => DC _ _ _ w)) ?_
 refine BZ 67 rfl rfl (fun q => BO (BV rfl q)) (Gt (BG rfl rfl (fun h => h)) (Gn (.t2 7 74) ?_))
 refine Gc (fun c8 => ?_) (fun c8 => ?_)
 ·
  have c8p := kz c8
  refine AI (Gm rfl ?_)
  refine Gt (Aw rfl rfl (IntWalk.i64_in _ (by omega))) ?_
  refine Ga rfl (Gn (.t1 7) (Gs (Gm rfl (Ga rfl (Gn (.t1 6) (Ab ?_))))))
  refine AY rfl (.tmp rfl .n) ?_
  intro w1 hS; refine ⟨?_, hS.Ak⟩; rw [show X.Df b e = _ from ((AU c1).trans ((AU c2).trans ((AU c4).trans ((AU c5).trans (BA c8)))))]; rfl
 refine Aa ?_
 refine AB (.t1 7) ?_
 refine AA (Gs (Gm rfl (Ga rfl (Gn (.t1 6) (Ab ?_)))))
 refine AY rfl (.tmp rfl .n) ?_
 intro w1 hS; refine ⟨?_, hS.Ak⟩; rw [show X.Df b e = _ from ((AU c1).trans ((AU c2).trans ((AU c4).trans ((AU c5).trans (AU c8)))))]; rfl
theorem JN (X : AH) (e : Ing.Event) (w : World) : EF Tryz.prog 123 #[.agg X.enc.toArray, .agg e.enc.toArray] w fun v w' => v = .agg (X.HD e 6).enc.toArray ∧ B6 w w' := by
 refine Ai [] [] Tryz.func123 rfl rfl rfl (St.start w []) ?_
 refine Gs ?_
 refine Bv rfl rfl rfl (fun b1 => ?_)
 refine Bv rfl rfl rfl (fun b2 => ?_)
 refine BD rfl Hb rfl (fun b3 => ?_)
 refine Gn (.t3 2 3 4) (CC (Gm rfl (AP (AA (Ae ?_)))))
 refine Bn (.t4 6 2 3 4) ?_
 refine Be (.t .h) ?_
 refine CS (fun (k : Int) => 0 ≤ k ∧ k ≤ 6) (fun (k : Int) => (6 - k).toNat) (fun (k : Int) => [(6, .int .i64 k)]) (fun (k : Int) => [Ac.box b2 56 (Ing.Event.enc (X.HD e k.toNat))]) (0) ?_ rfl rfl (fun k hI1 => ?_)
 · exact ⟨Int.le_refl _, by omega⟩
 obtain ⟨hI11, hI12⟩ := hI1
 refine Gs (Gt (A5 rfl rfl) (AP (AA (Ao ?_))))
 refine Gc (fun c1 => ?_) (fun c1 => ?_)
 ·
  have c1p := kz c1
  refine Aa ?_
  refine AB (.t4 2 3 4 6) ?_
  refine AA (Ao (Ae (Gs (Gm rfl (Ga rfl (Gn (.t5 2 3 4 5 6) (AI ?_)))))))
  refine Gm rfl (Gt (AZ rfl BT .m2 (AS.id AH.fl.len AH.fl.one) rfl) (Gm rfl (Gt (AZ rfl OH .m0 (AS.id Ing.Event.fl.len Ing.Event.fl.one) rfl) ?_)))
  refine A8 rfl Ze (.c rfl (.c rfl (.c rfl .n))) (fun w hS => JB _ _ _ w) ?_
  refine Gt (Af Mb rfl) ?_
  refine Gt (AR RM rfl rfl (by omega) (by omega)) ?_
  refine AQ (AJ (Ing.Event.l10.comp (AS.ar (n := 6) B0 (by omega))) rfl rfl rfl C4 rfl .h) ?_
  refine AP (AB (.t4 2 3 4 6) ?_)
  refine AT (AA (AI ?_))
  refine Gt (Aw rfl rfl (IntWalk.i64_in _ (by omega))) ?_
  refine Gm rfl ?_
  refine AP (AB (.t4 2 3 4 6) ?_)
  refine B2 (k + 1) ?_ ?_ (.t4 6 2 3 4) (by rw [AH.Ud (by omega)]; exact (.refl _))
  · exact ⟨by omega, by omega⟩
  · omega
 have c1p := kz c1
 obtain rfl : k = 6 := by omega
 refine Bb (AV (AV (Aj ?_)))
 refine AB (.t2 3 4) ?_
 refine AA (Gs (Gt (AZ rfl OH .m0 (AS.id Ing.Event.fl.len Ing.Event.fl.one) rfl) ?_))
 refine AQ (AJ (AS.id Ing.Event.fl.len Ing.Event.fl.one) rfl rfl rfl Ma rfl (.t .h)) ?_
 refine Gn (.t1 4) (Ab ?_)
 refine AY rfl (.cell rfl .m1 (.inl ⟨(by rw [Ing.Event.fl.len]; exact OH), rfl⟩) .n) ?_
 intro w1 hS; refine ⟨?_, hS.Ak⟩; rfl
theorem CL (b : Nat) (T : AG) (g : Hd) (e : Ing.Event) (hg : g.len = T.out.length) (hb : 0 ≤ T.b ∧ T.b < 6) (ho : e.other < 6) (hn : T.out.length ≤ 100000) : II Tryz.prog 96 #[.pointer (some ⟨b, 0, none⟩), .agg e.enc.toArray] [Ac.box b 163 (Ad.enc ⟨T.w, T.b, g⟩), Ac.own g 56 16 (T.out.flatMap Ing.Event.enc)] (fun v B => ∃ g' : Hd, v = .tuple #[] ∧ g'.len = (T.Bk e).out.length ∧ B = [Ac.box b 163 (Ad.enc ⟨(T.Bk e).w, (T.Bk e).b, g'⟩), Ac.own g' 56 16 ((T.Bk e).out.flatMap Ing.Event.enc)]) := by
 intro w hS0
 refine Ai _ _ Tryz.func96 rfl rfl rfl (hS0) ?_
 refine Gs ?_
 refine Bv rfl rfl rfl (fun b1 => ?_)
 refine Gn (.t2 0 3) (Ao ?_)
 refine BF (N := 12) [0, 0, 2, 6, 14, 1, 33, 97, 255, 511, 0, 2047] mix (by kernel_rfl) rfl ?_
 refine Pf 0 rfl (AE rfl) (Pf 1 rfl (AE rfl) (Pf 2 rfl (BS rfl) (Pf 3 rfl (Af CN rfl) (Pf 4 rfl (AF rfl A1 .m1 Ad.l1 rfl rfl) (Pf 5 rfl (BS rfl) (Pf 6 rfl (Af A6 rfl) (Pf 7 rfl (Af Bj rfl) ?_)))))))
 refine Pf 8 rfl (AR Cz rfl rfl (by (try dsimp only at *); omega) (by (try dsimp only at *); omega)) ?_
 refine Pf 9 rfl (AZ rfl FE .m1 ((Ad.l0.comp AH.l2).comp (AS.arr (n := 6) Am.fl (by (try dsimp only at *); omega) (by (try dsimp only at *); omega))) rfl) ?_
 refine An 10 rfl (by kernel_rfl) ?_
 refine BD rfl K3 rfl (fun b2 => ?_)
 refine Bp rfl ⟨?_, ?_⟩
 · exact (Po rfl (AZ rfl FE .m2 ((Ad.l0.comp AH.l2).comp (AS.arr (n := 6) Am.fl (by (try dsimp only at *); omega) (by (try dsimp only at *); omega))) rfl) rfl rfl (Po rfl (AR Cz rfl rfl (by (try dsimp only at *); omega) (by (try dsimp only at *); omega)) rfl rfl (Po rfl (Af Bj rfl) rfl rfl (Po rfl (Af A6 rfl) rfl rfl (Po rfl (BS rfl) rfl rfl (Po rfl (AF rfl A1 .m2 Ad.l1 rfl rfl) rfl rfl (Po rfl (Af CN rfl) rfl rfl (Po rfl (BS rfl) rfl rfl (Po rfl (AE rfl) rfl rfl (Po rfl (AE rfl) rfl rfl Au))))))))))
 refine An 11 rfl (by kernel_rfl) ?_
 refine AQ (AJ (AS.id Am.fl.len Am.fl.one) rfl rfl rfl Jr rfl .h) ?_
 refine BL rfl ⟨?_, ?_⟩
 · exact (Pk (Pk (Pk (Pk (Pk (Pk (Pk (Pk (Pk (Pk Au))))))))))
 refine A2 (by kernel_rfl) ?_
 refine AB (.t3 0 3 4) ?_
 refine AA (Ao ?_)
 refine BF (N := 14) [0, 1, 3, 7, 0, 16, 0, 64, 15, 271, 831, 1855, 4095, 8191] mix (by kernel_rfl) rfl ?_
 refine Pf 0 rfl (AE rfl) (Pf 1 rfl (BS rfl) (Pf 2 rfl (Af CN rfl) (Pf 3 rfl (AF rfl A1 .m2 Ad.l1 rfl rfl) (Pf 4 rfl (Af J4 rfl) (Pf 5 rfl (AF rfl CD .m0 Am.l0 rfl rfl) (Pf 6 rfl (Af Cx rfl) (Pf 7 rfl (AF rfl A1 .m0 Am.l3 rfl rfl) ?_)))))))
 refine Pf 8 rfl (Af P7 rfl) ?_
 refine An 9 rfl (by kernel_rfl) ?_
 refine AQ (AJ Ing.Event.l2 rfl rfl rfl C4 rfl (.t .h)) ?_
 refine BL rfl ⟨?_, ?_⟩
 · exact (Pk (Po rfl (AF rfl A1 .m0 Am.l3 rfl rfl) rfl rfl (Po rfl (Af Cx rfl) rfl rfl (Po rfl (AF rfl CD .m0 Am.l0 rfl rfl) rfl rfl (Po rfl (Af J4 rfl) rfl rfl (Pk (Pk (Pk (Pk Au)))))))))
 refine Pf 10 rfl (Af V6 rfl) ?_
 refine An 11 rfl (by kernel_rfl) ?_
 refine AQ (AJ Ing.Event.l6 rfl rfl rfl EU rfl (.t .h)) ?_
 refine BL rfl ⟨?_, ?_⟩
 · exact (Pk (Pk (Po rfl (AF rfl A1 .m0 Am.l3 rfl rfl) rfl rfl (Po rfl (Af Cx rfl) rfl rfl (Pk (Pk (Pk (Pk (Pk (Pk Au))))))))))
 refine Pf 12 rfl (Af WC rfl) ?_
 refine An 13 rfl (by kernel_rfl) ?_
 refine AQ (AJ Ing.Event.l1 rfl rfl rfl C4 rfl (.t .h)) ?_
 refine BL rfl ⟨?_, ?_⟩
 · exact (Pk (Pk (Pk (Pk (Pk (Pk (Pk (Pk (Pk (Pk (Pk Au)))))))))))
 refine A2 (by kernel_rfl) ?_
 refine AB (.t2 0 3) ?_
 refine AA (CC (Gt (Af GJ rfl) (Gt (AF rfl A1 .m1 Ing.Event.l3 rfl rfl) (Gt (CI rfl rfl) (Gn (.t3 0 3 28) ?_)))))
 refine Gc (fun c1 => ?_) (fun c1 => ?_)
 ·
  have c1p := kz c1
  refine BF (N := 11) [0, 0, 2, 1, 9, 25, 63, 127, 255, 511, 1023] mix (by kernel_rfl) rfl ?_
  refine Pf 0 rfl (AE rfl) (Pf 1 rfl (Af GJ rfl) (Pf 2 rfl (AF rfl A1 .m1 Ing.Event.l3 rfl rfl) (Pf 3 rfl (BS rfl) (Pf 4 rfl (Af A6 rfl) (Pf 5 rfl (Af Bj rfl) ?_)))))
  refine Pf 6 rfl (AR Cz rfl rfl (by (try dsimp only at *); omega) (by (try dsimp only at *); omega)) ?_
  refine Pf 7 rfl (Af J4 rfl) ?_
  refine Pf 8 rfl (AF rfl CD .m2 (((Ad.l0.comp AH.l2).comp (AS.arr (n := 6) Am.fl (by (try dsimp only at *); omega) (by (try dsimp only at *); omega))).comp Am.l0) rfl rfl) ?_
  refine Pf 9 rfl (Af Wa rfl) ?_
  refine An 10 rfl (by kernel_rfl) ?_
  refine AQ (AJ Ing.Event.l7 rfl rfl rfl EU rfl (.t .h)) ?_
  refine BL rfl ⟨?_, ?_⟩
  · exact (Pk (Pk (Pk (Pk (Pk (Pk (Pk (Pk (Pk (Pk Au))))))))))
  refine A2 (by kernel_rfl) ?_
  refine AB (.t2 0 3) ?_
  refine AA ?_
  refine BF (N := 16) [0, 0, 2, 6, 14, 0, 32, 96, 224, 0, 992, 2016, 4094, 8191, 16383, 32767] mix (by kernel_rfl) rfl ?_
  refine Pf 0 rfl (AE rfl) (Pf 1 rfl (AE rfl) (Pf 2 rfl (BS rfl) (Pf 3 rfl (Af CH rfl) (Pf 4 rfl (AF rfl DV .m2 Ad.l2 rfl rfl) (Pf 5 rfl (AE rfl) (Pf 6 rfl (BS rfl) (Pf 7 rfl (Af A6 rfl) ?_)))))))
  refine Pf 8 rfl (AZ rfl BT .m2 Ad.l0 rfl) (Pf 9 rfl (AZ rfl OH .m1 (AS.id Ing.Event.fl.len Ing.Event.fl.one) rfl) ?_)
  refine BX 10 rfl rfl (by kernel_rfl) (K9 (KH (Dt X8 (.c rfl (.c rfl .n)) (fun w hS => JN _ _ w)))) ?_
  refine An 11 rfl (by kernel_rfl) ?_
  refine FK Ing.Event.enc Ing.Event.fl rfl Tryz.underlying53 Ma Hb rfl (by decide) (by decide) rfl rfl (fun b3 => ?_)
  refine Bp rfl ⟨?_, ?_⟩
  · exact (Pk (Pk (Pk (Pk (Pk (Pk (Po rfl (AF rfl DV .m3 Ad.l2 rfl rfl) rfl rfl (Po rfl (Af CH rfl) rfl rfl (Po rfl (BS rfl) rfl rfl (Po rfl (AE rfl) rfl rfl (Po rfl (AE rfl) rfl rfl Au)))))))))))
  refine An 12 rfl (by kernel_rfl) ?_
  refine CV Ing.Event.fl rfl Tryz.underlying53 Ma Hb rfl Uz (by decide) (by decide) rfl rfl (fun w hS => Src.Dd Tryz.underlying53 ((Kn.own .m0) w hS)) (by (try dsimp only); omega) (fun _ => (.t (.t (.t (.t .h))))) (fun h1 h1l h1z => ?_)
  refine Bp rfl ⟨?_, ?_⟩
  · exact (Pk (Pk (Pk (Pk (Pk (Pk (Pk (Pk (Pk (Pk (Po rfl (AE rfl) rfl rfl Au)))))))))))
  refine Pf 13 rfl (BS rfl) (Pf 14 rfl (Af CH rfl) ?_)
  refine An 15 rfl (by kernel_rfl) ?_
  refine AQ (AJ Ad.l2 rfl rfl rfl Qz rfl (.t (.t (.t .h)))) ?_
  refine BL rfl ⟨?_, ?_⟩
  · exact (Pk (Pk (Pk (Pk (Pk (Pk (Pk (Pk (Pk (Pk (Pk (Pk (Pk Au)))))))))))))
  refine A2 (by kernel_rfl) ?_
  refine Bg rfl .n ?_
  intro w1 hS
  have hS := (hS.perm (Av.perm (.c (.t (.t (.t .h))) (.c (.t (.t (.t .h))) .n)))).Ay
  refine ⟨_, ⟨?gqTrue, rfl, ?hlTrue, ?hBTrue⟩, hS⟩
  case hBTrue => rw [AG.Bk, show T.D4 e = _ from BA c1]; rfl
  case hlTrue => simp only [AG.CW]; (try dsimp only at *); omega
 have c1p := kz c1
 refine Aa ?_
 refine AB (.t2 0 3) ?_
 refine AA ?_
 refine BF (N := 16) [0, 0, 2, 6, 14, 0, 32, 96, 224, 0, 992, 2016, 4094, 8191, 16383, 32767] mix (by kernel_rfl) rfl ?_
 refine Pf 0 rfl (AE rfl) (Pf 1 rfl (AE rfl) (Pf 2 rfl (BS rfl) (Pf 3 rfl (Af CH rfl) (Pf 4 rfl (AF rfl DV .m2 Ad.l2 rfl rfl) (Pf 5 rfl (AE rfl) (Pf 6 rfl (BS rfl) (Pf 7 rfl (Af A6 rfl) ?_)))))))
 refine Pf 8 rfl (AZ rfl BT .m2 Ad.l0 rfl) (Pf 9 rfl (AZ rfl OH .m1 (AS.id Ing.Event.fl.len Ing.Event.fl.one) rfl) ?_)
 refine BX 10 rfl rfl (by kernel_rfl) (K9 (KH (Dt X8 (.c rfl (.c rfl .n)) (fun w hS => JN _ _ w)))) ?_
 refine An 11 rfl (by kernel_rfl) ?_
 refine FK Ing.Event.enc Ing.Event.fl rfl Tryz.underlying53 Ma Hb rfl (by decide) (by decide) rfl rfl (fun b4 => ?_)
 refine Bp rfl ⟨?_, ?_⟩
 · exact (Pk (Pk (Pk (Pk (Pk (Pk (Po rfl (AF rfl DV .m3 Ad.l2 rfl rfl) rfl rfl (Po rfl (Af CH rfl) rfl rfl (Po rfl (BS rfl) rfl rfl (Po rfl (AE rfl) rfl rfl (Po rfl (AE rfl) rfl rfl Au)))))))))))
 refine An 12 rfl (by kernel_rfl) ?_
 refine CV Ing.Event.fl rfl Tryz.underlying53 Ma Hb rfl Uz (by decide) (by decide) rfl rfl (fun w hS => Src.Dd Tryz.underlying53 ((Kn.own .m0) w hS)) (by (try dsimp only); omega) (fun _ => (.t (.t (.t (.t .h))))) (fun h2 h2l h2z => ?_)
 refine Bp rfl ⟨?_, ?_⟩
 · exact (Pk (Pk (Pk (Pk (Pk (Pk (Pk (Pk (Pk (Pk (Po rfl (AE rfl) rfl rfl Au)))))))))))
 refine Pf 13 rfl (BS rfl) (Pf 14 rfl (Af CH rfl) ?_)
 refine An 15 rfl (by kernel_rfl) ?_
 refine AQ (AJ Ad.l2 rfl rfl rfl Qz rfl (.t (.t (.t .h)))) ?_
 refine BL rfl ⟨?_, ?_⟩
 · exact (Pk (Pk (Pk (Pk (Pk (Pk (Pk (Pk (Pk (Pk (Pk (Pk (Pk Au)))))))))))))
 refine A2 (by kernel_rfl) ?_
 refine Bg rfl .n ?_
 intro w1 hS
 have hS := (hS.perm (Av.perm (.c (.t (.t (.t .h))) (.c (.t (.t (.t .h))) .n)))).Ay
 refine ⟨_, ⟨?gqFalse, rfl, ?hlFalse, ?hBFalse⟩, hS⟩
 case hBFalse => rw [AG.Bk, show T.D4 e = _ from AU c1]; rfl
 case hlFalse => simp only [AG.CW]; (try dsimp only at *); omega
theorem Ft (b : Nat) (T : AG) (g : Hd) (k : Int) (hg : g.len = T.out.length) (hb : 0 ≤ T.b ∧ T.b < 6) (hn : T.out.length ≤ 100000) : II Tryz.prog 124 #[.pointer (some ⟨b, 0, none⟩), .int .i64 k] [Ac.box b 163 (Ad.enc ⟨T.w, T.b, g⟩), Ac.own g 56 16 (T.out.flatMap Ing.Event.enc)] (fun v B => ∃ g' : Hd, v = .tuple #[] ∧ g'.len = (T.kind k).out.length ∧ B = [Ac.box b 163 (Ad.enc ⟨(T.kind k).w, (T.kind k).b, g'⟩), Ac.own g' 56 16 ((T.kind k).out.flatMap Ing.Event.enc)]) := by
 intro w hS0
 refine Ai _ _ Tryz.func124 rfl rfl rfl (hS0) ?_
 refine AI (Gm rfl (Gm rfl (Gt (BC N6 Hb rfl (.cons Ing.Event.l0 rfl rfl rfl (.cons Ing.Event.l3 rfl rfl rfl .nil))) ?_)))
 refine Ah rfl NN (.c rfl (.c rfl .n)) (.c .h (.c .h .n)) (CL _ _ _ (AG.GH k) hg hb (show (-1 : Int) < 6 by decide) hn) (fun v1 B hv => ?_)
 obtain ⟨y2, rfl, y3, rfl⟩ := hv
 refine AP ?_
 refine Bg rfl .n ?_
 intro w1 hS
 have hS := (hS.perm (Av.perm (.c .h (.c .h .n)))).Ay
 exact ⟨_, ⟨_, rfl, by assumption, rfl⟩, hS⟩
theorem Ba (b : Nat) (T : AG) (g : Hd) (u : As) (hg : g.len = T.out.length) (hb : 0 ≤ T.b ∧ T.b < 6) (hn : T.out.length ≤ 100000) : II Tryz.prog 127 #[.pointer (some ⟨b, 0, none⟩), BQ u] [Ac.box b 163 (Ad.enc ⟨T.w, T.b, g⟩), Ac.own g 56 16 (T.out.flatMap Ing.Event.enc)] (fun v B => ∃ g' : Hd, v = .tuple #[] ∧ g'.len = (T.tell u).out.length ∧ B = [Ac.box b 163 (Ad.enc ⟨(T.tell u).w, (T.tell u).b, g'⟩), Ac.own g' 56 16 ((T.tell u).out.flatMap Ing.Event.enc)]) := by
 intro w hS0
 refine Ai _ _ Tryz.func127 rfl rfl rfl (hS0) ?_
 refine AI (Gm rfl (Gm rfl (Gt (BC N6 Hb rfl (.cons Ing.Event.l0 rfl rfl rfl (.cons Ing.Event.l3 rfl rfl rfl (.cons Ing.Event.l9 rfl rfl rfl .nil)))) ?_)))
 refine Ah rfl NN (.c rfl (.c rfl .n)) (.c .h (.c .h .n)) (CL _ _ _ { AG.GH 16 with text := u } hg hb (show (-1 : Int) < 6 by decide) hn) (fun v1 B hv => ?_)
 obtain ⟨y2, rfl, y3, rfl⟩ := hv
 refine AP ?_
 refine Bg rfl .n ?_
 intro w1 hS
 have hS := (hS.perm (Av.perm (.c .h (.c .h .n)))).Ay
 exact ⟨_, ⟨_, rfl, by assumption, rfl⟩, hS⟩
theorem HV (d : Int) (w : World) (gl0 : GV 0 AH.C6 w) : EF Tryz.prog 52 #[.int .i64 d] w fun v w' => v = BQ (AH.called d) ∧ B6 w w' := by
 refine Ai [] [] Tryz.func52 rfl rfl rfl (St.start w []) ?_
 refine Gs (Ga rfl (Gn (.t1 0) (CC (Gm rfl (Gt (A5 rfl rfl) (Gm rfl (BW 5 rfl rfl (fun q => AE rfl) ?_)))))))
 refine BW 5 rfl rfl (fun q => CI (cF rfl q) rfl) ?_
 refine Gt (BR rfl rfl (fun h => by rw [h]; rfl)) ?_
 refine Gn (.t2 0 8) ?_
 refine Gc (fun c1 => ?_) (fun c1 => ?_)
 ·
  refine Gs (Ga rfl (Gn (.t1 2) (Ab (AD ?_))))
  refine AY rfl (.tmp rfl .n) ?_
  intro w1 hS; refine ⟨?_, hS.Ak⟩; rw [show AH.called d = _ from BA c1]; rfl
 have c1p := kz c1
 have hr : 0 ≤ d ∧ d < 6 := by simp at c1; omega
 refine Aa ?_
 refine AB (.t1 0) ?_
 refine AA (Gs (Gm rfl ?_))
 refine Gt (AR WB rfl rfl (by omega) (by omega)) ?_
 refine Gt (QN gl0 rfl CD (AH.Np hr.1 hr.2)) (Ga rfl (Gn (.t1 2) (Ab ?_)))
 refine AY rfl (.tmp rfl .n) ?_
 intro w1 hS; refine ⟨?_, hS.Ak⟩; rw [show AH.called d = _ from AU c1]; rfl
theorem Ew (X : AH) (Cr at_ : Int) : II Tryz.prog 102 #[.agg X.enc.toArray, .int .i64 Cr, .int .i64 at_] [] (fun v B => ∃ h' : Hd, v = h'.val ∧ h'.len = (X.has Cr at_).length ∧ B = [Ac.own h' 3 1 ((X.has Cr at_).flatMap Ax)]) := by
 intro w hS0
 refine Ai _ _ Tryz.func102 rfl rfl rfl (hS0) ?_
 refine Gs ?_
 refine Bv rfl rfl rfl (fun b1 => ?_)
 refine Ga rfl (Gn (.t3 1 2 3) (Gs (Ga rfl (AP (AA (CC (Gt (Af Cq rfl) ?_)))))))
 refine Gt (AZ rfl S8 .m0 AH.l1 rfl) (Gm rfl (Gn (.t5 1 2 7 11 12) (Ae ?_)))
 refine Bn (.t5 7 12 1 2 11) ?_
 refine Ep Ax 3 1 ?_
 refine Dk (fun (k : Int) (xs : List Int) (g : Hd) => 0 ≤ k ∧ k ≤ 9 ∧ xs = X.OP Cr at_ k.toNat ∧ g.len = xs.length) (fun (k : Int) (xs : List Int) (g : Hd) => (9 - k).toNat) (fun (k : Int) (xs : List Int) (g : Hd) => [(7, g.val), (12, .int .i64 k)]) (fun (k : Int) (xs : List Int) (g : Hd) => [Ac.own g 3 1 (xs.flatMap Ax)]) (0) ([]) (_) ?_ rfl rfl (fun k xs g hI1 => ?_)
 · exact ⟨by omega, by omega, rfl, rfl⟩
 obtain ⟨hI11, hI12, hI13, hI14⟩ := hI1
 refine Gs (Gt (A5 rfl rfl) (AP (AA (Ao ?_))))
 refine Gc (fun c1 => ?_) (fun c1 => ?_)
 ·
  have c1p := kz c1
  have hxl := AH.Q6 X Cr at_ k.toNat
  rw [← hI13] at hxl
  refine Aa ?_
  refine AB (.t5 1 2 7 11 12) ?_
  refine AA (Ao (Ae (Gs (Gm rfl ?_))))
  refine Gt (Fl Al.fl Tryz.underlying30 K2 rfl rfl (by omega) (by omega)) ?_
  refine BD rfl Js rfl (fun b2 => ?_)
  refine Ga rfl ?_
  refine AQ (AJ (AS.id Al.fl.len Al.fl.one) rfl rfl rfl MT rfl .h) ?_
  refine Gn (.t7 1 2 7 8 9 11 12) (Gs (Gt (Af FB rfl) (Gt (AF rfl A1 .m0 Al.l2 rfl rfl) (Gm rfl (Gt (Ag rfl rfl) (Gm rfl (BZ 20 rfl rfl (fun q => Af C8 rfl) ?_)))))))
  refine BZ 20 rfl rfl (fun q => AF (BV rfl q) A1 .m0 Al.l3 rfl rfl) (BZ 20 rfl rfl (fun q => AE rfl) (BZ 20 rfl rfl (fun q => Ag (BV rfl q) (BV rfl q)) (Gt (BG rfl rfl (fun h => h)) (Gn (.t7 1 2 7 8 11 12 25) ?_))))
  refine Gc (fun c2 => ?_) (fun c2 => ?_)
  ·
   have c2p := kz c2
   refine AI (Gm rfl (Gm rfl ?_))
   refine FK Ax B0 rfl Tryz.underlying169 C4 ZE rfl (by decide) (by decide) rfl rfl (fun b3 => ?_)
   refine CV B0 rfl Tryz.underlying169 C4 ZE rfl af (by decide) (by decide) rfl rfl (fun w hS => Src.Dd Tryz.underlying169 ((Kn.own .m0) w hS)) (by (try dsimp only); omega) (fun _ => (.t (.t .h))) (fun h1 h1l h1z => ?_)
   refine Ga rfl ?_
   refine AP (AB (.t5 1 2 7 11 12) ?_)
   refine AT (AA (AI ?_))
   refine Gt (Aw rfl rfl (IntWalk.i64_in _ (by omega))) ?_
   refine Gm rfl ?_
   refine AP (AB (.t5 1 2 7 11 12) ?_)
   refine Bw (k + 1) _ _ ?_ ?_ (.t5 7 12 1 2 11) (.cons _ (.cons _ (.refl _)))
   · exact ⟨by omega, by omega, by rw [AH.YS hI11 c2, ← hI13], (by (try dsimp only at *) <;> (try simp only [List.length_append, List.length_cons, List.length_nil]) <;> omega)⟩
   · omega
  have c2p := kz c2
  refine Aa ?_
  refine AB (.t5 1 2 7 11 12) ?_
  refine AT (AA (AI ?_))
  refine Gt (Aw rfl rfl (IntWalk.i64_in _ (by omega))) ?_
  refine Gm rfl ?_
  refine AP (AB (.t5 1 2 7 11 12) ?_)
  refine Bw (k + 1) _ _ ?_ ?_ (.t5 7 12 1 2 11) (.cons _ (.refl _))
  · exact ⟨by omega, by omega, by rw [AH.YK hI11 c2, ← hI13], (by (try dsimp only at *) <;> (try simp only [List.length_append, List.length_cons, List.length_nil]) <;> omega)⟩
  · omega
 have c1p := kz c1
 obtain rfl : k = 9 := by omega
 refine Bb (AV (AV (Aj ?_)))
 refine AB (.t1 7) ?_
 refine AA (Gs (Gm rfl (Ga rfl (Gn (.t1 6) (Ab ?_)))))
 refine AY rfl (.tmp rfl .n) ?_
 intro w1 hS
 have hS := (hS.perm (Av.perm (.c .h .n))).Ay
 exact ⟨_, ⟨_, rfl, by rw [AH.R8, ← hI13]; assumption, by rw [AH.R8, ← hI13]⟩, hS⟩
theorem LQ (b : Nat) (T : AG) (g : Hd) (u : As) (f : Hd) (l : List Int) (hg : g.len = T.out.length) (hb : 0 ≤ T.b ∧ T.b < 6) (hf : f.len = l.length) (hl : l.length ≤ 9) (hi : ∀ i ∈ l, 0 ≤ i ∧ i < 9) (hw : T.w.D3) (hu : u.length ≤ 1000) (hn : T.out.length ≤ 100000) : II Tryz.prog 101 #[.pointer (some ⟨b, 0, none⟩), BQ u, f.val] [Ac.box b 163 (Ad.enc ⟨T.w, T.b, g⟩), Ac.own g 56 16 (T.out.flatMap Ing.Event.enc), Ac.own f 3 1 (l.flatMap Ax)] (fun v B => ∃ g' : Hd, v = .tuple #[] ∧ g'.len = (T.list u l).out.length ∧ B = [Ac.box b 163 (Ad.enc ⟨(T.list u l).w, (T.list u l).b, g'⟩), Ac.own g' 56 16 ((T.list u l).out.flatMap Ing.Event.enc), Ac.own f 3 1 (l.flatMap Ax)]) := by
 intro w hS0
 refine Ai _ _ Tryz.func101 rfl rfl rfl (hS0) ?_
 refine CC (Gm rfl (Gt (Aq rfl Tryz.underlying169 rfl) (Gm rfl (AP (AA (Ae ?_))))))
 refine Bn (.t6 1 10 0 2 8 9) ?_
 refine Gr (fun (k : Int) (x : As) => 0 ≤ k ∧ k ≤ (l.length : Int) ∧ AG.HS T.w u l = AG.HS T.w x (l.drop k.toNat) ∧ x.length ≤ 1000 + k.toNat * 140737488351300) (fun (k : Int) (x : As) => ((l.length : Int) - k).toNat) (fun (k : Int) (x : As) => [(1, BQ x), (10, .int .i64 k)]) (fun (k : Int) (x : As) => []) (0) (u) ?_ rfl rfl (fun k x hI1 => ?_)
 · exact ⟨by omega, by omega, by simp, by simp; omega⟩
 obtain ⟨hI11, hI12, hI13, hI14⟩ := hI1
 refine Gs (Gt (A5 rfl rfl) (AP (AA (Ao ?_))))
 refine Gc (fun c1 => ?_) (fun c1 => ?_)
 ·
  have c1p := kz c1
  have hx := hi _ (Bc.Ec (xs := l) (i := k.toNat) (by omega))
  have hnl := hw.th (l.getD k.toNat 0)
  refine Aa ?_
  refine AB (.t6 0 1 2 8 9 10) ?_
  refine AA (Ao (Ae (Gs ?_)))
  refine Gt (Bo F1 (by decide) (Kn.own .m2) rfl rfl (by omega) (by omega)) ?_
  refine Gt (C7 rfl A1 (Kn.own .m2) (by omega)) ?_
  refine Ga rfl (Gn (.t7 0 1 2 7 8 9 10) (Gs (Gm rfl (Gm rfl (Gm rfl (Gt (BS rfl) (Gt (Af A6 rfl) ?_)))))))
  refine Gt (Af Cq rfl) ?_
  refine Gt (AR Ff rfl rfl (by (try dsimp only at *); (try simp only [List.length_append, List.length_cons, List.length_nil]); omega) (by (try dsimp only at *); (try simp only [List.length_append, List.length_cons, List.length_nil]); omega)) ?_
  refine Gt (Af Li rfl) ?_
  refine Gt (AF rfl CD .m0 (((Ad.l0.comp AH.l1).comp (AS.arr (n := 9) Al.fl (by (try dsimp only at *); (try simp only [List.length_append, List.length_cons, List.length_nil]); omega) (by (try dsimp only at *); (try simp only [List.length_append, List.length_cons, List.length_nil]); omega))).comp Al.l0) rfl rfl) ?_
  refine Gt (CQ rfl rfl (by (try dsimp only at *); (try simp only [List.length_append, List.length_cons, List.length_nil]); omega)) ?_
  refine Gt (CQ rfl rfl (by (try dsimp only at *); (try simp only [List.length_append, List.length_cons, List.length_nil]); omega)) ?_
  refine Ga rfl (Gn (.t7 0 1 2 7 8 9 10) (Gs (Gm rfl (Gm rfl (Gt (BS rfl) (Gt (Af A6 rfl) (Gt (Af Cq rfl) ?_)))))))
  refine Gt (AR Ff rfl rfl (by (try dsimp only at *); (try simp only [List.length_append, List.length_cons, List.length_nil]); omega) (by (try dsimp only at *); (try simp only [List.length_append, List.length_cons, List.length_nil]); omega)) ?_
  refine Gt (Af Fg rfl) ?_
  refine Gt (AF rfl Cu .m0 (((Ad.l0.comp AH.l1).comp (AS.arr (n := 9) Al.fl (by (try dsimp only at *); (try simp only [List.length_append, List.length_cons, List.length_nil]); omega) (by (try dsimp only at *); (try simp only [List.length_append, List.length_cons, List.length_nil]); omega))).comp Al.l4) rfl rfl) ?_
  refine Gn (.t7 0 1 2 8 9 10 32) ?_
  refine Gc (fun c2 => ?_) (fun c2 => ?_)
  ·
   have c2p := kz c2
   refine AI (Gm rfl ?_)
   refine Gt (CQ rfl rfl (by (try dsimp only at *); (try simp only [List.length_append, List.length_cons, List.length_nil]); omega)) ?_
   refine Ga rfl ?_
   refine AP (AB (.t6 0 1 2 8 9 10) ?_)
   refine AT (AA (AI ?_))
   refine Gt (Aw rfl rfl (IntWalk.i64_in _ (by (try dsimp only at *); (try simp only [List.length_append, List.length_cons, List.length_nil]); omega))) ?_
   refine Gm rfl ?_
   refine AP (AB (.t6 0 1 2 8 9 10) ?_)
   refine DP (k + 1) _ ?_ ?_ (.t6 1 10 0 2 8 9) (.refl _)
   · exact ⟨by omega, by omega, by rw [hI13, AG.Xb hI11 (by omega) c2], by simp only [List.length_append, List.length_cons, List.length_nil]; omega⟩
   · omega
  have c2p := kz c2
  refine Aa ?_
  refine AB (.t6 0 1 2 8 9 10) ?_
  refine AT (AA (AI ?_))
  refine Gt (Aw rfl rfl (IntWalk.i64_in _ (by (try dsimp only at *); (try simp only [List.length_append, List.length_cons, List.length_nil]); omega))) ?_
  refine Gm rfl ?_
  refine AP (AB (.t6 0 1 2 8 9 10) ?_)
  refine DP (k + 1) _ ?_ ?_ (.t6 1 10 0 2 8 9) (.refl _)
  · exact ⟨by omega, by omega, by rw [hI13, AG.Xr hI11 (by omega) c2], by simp only [List.length_append, List.length_cons, List.length_nil]; omega⟩
  · omega
 have c1p := kz c1
 obtain rfl : k = (l.length : Int) := by omega
 rw [show (l.length : Int).toNat = l.length by omega, List.drop_length] at hI13
 refine Bb (AV (AV (Aj ?_)))
 refine AB (.t3 0 1 2) ?_
 refine AA (CC (Gm rfl (Gt (Aq rfl Tryz.underlying169 rfl) (Gt (Ag rfl rfl) (Gn (.t3 0 1 38) ?_)))))
 refine Gc (fun c3 => ?_) (fun c3 => ?_)
 ·
  have c3p := kz c3
  rw [hf] at c3
  refine AI (Gm rfl ?_)
  refine Gt (CQ rfl rfl (by (try dsimp only at *); (try simp only [List.length_append, List.length_cons, List.length_nil]); omega)) ?_
  refine Ga rfl (Gn (.t2 0 1) (AI (Gm rfl (Gm rfl ?_))))
  refine Gt (CQ rfl rfl (by (try dsimp only at *); (try simp only [List.length_append, List.length_cons, List.length_nil]); omega)) ?_
  refine Ah rfl Dz (.c rfl (.c rfl .n)) (.c .h (.c .h .n)) (Ba _ _ _ _ hg hb hn) (fun v1 B hv => ?_)
  obtain ⟨y2, rfl, y3, rfl⟩ := hv
  refine AP ?_
  refine Bg rfl .n ?_
  intro w1 hS
  have hS := (hS.perm (Av.perm (.c .h (.c .h (.c .h .n))))).Ay
  refine ⟨_, ⟨?gqTrue, rfl, ?hlTrue, ?hBTrue⟩, hS⟩
  case hBTrue => rw [AG.list, show AG.Qv T.w u l = _ from BA c3, hI13]; rfl
  case hlTrue => (try simp only [AG.CE] at *); rw [(AG.Ij T u l).2.2]; assumption
 have c3p := kz c3
 rw [hf] at c3
 refine Aa ?_
 refine AB (.t2 0 1) ?_
 refine AA (AI (Gm rfl (Gm rfl ?_)))
 refine Gt (CQ rfl rfl (by (try dsimp only at *); (try simp only [List.length_append, List.length_cons, List.length_nil]); omega)) ?_
 refine Ah rfl Dz (.c rfl (.c rfl .n)) (.c .h (.c .h .n)) (Ba _ _ _ _ hg hb hn) (fun v4 B hv => ?_)
 obtain ⟨y5, rfl, y6, rfl⟩ := hv
 refine AP ?_
 refine Bg rfl .n ?_
 intro w1 hS
 have hS := (hS.perm (Av.perm (.c .h (.c .h (.c .h .n))))).Ay
 refine ⟨_, ⟨?gqFalse, rfl, ?hlFalse, ?hBFalse⟩, hS⟩
 case hBFalse => rw [AG.list, show AG.Qv T.w u l = _ from AU c3, hI13]; rfl
 case hlFalse => (try simp only [AG.CE] at *); rw [(AG.Ij T u l).2.2]; assumption
end Go.Proofs.YtoidpggbbfncpaaGreatDoor
