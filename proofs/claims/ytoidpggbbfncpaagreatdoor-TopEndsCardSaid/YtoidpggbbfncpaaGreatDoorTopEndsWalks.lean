/- What the functions that the law TopEnds reaches compute: walks, part 1. No condition. -/
import Derived.Test.YtoidpggbbfncpaaGreatDoorCards
import Derived.Test.YtoidpggbbfncpaaGreatDoorTie
import Derived.Deep.DeepHandedRow
import Derived.Test.YtoidpggbbfncpaaGreatDoorRows
import Derived.Test.YtoidpggbbfncpaaGreatDoorTopEndsEc3
import Derived.Test.YtoidpggbbfncpaaGreatDoorTopEndsRa1
import Derived.Test.YtoidpggbbfncpaaGreatDoorTopEndsRb1
import Derived.Test.YtoidpggbbfncpaaGreatDoorTopEndsRc1
set_option linter.unusedSimpArgs false
set_option linter.unusedVariables false
set_option maxRecDepth 100000
set_option maxHeartbeats 1000000
namespace Go.Proofs.YtoidpggbbfncpaaGreatDoor
open Go Go.Ing Go.RowKit Go.ChangeShapes Go.WideShapes Go.ChangeAt
theorem Li : ZV Tryz.prog 35 (.agg (AH.enc (default : AH)).toArray) := Ey (by kernel_rfl)
theorem C3 : Sz Tryz.prog 3 1 := Di (by kernel_rfl)
theorem UG : ZV Tryz.prog 23 (.agg (B7 (n := 6) Ax (Vector.replicate 6 default)).toArray) := Ey (by kernel_rfl)
theorem Jr : Sz Tryz.prog 4 1 := Di (by kernel_rfl)
theorem Zb : ZV Tryz.prog 24 (.agg (B7 (n := 6) CS (Vector.replicate 6 default)).toArray) := Ey (by kernel_rfl)
theorem EW : Sz Tryz.prog 9 1 := Di (by kernel_rfl)
theorem V5 : Sz Tryz.prog 23 6 := Di (by kernel_rfl)
theorem Y6 : Sz Tryz.prog 24 6 := Di (by kernel_rfl)
theorem Ty : G1 Tryz.prog 26 [(0, 1), (1, 1), (2, 6), (8, 6)] := ⟨_, Tryz.underlying26, fun w => by simp [EW w, Jr w, V5 w, Y6 w]⟩
theorem M1 : ZV Tryz.prog 26 (.agg (Room.enc (default : Room)).toArray) := Ey (by kernel_rfl)
theorem PM : Sz Tryz.prog 26 14 := Di (by kernel_rfl)
theorem cC : IS Tryz.prog 95 14 := M0 Tryz.underlying95 PM
theorem ME : MW Tryz.prog 26 14 := EO Tryz.underlying26 rfl PM
theorem Zn : Sz Tryz.prog 27 84 := Di (by kernel_rfl)
theorem GR : FA Tryz.prog 35 0 0 := Br Tryz.underlying35 rfl Zn
theorem Nc : IA Tryz.prog 27 6 14 := MI Tryz.underlying27 PM
theorem Pl : G1 Tryz.prog 29 [(0, 1), (1, 1), (2, 1), (3, 1), (4, 1)] := ⟨_, Tryz.underlying29, fun w => by simp [EW w, C3 w, Jr w]⟩
theorem Jt : ZV Tryz.prog 29 (.agg (Ak.enc (default : Ak)).toArray) := Ey (by kernel_rfl)
theorem MJ : Sz Tryz.prog 29 5 := Di (by kernel_rfl)
theorem bg : IS Tryz.prog 96 5 := M0 Tryz.underlying96 MJ
theorem Kt : MW Tryz.prog 29 5 := EO Tryz.underlying29 rfl MJ
theorem Z3 : Sz Tryz.prog 30 45 := Di (by kernel_rfl)
theorem Cp : FA Tryz.prog 35 1 84 := Br Tryz.underlying35 rfl Z3
theorem Fo : IA Tryz.prog 30 9 5 := MI Tryz.underlying30 MJ
theorem U9 : G1 Tryz.prog 32 [(0, 1), (1, 1), (2, 1), (3, 1), (4, 1), (5, 1)] := ⟨_, Tryz.underlying32, fun w => by simp [EW w, Jr w, C3 w]⟩
theorem LM : ZV Tryz.prog 32 (.agg (Al.enc (default : Al)).toArray) := Ey (by kernel_rfl)
theorem aP : Sz Tryz.prog 33 36 := Di (by kernel_rfl)
theorem Bi : FA Tryz.prog 35 2 129 := Br Tryz.underlying35 rfl aP
theorem Jm : Sz Tryz.prog 32 6 := Di (by kernel_rfl)
theorem Cy : IA Tryz.prog 33 6 6 := MI Tryz.underlying33 Jm
theorem Dt : Sz Tryz.prog 35 165 := Di (by kernel_rfl)
theorem BT : MW Tryz.prog 35 165 := EO Tryz.underlying35 rfl Dt
theorem bT : CF Tryz.prog 15 := Tryz.call15
theorem aa : Sz Tryz.prog 99 88 := Di (by kernel_rfl)
theorem Qp : Sz Tryz.prog 53 1 := Di (by kernel_rfl)
theorem aA : G1 Tryz.prog 101 [(0, 165), (165, 88), (253, 1), (254, 1)] := ⟨_, Tryz.underlying101, fun w => by simp [Dt w, aa w, C3 w, Qp w]⟩
theorem Zs : ZV Tryz.prog 101 (.agg (AJ.enc (default : AJ)).toArray) := Ey (by kernel_rfl)
theorem RM : ZV Tryz.prog 9 (BP []) := Ey (by kernel_rfl)
theorem VY : BY Tryz.prog 9 16 := TH (by kernel_rfl)
theorem Xt : ZV Tryz.prog 75 (.agg (BC.enc ⟨[], false, false, ⟨none, 0, 0⟩⟩).toArray) := Ey (by kernel_rfl)
theorem LV : Sz Tryz.prog 52 1 := Di (by kernel_rfl)
theorem EU : FA Tryz.prog 75 3 3 := Br Tryz.underlying75 rfl LV
theorem EI : O0 Tryz.prog 52 := IK Tryz.underlying52 rfl
theorem LU : Sz Tryz.prog 75 4 := Di (by kernel_rfl)
theorem HL : MW Tryz.prog 75 4 := EO Tryz.underlying75 rfl LU
theorem H9 : IS Tryz.prog 52 1 := M0 Tryz.underlying52 EW
theorem CB : O0 Tryz.prog 9 := IK Tryz.underlying9 rfl
theorem U4 : CF Tryz.prog 69 := Tryz.call69
theorem Rq : ZV Tryz.prog 65 (.agg (Ar.enc ⟨⟨none, 0, 0⟩, 0, false, [], false⟩).toArray) := Ey (by kernel_rfl)
theorem Ly : FA Tryz.prog 65 2 2 := Br Tryz.underlying65 rfl Jr
theorem Ix : FA Tryz.prog 65 1 1 := Br Tryz.underlying65 rfl C3
theorem E4 : Sz Tryz.prog 65 5 := Di (by kernel_rfl)
theorem Cn : MW Tryz.prog 65 5 := EO Tryz.underlying65 rfl E4
theorem mix : Tryz.prog.follows .mixedOrders = true := by kernel_rfl
theorem aL : CF Tryz.prog 116 := Tryz.call116
theorem X2 : CF Tryz.prog 115 := Tryz.call115
theorem GO : FA Tryz.prog 29 1 1 := Br Tryz.underlying29 rfl C3
theorem A1 : O0 Tryz.prog 3 := IK Tryz.underlying3 rfl
theorem Fb : FA Tryz.prog 29 4 4 := Br Tryz.underlying29 rfl Jr
theorem Ct : O0 Tryz.prog 4 := IK Tryz.underlying4 rfl
theorem C5 : FA Tryz.prog 29 3 3 := Br Tryz.underlying29 rfl C3
theorem E5 : FA Tryz.prog 29 2 2 := Br Tryz.underlying29 rfl C3
theorem Hg : FA Tryz.prog 32 1 1 := Br Tryz.underlying32 rfl Jr
theorem YA : MW Tryz.prog 27 84 := EO Tryz.underlying27 rfl Zn
theorem Lw : FA Tryz.prog 26 2 2 := Br Tryz.underlying26 rfl V5
theorem WU : MW Tryz.prog 23 6 := EO Tryz.underlying23 rfl V5
theorem L0 : FA Tryz.prog 26 3 8 := Br Tryz.underlying26 rfl Y6
theorem Ul : IA Tryz.prog 24 6 1 := MI Tryz.underlying24 Jr
theorem Vl : MW Tryz.prog 33 36 := EO Tryz.underlying33 rfl aP
theorem FB : MW Tryz.prog 32 6 := EO Tryz.underlying32 rfl Jm
theorem Cx : FA Tryz.prog 32 3 3 := Br Tryz.underlying32 rfl C3
theorem I2 : FA Tryz.prog 32 4 4 := Br Tryz.underlying32 rfl C3
theorem Fi : FA Tryz.prog 32 5 5 := Br Tryz.underlying32 rfl C3
theorem aw : CF Tryz.prog 68 := Tryz.call68
theorem YY : FA Tryz.prog 26 1 1 := Br Tryz.underlying26 rfl Jr
theorem TM : MW Tryz.prog 30 45 := EO Tryz.underlying30 rfl Z3
theorem bw : CF Tryz.prog 19 := Tryz.call19
theorem V0 : CF Tryz.prog 159 := Tryz.call159
theorem Sy : CF Tryz.prog 129 := Tryz.call129
theorem VO : FA Tryz.prog 32 2 2 := Br Tryz.underlying32 rfl Jr
theorem X5 : CF Tryz.prog 160 := Tryz.call160
theorem QT : FA Tryz.prog 56 2 2 := Br Tryz.underlying56 rfl C3
theorem GP : FA Tryz.prog 56 3 3 := Br Tryz.underlying56 rfl C3
theorem Mm : CF Tryz.prog 130 := Tryz.call130
theorem Sj : FA Tryz.prog 56 0 0 := Br Tryz.underlying56 rfl C3
theorem Vt : FA Tryz.prog 56 1 1 := Br Tryz.underlying56 rfl C3
theorem ZQ : CF Tryz.prog 173 := Tryz.call173
theorem H2 : ZV Tryz.prog 56 (.agg (Ing.Event.enc (default : Ing.Event)).toArray) := Ey (by kernel_rfl)
theorem NY : Sz Tryz.prog 56 16 := Di (by kernel_rfl)
theorem Nf : MW Tryz.prog 56 16 := EO Tryz.underlying56 rfl NY
theorem Z8 : CF Tryz.prog 157 := Tryz.call157
theorem Ma : FA Tryz.prog 56 10 10 := Br Tryz.underlying56 rfl V5
theorem QX : IA Tryz.prog 23 6 1 := MI Tryz.underlying23 C3
theorem CL : FA Tryz.prog 163 1 165 := Br Tryz.underlying163 rfl C3
theorem A6 : FA Tryz.prog 163 0 0 := Br Tryz.underlying163 rfl Dt
theorem Kc : FA Tryz.prog 32 0 0 := Br Tryz.underlying32 rfl EW
theorem Vu : FA Tryz.prog 56 6 6 := Br Tryz.underlying56 rfl EW
theorem Ws : FA Tryz.prog 56 7 7 := Br Tryz.underlying56 rfl EW
theorem CG : FA Tryz.prog 163 2 166 := Br Tryz.underlying163 rfl Qp
theorem DZ : O0 Tryz.prog 53 := IK Tryz.underlying53 rfl
theorem Xy : CF Tryz.prog 123 := Tryz.call123
theorem WD : BY Tryz.prog 56 160 := TH (by kernel_rfl)
theorem Ng : G1 Tryz.prog 56 [(0, 1), (1, 1), (2, 1), (3, 1), (4, 1), (5, 1), (6, 1), (7, 1), (8, 1), (9, 1), (10, 6)] := ⟨_, Tryz.underlying56, fun w => by simp [C3 w, EW w, V5 w]⟩
theorem OF : CF Tryz.prog 96 := Tryz.call96
theorem VC : IA Tryz.prog 133 21 1 := MI Tryz.underlying133 EW
theorem ZG : ZV Tryz.prog 3 (.int .i64 0) := Ey (by kernel_rfl)
theorem aj : BY Tryz.prog 3 8 := TH (by kernel_rfl)
theorem F5 : IS Tryz.prog 169 1 := M0 Tryz.underlying169 C3
theorem Lx : FA Tryz.prog 29 0 0 := Br Tryz.underlying29 rfl EW
theorem Dx : CF Tryz.prog 127 := Tryz.call127
theorem YN : FA Tryz.prog 26 0 0 := Br Tryz.underlying26 rfl EW
theorem ZP : CF Tryz.prog 52 := Tryz.call52
theorem Q7 : CF Tryz.prog 102 := Tryz.call102
theorem Xz : CF Tryz.prog 101 := Tryz.call101
theorem Yq : CF Tryz.prog 43 := Tryz.call43
theorem cH : CF Tryz.prog 46 := Tryz.call46
theorem TL : G1 Tryz.prog 163 [(0, 165), (165, 1), (166, 1)] := ⟨_, Tryz.underlying163, fun w => by simp [Dt w, C3 w, Qp w]⟩
theorem TV : ZV Tryz.prog 163 (.agg (Ad.enc (default : Ad)).toArray) := Ey (by kernel_rfl)
theorem S1 : CF Tryz.prog 124 := Tryz.call124
theorem Td : CF Tryz.prog 100 := Tryz.call100
theorem YG : Sz Tryz.prog 104 1 := Di (by kernel_rfl)
theorem Pb : FA Tryz.prog 107 0 0 := Br Tryz.underlying107 rfl YG
theorem Vf : O0 Tryz.prog 104 := IK Tryz.underlying104 rfl
theorem Sa : ∃ i, Tryz.prog.info? 107 = some i ∧ i.size ≠ 0 := by
  have h : (Tryz.prog.info? 107).map (·.size) = some 2 := by kernel_rfl
  obtain ⟨i, h1, h2⟩ := Option.map_eq_some_iff.1 h
  exact ⟨i, h1, by omega⟩
theorem Yv : CF Tryz.prog 71 := Tryz.call71
theorem S9 : Sz Tryz.prog 105 1 := Di (by kernel_rfl)
theorem El : FA Tryz.prog 107 1 1 := Br Tryz.underlying107 rfl S9
theorem Ha : O0 Tryz.prog 105 := IK Tryz.underlying105 rfl
theorem Ue : Sz Tryz.prog 5 1 := Di (by kernel_rfl)
theorem Y4 : ZV Tryz.prog 5 (.int .u8 0) := Ey (by kernel_rfl)
theorem aq : BY Tryz.prog 5 1 := TH (by kernel_rfl)
theorem ca : Tryz.prog.cellsOf 5 = 1 := by kernel_rfl
theorem bI : CF Tryz.prog 49 := Tryz.call49
theorem TB : ZV Tryz.prog 107 (.agg (DH.enc ⟨none, ⟨none, 0, 0⟩⟩).toArray) := Ey (by kernel_rfl)
theorem W3 : CF Tryz.prog 50 := Tryz.call50
theorem OS : CF Tryz.prog 51 := Tryz.call51
theorem Yj : FA Tryz.prog 56 8 8 := Br Tryz.underlying56 rfl EW
theorem YR : FA Tryz.prog 56 4 4 := Br Tryz.underlying56 rfl C3
theorem Y9 : FA Tryz.prog 56 9 9 := Br Tryz.underlying56 rfl EW
theorem Yw : FA Tryz.prog 56 5 5 := Br Tryz.underlying56 rfl C3
theorem bb : CF Tryz.prog 53 := Tryz.call53
theorem W0 : CF Tryz.prog 54 := Tryz.call54
theorem GN : FA Tryz.prog 65 0 0 := Br Tryz.underlying65 rfl LV
theorem Hm : FA Tryz.prog 65 3 3 := Br Tryz.underlying65 rfl EW
theorem YK : CF Tryz.prog 44 := Tryz.call44
theorem Ig : FA Tryz.prog 65 4 4 := Br Tryz.underlying65 rfl Jr
theorem Db : FA Tryz.prog 98 4 16 := Br Tryz.underlying98 rfl E4
theorem bU : CF Tryz.prog 82 := Tryz.call82
theorem P5 : FA Tryz.prog 98 5 21 := Br Tryz.underlying98 rfl LV
theorem PZ : FA Tryz.prog 101 3 254 := Br Tryz.underlying101 rfl Qp
theorem av : IS Tryz.prog 53 16 := M0 Tryz.underlying53 NY
theorem FO : FA Tryz.prog 101 1 165 := Br Tryz.underlying101 rfl aa
theorem Se : Sz Tryz.prog 98 22 := Di (by kernel_rfl)
theorem Mq : IA Tryz.prog 99 4 22 := MI Tryz.underlying99 Se
theorem IH : FA Tryz.prog 98 0 0 := Br Tryz.underlying98 rfl C3
theorem Hl : FA Tryz.prog 98 1 1 := Br Tryz.underlying98 rfl C3
theorem cM : CF Tryz.prog 23 := Tryz.call23
theorem Sv : CF Tryz.prog 64 := Tryz.call64
theorem Du : FA Tryz.prog 101 0 0 := Br Tryz.underlying101 rfl Dt
theorem aT : CF Tryz.prog 114 := Tryz.call114
theorem Un : CF Tryz.prog 79 := Tryz.call79
theorem LI : ZV Tryz.prog 151 (.agg (Order.enc (default : Order)).toArray) := Ey (by kernel_rfl)
theorem Rk : G1 Tryz.prog 151 [(0, 1), (1, 1), (2, 1), (3, 1), (4, 1), (5, 1)] := ⟨_, Tryz.underlying151, fun w => by simp [C3 w, Jr w, EW w]⟩
theorem Dq : Sz Tryz.prog 151 6 := Di (by kernel_rfl)
theorem B8 : MW Tryz.prog 151 6 := EO Tryz.underlying151 rfl Dq
theorem bz : CF Tryz.prog 87 := Tryz.call87
theorem Zd : CF Tryz.prog 76 := Tryz.call76
theorem Xv : CF Tryz.prog 174 := Tryz.call174
theorem VV : CF Tryz.prog 176 := Tryz.call176
theorem Zj : CF Tryz.prog 179 := Tryz.call179
theorem Vm : IS Tryz.prog 105 1 := M0 Tryz.underlying105 Ue
theorem Z7 : O0 Tryz.prog 5 := IK Tryz.underlying5 rfl
theorem ZO : CF Tryz.prog 167 := Tryz.call167
theorem ZT : CF Tryz.prog 168 := Tryz.call168
theorem X0 : CF Tryz.prog 180 := Tryz.call180
theorem Zf : Sz Tryz.prog 133 21 := Di (by kernel_rfl)
theorem Yf : MW Tryz.prog 133 21 := EO Tryz.underlying133 rfl Zf
theorem aU : CF Tryz.prog 169 := Tryz.call169
theorem bu : CF Tryz.prog 59 := Tryz.call59
theorem aS : CF Tryz.prog 181 := Tryz.call181
theorem Zx : CF Tryz.prog 170 := Tryz.call170
theorem X3 : CF Tryz.prog 171 := Tryz.call171
theorem aF : CF Tryz.prog 30 := Tryz.call30
theorem aG : CF Tryz.prog 172 := Tryz.call172
theorem Zy : CF Tryz.prog 151 := Tryz.call151
theorem H7 : CF Tryz.prog 150 := Tryz.call150
theorem YC : CF Tryz.prog 152 := Tryz.call152
theorem ZM : CF Tryz.prog 153 := Tryz.call153
theorem Zg : CF Tryz.prog 94 := Tryz.call94
theorem QB : FA Tryz.prog 151 5 5 := Br Tryz.underlying151 rfl EW
theorem FQ : FA Tryz.prog 151 3 3 := Br Tryz.underlying151 rfl EW
theorem Fx : FA Tryz.prog 151 1 1 := Br Tryz.underlying151 rfl C3
theorem Tc : CF Tryz.prog 154 := Tryz.call154
theorem Ge : FA Tryz.prog 151 2 2 := Br Tryz.underlying151 rfl Jr
theorem X7 : CF Tryz.prog 155 := Tryz.call155
theorem X9 : CF Tryz.prog 156 := Tryz.call156
theorem HX : FA Tryz.prog 151 4 4 := Br Tryz.underlying151 rfl EW
theorem YE : CF Tryz.prog 128 := Tryz.call128
theorem S7 : CF Tryz.prog 136 := Tryz.call136
theorem YF : CF Tryz.prog 125 := Tryz.call125
theorem YH : CF Tryz.prog 131 := Tryz.call131
theorem VZ : CF Tryz.prog 132 := Tryz.call132
theorem Oz : CF Tryz.prog 134 := Tryz.call134
theorem aX : CF Tryz.prog 161 := Tryz.call161
theorem X8 : CF Tryz.prog 133 := Tryz.call133
theorem Nu : CF Tryz.prog 135 := Tryz.call135
theorem C1 : FA Tryz.prog 151 0 0 := Br Tryz.underlying151 rfl C3
theorem aQ : CF Tryz.prog 137 := Tryz.call137
theorem aB : CF Tryz.prog 138 := Tryz.call138
theorem Zk : CF Tryz.prog 139 := Tryz.call139
theorem S2 : CF Tryz.prog 140 := Tryz.call140
theorem bo : CF Tryz.prog 99 := Tryz.call99
theorem Zc : CF Tryz.prog 103 := Tryz.call103
theorem ZW : CF Tryz.prog 104 := Tryz.call104
theorem Z2 : CF Tryz.prog 105 := Tryz.call105
theorem Zq : CF Tryz.prog 106 := Tryz.call106
theorem aJ : CF Tryz.prog 107 := Tryz.call107
theorem Wy : CF Tryz.prog 84 := Tryz.call84
theorem Jp : Sz Tryz.prog 69 10 := Di (by kernel_rfl)
theorem Uf : G1 Tryz.prog 98 [(0, 1), (1, 1), (2, 10), (12, 4), (16, 5), (21, 1)] := ⟨_, Tryz.underlying98, fun w => by simp [C3 w, Jp w, LU w, E4 w, LV w]⟩
theorem Ui : ZV Tryz.prog 98 (.agg (A0.enc (default : A0)).toArray) := Ey (by kernel_rfl)
theorem ZU : CF Tryz.prog 122 := Tryz.call122
theorem YP : CF Tryz.prog 67 := Tryz.call67
theorem KW : FA Tryz.prog 98 3 12 := Br Tryz.underlying98 rfl LU
theorem bx : CF Tryz.prog 91 := Tryz.call91
theorem bm : CF Tryz.prog 92 := Tryz.call92
theorem cA : CF Tryz.prog 93 := Tryz.call93
theorem bQ : CF Tryz.prog 95 := Tryz.call95
theorem bF : CF Tryz.prog 97 := Tryz.call97
theorem Z5 : CF Tryz.prog 186 := Tryz.call186
theorem Zl : CF Tryz.prog 175 := Tryz.call175
theorem Zu : CF Tryz.prog 158 := Tryz.call158
theorem aY : CF Tryz.prog 126 := Tryz.call126
theorem Wg : CF Tryz.prog 62 := Tryz.call62
theorem cG : CF Tryz.prog 98 := Tryz.call98
theorem KT : FA Tryz.prog 98 2 2 := Br Tryz.underlying98 rfl Jp
theorem Pw : FA Tryz.prog 69 5 9 := Br Tryz.underlying69 rfl C3
theorem bV : CF Tryz.prog 83 := Tryz.call83
theorem bn : CF Tryz.prog 77 := Tryz.call77
theorem ba : CF Tryz.prog 78 := Tryz.call78
theorem RI : CF Tryz.prog 65 := Tryz.call65
theorem Zh : Sz Tryz.prog 67 3 := Di (by kernel_rfl)
theorem J4 : FA Tryz.prog 69 3 3 := Br Tryz.underlying69 rfl Zh
theorem J7 : IA Tryz.prog 67 3 1 := MI Tryz.underlying67 C3
theorem I3 : FA Tryz.prog 69 4 6 := Br Tryz.underlying69 rfl Zh
theorem FL : FA Tryz.prog 69 0 0 := Br Tryz.underlying69 rfl C3
theorem Kb : FA Tryz.prog 69 1 1 := Br Tryz.underlying69 rfl C3
theorem GK : FA Tryz.prog 69 2 2 := Br Tryz.underlying69 rfl EW
theorem Ys : ZV Tryz.prog 69 (.agg (AN.enc (default : AN)).toArray) := Ey (by kernel_rfl)
theorem YQ : CF Tryz.prog 73 := Tryz.call73
theorem Dp : MW Tryz.prog 69 10 := EO Tryz.underlying69 rfl Jp
theorem YV : CF Tryz.prog 55 := Tryz.call55
theorem QY : CF Tryz.prog 74 := Tryz.call74
theorem ZY : ZV Tryz.prog 145 (.agg (B7 (n := 2) Ax (Vector.replicate 2 default)).toArray) := Ey (by kernel_rfl)
theorem ax : CF Tryz.prog 80 := Tryz.call80
theorem bL : CF Tryz.prog 81 := Tryz.call81
theorem XC : CF Tryz.prog 75 := Tryz.call75
theorem bO : CF Tryz.prog 56 := Tryz.call56
theorem aC : CF Tryz.prog 57 := Tryz.call57
theorem an : CF Tryz.prog 58 := Tryz.call58
theorem Hi : FA Tryz.prog 75 0 0 := Br Tryz.underlying75 rfl EW
theorem KJ : FA Tryz.prog 75 1 1 := Br Tryz.underlying75 rfl Jr
theorem KP : FA Tryz.prog 75 2 2 := Br Tryz.underlying75 rfl Jr
theorem Y5 : CF Tryz.prog 70 := Tryz.call70
theorem bj : CF Tryz.prog 45 := Tryz.call45
theorem Iz : ZV Tryz.prog 44 (.agg (Be.enc (default : Be)).toArray) := Ey (by kernel_rfl)
theorem QE : FA Tryz.prog 101 2 253 := Br Tryz.underlying101 rfl C3
theorem aE : Sz Tryz.prog 42 1 := Di (by kernel_rfl)
theorem Lr : G1 Tryz.prog 44 [(0, 1), (1, 1)] := ⟨_, Tryz.underlying44, fun w => by simp [aE w, EW w]⟩
theorem Jo : Sz Tryz.prog 44 2 := Di (by kernel_rfl)
theorem H6 : MW Tryz.prog 44 2 := EO Tryz.underlying44 rfl Jo
theorem N4 : FA Tryz.prog 41 0 0 := Br Tryz.underlying41 rfl C3
theorem Vq : FA Tryz.prog 41 2 2 := Br Tryz.underlying41 rfl C3
theorem bZ : CF Tryz.prog 60 := Tryz.call60
theorem Sl : FA Tryz.prog 41 1 1 := Br Tryz.underlying41 rfl C3
theorem cB : CF Tryz.prog 61 := Tryz.call61
theorem ZB : FA Tryz.prog 41 3 3 := Br Tryz.underlying41 rfl EW
theorem cE : CF Tryz.prog 29 := Tryz.call29
theorem bY : CF Tryz.prog 63 := Tryz.call63
theorem bS : CF Tryz.prog 66 := Tryz.call66
theorem aV : CF Tryz.prog 37 := Tryz.call37
theorem WT : G1 Tryz.prog 41 [(0, 1), (1, 1), (2, 1), (3, 1)] := ⟨_, Tryz.underlying41, fun w => by simp [C3 w, EW w]⟩
theorem Wa : ZV Tryz.prog 41 (.agg (Bq.enc (default : Bq)).toArray) := Ey (by kernel_rfl)
theorem R7 : CF Tryz.prog 38 := Tryz.call38
theorem YZ : CF Tryz.prog 21 := Tryz.call21
theorem WA : FA Tryz.prog 44 0 0 := Br Tryz.underlying44 rfl aE
theorem Qw : O0 Tryz.prog 42 := IK Tryz.underlying42 rfl
theorem bp : CF Tryz.prog 24 := Tryz.call24
theorem bN : CF Tryz.prog 33 := Tryz.call33
theorem ZR : Sz Tryz.prog 41 4 := Di (by kernel_rfl)
theorem ZX : IS Tryz.prog 22 4 := M0 Tryz.underlying22 ZR
theorem U7 : MW Tryz.prog 41 4 := EO Tryz.underlying41 rfl ZR
theorem ay : CF Tryz.prog 41 := Tryz.call41
theorem ZL : CF Tryz.prog 26 := Tryz.call26
theorem Ze : CF Tryz.prog 28 := Tryz.call28
theorem cK : CF Tryz.prog 39 := Tryz.call39
theorem Zz : CF Tryz.prog 32 := Tryz.call32
theorem cJ : CF Tryz.prog 40 := Tryz.call40
theorem aZ : CF Tryz.prog 18 := Tryz.call18
theorem af : MU Tryz.prog 1 9 (fun s : As => BP s) := XY Tryz.underlying9
theorem Zp : MU Tryz.prog 1 4 (fun b : Bool => .bool b) := WH Tryz.underlying4
theorem Yo : MU Tryz.prog 1 3 (fun n : Int => .int .i64 n) := Sw Tryz.underlying3
theorem bR : MU Tryz.prog 2 23 (fun v : OK _ 6 => .agg (B7 Ax v).toArray) := K4 By Tryz.underlying23 (by kernel_rfl) (by kernel_rfl) (.inr ⟨A1, rfl, fun _ => rfl⟩) Yo
theorem bk : MU Tryz.prog 2 24 (fun v : OK _ 6 => .agg (B7 CS v).toArray) := K4 Gd Tryz.underlying24 (by kernel_rfl) (by kernel_rfl) (.inr ⟨Ct, rfl, fun _ => rfl⟩) Zp
theorem Z9 : MW Tryz.prog 24 6 := EO Tryz.underlying24 rfl Y6
theorem cL : MU Tryz.prog 3 26 (fun x : Room => .agg (Room.enc x).toArray) := Gr Tryz.underlying26 (by kernel_rfl) (.cons (by decide) rfl (.inr ⟨CB, rfl, fun _ => rfl⟩) Room.l0 af (by decide) (.cons (by decide) rfl (.inr ⟨Ct, rfl, fun _ => rfl⟩) Room.l1 Zp (by decide) (.cons (by decide) rfl (.inl ⟨WU, fun _ => rfl⟩) Room.l2 bR (by decide) (.cons (by decide) rfl (.inl ⟨Z9, fun _ => rfl⟩) Room.l3 bk (by decide) .nil)))) (fun x y => by rw [Bool.eq_iff_iff]; cases x; cases y; simp)
theorem bH : MU Tryz.prog 4 27 (fun v : OK _ 6 => .agg (B7 Room.enc v).toArray) := K4 Room.fl Tryz.underlying27 (by kernel_rfl) (by kernel_rfl) (.inl ⟨ME, fun _ => rfl⟩) cL
theorem cD : MU Tryz.prog 2 29 (fun x : Ak => .agg (Ak.enc x).toArray) := Gr Tryz.underlying29 (by kernel_rfl) (.cons (by decide) rfl (.inr ⟨CB, rfl, fun _ => rfl⟩) Ak.l0 af (by decide) (.cons (by decide) rfl (.inr ⟨A1, rfl, fun _ => rfl⟩) Ak.l1 Yo (by decide) (.cons (by decide) rfl (.inr ⟨A1, rfl, fun _ => rfl⟩) Ak.l2 Yo (by decide) (.cons (by decide) rfl (.inr ⟨A1, rfl, fun _ => rfl⟩) Ak.l3 Yo (by decide) (.cons (by decide) rfl (.inr ⟨Ct, rfl, fun _ => rfl⟩) Ak.l4 Zp (by decide) .nil))))) (fun x y => by rw [Bool.eq_iff_iff]; cases x; cases y; simp)
theorem bG : MU Tryz.prog 3 30 (fun v : OK _ 9 => .agg (B7 Ak.enc v).toArray) := K4 Ak.fl Tryz.underlying30 (by kernel_rfl) (by kernel_rfl) (.inl ⟨Kt, fun _ => rfl⟩) cD
theorem bK : MU Tryz.prog 2 32 (fun x : Al => .agg (Al.enc x).toArray) := Gr Tryz.underlying32 (by kernel_rfl) (.cons (by decide) rfl (.inr ⟨CB, rfl, fun _ => rfl⟩) Al.l0 af (by decide) (.cons (by decide) rfl (.inr ⟨Ct, rfl, fun _ => rfl⟩) Al.l1 Zp (by decide) (.cons (by decide) rfl (.inr ⟨Ct, rfl, fun _ => rfl⟩) Al.l2 Zp (by decide) (.cons (by decide) rfl (.inr ⟨A1, rfl, fun _ => rfl⟩) Al.l3 Yo (by decide) (.cons (by decide) rfl (.inr ⟨A1, rfl, fun _ => rfl⟩) Al.l4 Yo (by decide) (.cons (by decide) rfl (.inr ⟨A1, rfl, fun _ => rfl⟩) Al.l5 Yo (by decide) .nil)))))) (fun x y => by rw [Bool.eq_iff_iff]; cases x; cases y; simp)
theorem bh : MU Tryz.prog 3 33 (fun v : OK _ 6 => .agg (B7 Al.enc v).toArray) := K4 Al.fl Tryz.underlying33 (by kernel_rfl) (by kernel_rfl) (.inl ⟨FB, fun _ => rfl⟩) bK
theorem bP : MU Tryz.prog 5 35 (fun x : AH => .agg (AH.enc x).toArray) := Gr Tryz.underlying35 (by kernel_rfl) (.cons (by decide) rfl (.inl ⟨YA, fun _ => rfl⟩) AH.l0 bH (by decide) (.cons (by decide) rfl (.inl ⟨TM, fun _ => rfl⟩) AH.l1 bG (by decide) (.cons (by decide) rfl (.inl ⟨Vl, fun _ => rfl⟩) AH.l2 bh (by decide) .nil))) (fun x y => by rw [Bool.eq_iff_iff]; cases x; cases y; simp)
theorem Z6 : CF Tryz.prog 16 := Tryz.call16
theorem bC : MU Tryz.prog 1 42 (fun n : Int => .int .i64 n) := Sw Tryz.underlying42
theorem bM : MU Tryz.prog 2 44 (fun x : Be => .agg (Be.enc x).toArray) := Gr Tryz.underlying44 (by kernel_rfl) (.cons (by decide) rfl (.inr ⟨Qw, rfl, fun _ => rfl⟩) Be.l0 bC (by decide) (.cons (by decide) rfl (.inr ⟨CB, rfl, fun _ => rfl⟩) Be.l1 af (by decide) .nil)) (fun x y => by rw [Bool.eq_iff_iff]; cases x; cases y; simp)
theorem bA : CF Tryz.prog 47 := Tryz.call47
theorem NZ (p : Option Addr) (a : Bq) (r : Be) : IP Tryz.prog 41 #[.pointer p, .agg a.enc.toArray, .agg r.enc.toArray] [] (fun v B => v = .bool true ∧ B = []) := by
 intro w hS0
 refine Aj _ _ Tryz.func41 rfl rfl rfl (hS0) ?_
 refine Gs ?_
 refine Bu rfl rfl rfl (fun b1 => ?_)
 refine Bu rfl rfl rfl (fun b2 => ?_)
 refine Ga rfl (Gn (.nil _) (Gs (Ga rfl (AP (AA (Ab ?_))))))
 refine AY rfl (.tmp rfl .n) ?_
 intro w1 hS
 have hS := (hS.perm (Av.perm .n)).Ay
 exact ⟨_, ⟨rfl, rfl⟩, hS⟩
theorem OV  (w : World) : EF Tryz.prog 15 #[] w fun v w' => v = .agg AH.new.enc.toArray ∧ B3 w w' := by
 refine Aj [] [] Tryz.func15 rfl rfl rfl (St.start w []) ?_
 refine Gs ?_
 refine BG rfl Li rfl (fun b1 => ?_)
 refine AP (AA (Gs ?_))
 refine BG rfl Li rfl (fun b2 => ?_)
 refine AP (AA (CA ?_))
 refine Gt (EY Tryz.underlying23 C3 UG rfl (.cons (AS.arr (n := 6) (i := 0) By (by decide) (by decide)) rfl rfl rfl (.cons (AS.arr (n := 6) (i := 1) By (by decide) (by decide)) rfl rfl rfl (.cons (AS.arr (n := 6) (i := 2) By (by decide) (by decide)) rfl rfl rfl (.cons (AS.arr (n := 6) (i := 3) By (by decide) (by decide)) rfl rfl rfl (.cons (AS.arr (n := 6) (i := 4) By (by decide) (by decide)) rfl rfl rfl (.cons (AS.arr (n := 6) (i := 5) By (by decide) (by decide)) rfl rfl rfl .nil))))))) ?_
 refine Gt (EY Tryz.underlying24 Jr Zb rfl (.cons (AS.arr (n := 6) (i := 5) Gd (by decide) (by decide)) rfl rfl rfl .nil)) ?_
 refine Gt (A9 Ty M1 rfl (.cons Room.l0 rfl rfl rfl (.cons Room.l2 rfl rfl rfl (.cons Room.l3 rfl rfl rfl .nil)))) ?_
 refine Gt (EY Tryz.underlying23 C3 UG rfl (.cons (AS.arr (n := 6) (i := 0) By (by decide) (by decide)) rfl rfl rfl (.cons (AS.arr (n := 6) (i := 1) By (by decide) (by decide)) rfl rfl rfl (.cons (AS.arr (n := 6) (i := 2) By (by decide) (by decide)) rfl rfl rfl (.cons (AS.arr (n := 6) (i := 3) By (by decide) (by decide)) rfl rfl rfl (.cons (AS.arr (n := 6) (i := 4) By (by decide) (by decide)) rfl rfl rfl (.cons (AS.arr (n := 6) (i := 5) By (by decide) (by decide)) rfl rfl rfl .nil))))))) ?_
 refine Gt (A9 Ty M1 rfl (.cons Room.l0 rfl rfl rfl (.cons Room.l2 rfl rfl rfl .nil))) ?_
 refine Gt (EY Tryz.underlying23 C3 UG rfl (.cons (AS.arr (n := 6) (i := 0) By (by decide) (by decide)) rfl rfl rfl (.cons (AS.arr (n := 6) (i := 1) By (by decide) (by decide)) rfl rfl rfl (.cons (AS.arr (n := 6) (i := 2) By (by decide) (by decide)) rfl rfl rfl (.cons (AS.arr (n := 6) (i := 3) By (by decide) (by decide)) rfl rfl rfl (.cons (AS.arr (n := 6) (i := 4) By (by decide) (by decide)) rfl rfl rfl (.cons (AS.arr (n := 6) (i := 5) By (by decide) (by decide)) rfl rfl rfl .nil))))))) ?_
 refine Gt (A9 Ty M1 rfl (.cons Room.l0 rfl rfl rfl (.cons Room.l2 rfl rfl rfl (.cons Room.l1 rfl rfl rfl .nil)))) ?_
 refine Gt (EY Tryz.underlying23 C3 UG rfl (.cons (AS.arr (n := 6) (i := 0) By (by decide) (by decide)) rfl rfl rfl (.cons (AS.arr (n := 6) (i := 1) By (by decide) (by decide)) rfl rfl rfl (.cons (AS.arr (n := 6) (i := 2) By (by decide) (by decide)) rfl rfl rfl (.cons (AS.arr (n := 6) (i := 3) By (by decide) (by decide)) rfl rfl rfl (.cons (AS.arr (n := 6) (i := 4) By (by decide) (by decide)) rfl rfl rfl (.cons (AS.arr (n := 6) (i := 5) By (by decide) (by decide)) rfl rfl rfl .nil))))))) ?_
 refine Gt (A9 Ty M1 rfl (.cons Room.l0 rfl rfl rfl (.cons Room.l2 rfl rfl rfl (.cons Room.l1 rfl rfl rfl .nil)))) ?_
 refine Gt (EY Tryz.underlying23 C3 UG rfl (.cons (AS.arr (n := 6) (i := 0) By (by decide) (by decide)) rfl rfl rfl (.cons (AS.arr (n := 6) (i := 1) By (by decide) (by decide)) rfl rfl rfl (.cons (AS.arr (n := 6) (i := 2) By (by decide) (by decide)) rfl rfl rfl (.cons (AS.arr (n := 6) (i := 3) By (by decide) (by decide)) rfl rfl rfl (.cons (AS.arr (n := 6) (i := 4) By (by decide) (by decide)) rfl rfl rfl (.cons (AS.arr (n := 6) (i := 5) By (by decide) (by decide)) rfl rfl rfl .nil))))))) ?_
 refine Gt (EY Tryz.underlying24 Jr Zb rfl (.cons (AS.arr (n := 6) (i := 2) Gd (by decide) (by decide)) rfl rfl rfl .nil)) ?_
 refine Gt (A9 Ty M1 rfl (.cons Room.l0 rfl rfl rfl (.cons Room.l2 rfl rfl rfl (.cons Room.l3 rfl rfl rfl (.cons Room.l1 rfl rfl rfl .nil))))) ?_
 refine Gt (EY Tryz.underlying23 C3 UG rfl (.cons (AS.arr (n := 6) (i := 0) By (by decide) (by decide)) rfl rfl rfl (.cons (AS.arr (n := 6) (i := 1) By (by decide) (by decide)) rfl rfl rfl (.cons (AS.arr (n := 6) (i := 2) By (by decide) (by decide)) rfl rfl rfl (.cons (AS.arr (n := 6) (i := 3) By (by decide) (by decide)) rfl rfl rfl (.cons (AS.arr (n := 6) (i := 4) By (by decide) (by decide)) rfl rfl rfl (.cons (AS.arr (n := 6) (i := 5) By (by decide) (by decide)) rfl rfl rfl .nil))))))) ?_
 refine Gt (A9 Ty M1 rfl (.cons Room.l0 rfl rfl rfl (.cons Room.l2 rfl rfl rfl .nil))) ?_
 refine WI (cs := B7 (n := 6) Room.enc (Vector.replicate 6 default)) (cs' := B7 (n := 6) Room.enc AH.R4) rfl Tryz.underlying95 PM M1 (by decide) (by decide) (by kernel_rfl) (.cons (AS.arr (n := 6) (i := 0) Room.fl (by decide) (by decide)) rfl rfl rfl (.cons (AS.arr (n := 6) (i := 1) Room.fl (by decide) (by decide)) rfl rfl rfl (.cons (AS.arr (n := 6) (i := 2) Room.fl (by decide) (by decide)) rfl rfl rfl (.cons (AS.arr (n := 6) (i := 3) Room.fl (by decide) (by decide)) rfl rfl rfl (.cons (AS.arr (n := 6) (i := 4) Room.fl (by decide) (by decide)) rfl rfl rfl (.cons (AS.arr (n := 6) (i := 5) Room.fl (by decide) (by decide)) rfl rfl rfl .nil)))))) rfl (fun b3 => ?_)
 refine Gt (Aq rfl Tryz.underlying95 rfl) (Gm rfl (Gn (.t5 0 1 20 21 22) (Ae ?_)))
 refine Bj (.t5 22 0 1 20 21) ?_
 refine BU (.t .h) ?_
 refine CR (fun (k : Int) => 0 ≤ k ∧ k ≤ 6) (fun (k : Int) => (6 - k).toNat) (fun (k : Int) => [(22, .int .i64 k)]) (fun (k : Int) => [Ac.box b2 35 (AH.enc (AH.SG k.toNat))]) (0) ?_ rfl rfl (fun k hI1 => ?_)
 · exact ⟨Int.le_refl _, by omega⟩
 obtain ⟨hI11, hI12⟩ := hI1
 refine Gs (Gt (A5 rfl rfl) (AP (AA (Ao ?_))))
 refine Gc (fun c1 => ?_) (fun c1 => ?_)
 ·
  have c1p := kz c1
  dsimp only at c1p
  refine Aa ?_
  refine AB (.t5 0 1 20 21 22) ?_
  refine AA (Ao (Ae (Gs (Gm rfl ?_))))
  refine Gt (Bm cC (by decide) (Kn.own .m1) rfl rfl (by omega) (by dsimp only; omega)) ?_
  refine Gt (Mw rfl ME (by decide) Room.fl (Kn.own .m1) (by simp; omega)) ?_
  refine BG rfl M1 rfl (fun b4 => ?_)
  refine Ga rfl ?_
  refine AR (AK (AS.id Room.fl.len Room.fl.one) rfl rfl rfl PM rfl .h) ?_
  refine Gn (.t7 0 1 2 3 20 21 22) (AI (Gm rfl (Gt (AZ rfl ME .m0 (AS.id Room.fl.len Room.fl.one) rfl) (Gt (Af GR rfl) ?_))))
  refine Gt (AQ Nc rfl rfl (by omega) (by omega)) ?_
  refine AR (AK (AH.l0.comp (AS.ar (n := 6) Room.fl (by omega))) rfl rfl rfl PM rfl (.t .h)) ?_
  refine AP (AB (.t5 0 1 20 21 22) ?_)
  refine AT (AA (AI ?_))
  refine Gt (Aw rfl rfl (IntWalk.i64_in _ (by omega))) ?_
  refine Gm rfl ?_
  refine AP (AB (.t5 0 1 20 21 22) ?_)
  refine B0 (k + 1) ?_ ?_ (.t5 22 0 1 20 21) (by rw [AH.UL (by omega)]; exact (.cons _ (.refl _)))
  · exact ⟨by omega, by omega⟩
  · omega
 have c1p := kz c1
 dsimp only at c1p
 obtain rfl : k = 6 := by omega
 refine Ba (AV (AV (Ah ?_)))
 refine AB (.t2 0 1) ?_
 refine AA (CA (Gt (A9 Pl Jt rfl (.cons Ak.l0 rfl rfl rfl (.cons Ak.l1 rfl rfl rfl .nil))) (Gt (A9 Pl Jt rfl (.cons Ak.l0 rfl rfl rfl (.cons Ak.l1 rfl rfl rfl (.cons Ak.l3 rfl rfl rfl .nil)))) (Gt (A9 Pl Jt rfl (.cons Ak.l0 rfl rfl rfl (.cons Ak.l1 rfl rfl rfl .nil))) (Gt (A9 Pl Jt rfl (.cons Ak.l0 rfl rfl rfl (.cons Ak.l1 rfl rfl rfl (.cons Ak.l3 rfl rfl rfl .nil)))) (Gt (A9 Pl Jt rfl (.cons Ak.l0 rfl rfl rfl (.cons Ak.l2 rfl rfl rfl (.cons Ak.l3 rfl rfl rfl .nil)))) (Gt (A9 Pl Jt rfl (.cons Ak.l0 rfl rfl rfl (.cons Ak.l3 rfl rfl rfl .nil))) ?_)))))))
 refine Gt (A9 Pl Jt rfl (.cons Ak.l0 rfl rfl rfl .nil)) (Gt (A9 Pl Jt rfl (.cons Ak.l0 rfl rfl rfl (.cons Ak.l1 rfl rfl rfl (.cons Ak.l4 rfl rfl rfl .nil)))) (Gt (A9 Pl Jt rfl (.cons Ak.l0 rfl rfl rfl (.cons Ak.l2 rfl rfl rfl (.cons Ak.l3 rfl rfl rfl .nil)))) ?_))
 refine WI (cs := B7 (n := 9) Ak.enc (Vector.replicate 9 default)) (cs' := B7 (n := 9) Ak.enc AH.QF) rfl Tryz.underlying96 MJ Jt (by decide) (by decide) (by kernel_rfl) (.cons (AS.arr (n := 9) (i := 0) Ak.fl (by decide) (by decide)) rfl rfl rfl (.cons (AS.arr (n := 9) (i := 1) Ak.fl (by decide) (by decide)) rfl rfl rfl (.cons (AS.arr (n := 9) (i := 2) Ak.fl (by decide) (by decide)) rfl rfl rfl (.cons (AS.arr (n := 9) (i := 3) Ak.fl (by decide) (by decide)) rfl rfl rfl (.cons (AS.arr (n := 9) (i := 4) Ak.fl (by decide) (by decide)) rfl rfl rfl (.cons (AS.arr (n := 9) (i := 5) Ak.fl (by decide) (by decide)) rfl rfl rfl (.cons (AS.arr (n := 9) (i := 6) Ak.fl (by decide) (by decide)) rfl rfl rfl (.cons (AS.arr (n := 9) (i := 7) Ak.fl (by decide) (by decide)) rfl rfl rfl (.cons (AS.arr (n := 9) (i := 8) Ak.fl (by decide) (by decide)) rfl rfl rfl .nil))))))))) rfl (fun b5 => ?_)
 refine Gt (Aq rfl Tryz.underlying96 rfl) (Gm rfl (Gn (.t5 0 1 41 42 43) (Ae ?_)))
 refine Bj (.t5 43 0 1 41 42) ?_
 refine BU (.t .h) ?_
 refine CR (fun (k : Int) => 0 ≤ k ∧ k ≤ 9) (fun (k : Int) => (9 - k).toNat) (fun (k : Int) => [(43, .int .i64 k)]) (fun (k : Int) => [Ac.box b2 35 (AH.enc (AH.KY k.toNat))]) (0) ?_ rfl rfl (fun k hI2 => ?_)
 · exact ⟨Int.le_refl _, by omega⟩
 obtain ⟨hI21, hI22⟩ := hI2
 refine Gs (Gt (A5 rfl rfl) (AP (AA (Ao ?_))))
 refine Gc (fun c2 => ?_) (fun c2 => ?_)
 ·
  have c2p := kz c2
  dsimp only at c2p
  refine Aa ?_
  refine AB (.t5 0 1 41 42 43) ?_
  refine AA (Ao (Ae (Gs (Gm rfl ?_))))
  refine Gt (Bm bg (by decide) (Kn.own .m1) rfl rfl (by omega) (by dsimp only; omega)) ?_
  refine Gt (Mw rfl Kt (by decide) Ak.fl (Kn.own .m1) (by simp; omega)) ?_
  refine BG rfl Jt rfl (fun b6 => ?_)
  refine Ga rfl ?_
  refine AR (AK (AS.id Ak.fl.len Ak.fl.one) rfl rfl rfl MJ rfl .h) ?_
  refine Gn (.t7 0 1 4 5 41 42 43) (AI (Gm rfl (Gt (AZ rfl Kt .m0 (AS.id Ak.fl.len Ak.fl.one) rfl) (Gt (Af Cp rfl) ?_))))
  refine Gt (AQ Fo rfl rfl (by omega) (by omega)) ?_
  refine AR (AK (AH.l1.comp (AS.ar (n := 9) Ak.fl (by omega))) rfl rfl rfl MJ rfl (.t .h)) ?_
  refine AP (AB (.t5 0 1 41 42 43) ?_)
  refine AT (AA (AI ?_))
  refine Gt (Aw rfl rfl (IntWalk.i64_in _ (by omega))) ?_
  refine Gm rfl ?_
  refine AP (AB (.t5 0 1 41 42 43) ?_)
  refine B0 (k + 1) ?_ ?_ (.t5 43 0 1 41 42) (by rw [AH.UA (by omega)]; exact (.cons _ (.refl _)))
  · exact ⟨by omega, by omega⟩
  · omega
 have c2p := kz c2
 dsimp only at c2p
 obtain rfl : k = 9 := by omega
 refine Ba (AV (AV (Ah ?_)))
 refine AB (.t2 0 1) ?_
 refine AA (Gs (Gt (A9 U9 LM rfl (.cons Al.l0 rfl rfl rfl (.cons Al.l1 rfl rfl rfl (.cons Al.l2 rfl rfl rfl (.cons Al.l4 rfl rfl rfl .nil))))) (Gt (Af Bi rfl) ?_)))
 refine Gt (AQ Cy rfl rfl (by decide) (by decide)) ?_
 refine AR (AK (AH.l2.comp (AS.arr (n := 6) Al.fl (by decide) (by decide))) rfl rfl rfl Jm rfl .h) ?_
 refine Gn (.t2 0 1) (Gs (Gt (A9 U9 LM rfl (.cons Al.l0 rfl rfl rfl (.cons Al.l1 rfl rfl rfl (.cons Al.l3 rfl rfl rfl (.cons Al.l4 rfl rfl rfl .nil))))) (Gt (Af Bi rfl) ?_)))
 refine Gt (AQ Cy rfl rfl (by decide) (by decide)) ?_
 refine AR (AK (AH.l2.comp (AS.arr (n := 6) Al.fl (by decide) (by decide))) rfl rfl rfl Jm rfl .h) ?_
 refine Gn (.t2 0 1) (Gs (Gt (AZ rfl BT .m0 (AS.id AH.fl.len AH.fl.one) rfl) ?_))
 refine AR (AK (AS.id AH.fl.len AH.fl.one) rfl rfl rfl Dt rfl (.t (.t (.t .h)))) ?_
 refine Gn (.t1 0) (Ab ?_)
 refine AY rfl (.cell rfl .m3 (.inl ⟨(by rw [AH.fl.len]; exact BT), rfl⟩) .n) ?_
 intro w1 hS; refine ⟨?_, hS.Am⟩; rfl
theorem JS  : IP Tryz.prog 37 #[] [] (fun v B => ∃ (b : Nat) (V : AJ) (ls : Vector BE 4) (ev : List Ing.Event), v = .pointer (some ⟨b, 0, none⟩) ∧ A3 V ls ev = AL.new ∧ B = [Ac.box b 101 (AJ.enc V), Ac.DY (B6 9 (AJ.Ap V) ls), Ac.own (AJ.last V) 56 16 ((ev).flatMap Ing.Event.enc)]) := by
 intro w hS0
 refine Aj _ _ Tryz.func37 rfl rfl rfl (hS0) ?_
 refine Gs (Ga rfl (Gn (.nil _) (Gs ?_)))
 refine A8 rfl bT .n (fun w hS => OV w) ?_
 refine Gt (A9 aA Zs rfl (.cons AJ.l0 rfl rfl rfl .nil)) ?_
 refine Bu rfl rfl rfl (fun b1 => ?_)
 refine Ga rfl (Gn (.t1 0) (Ab ?_))
 refine AY rfl (.tmp rfl .n) ?_
 intro w1 hS
 have hS := (hS.perm (Av.perm (.c .h .n))).Ay
 have h2 := (St.Xd hS (l := B6 9 MZ Mg) (fun r hr => Wc 9 w1 r hr)).Cj 56 16
 refine ⟨_, ⟨b1, ⟨AH.new, MZ, 0, ⟨none, 0, 0⟩⟩, Mg, [], rfl, rfl, rfl⟩, h2.perm (Xi _ _ _)⟩
theorem Bv {t0 : Nat} (h : Hd) (xs : List As) (hb : xs.length ≤ 17592186044416) : Eu Tryz.prog 69 #[h.val] [] (fun w => Rd w h t0 1 (xs.flatMap A4)) (fun v B => ∃ h' : Hd, v = h'.val ∧ h'.len = xs.length ∧ B = [Ac.own h' 9 1 (xs.flatMap A4)]) := by
 intro w hS0 hH
 have r0 := hH
 have hl := r0.J1 DD (by decide)
 refine Aj _ _ Tryz.func69 rfl rfl rfl (hS0) ?_
 refine Gs (Ga rfl (Gn (.t1 0) (CA (Gm rfl (Gt (SO Tryz.underlying52 rfl) (Gn (.t2 0 4) ?_))))))
 refine Gc (fun c1 => ?_) (fun c1 => ?_)
 ·
  refine Gs (Ga rfl (Gn (.t1 2) (Ab (AD ?_))))
  refine AY rfl (.tmp rfl .n) ?_
  intro w1 hS
  have hS := (hS.perm (Av.perm .n)).Ay
  have hx : xs = [] := by
    rcases xs with _ | ⟨x, xs⟩
    · rfl
    · exfalso
      obtain ⟨b, o, C, fz, e1, _⟩ := r0.2 (by simp [A4])
      rw [e1] at c1
      cases c1
  subst hx
  exact ⟨_, ⟨⟨none, 0, 0⟩, rfl, rfl, rfl⟩, hS.Cj _ _⟩
 have c1p := kz c1
 refine Aa ?_
 refine AB (.t1 0) ?_
 refine AA (Gs ?_)
 refine Xk A4 rfl Tryz.underlying52 EW (fun b1 => ?_)
 refine Gm rfl ?_
 refine IT (e := A4) rfl Tryz.underlying52 EW RM rfl VY (by decide) rfl rfl (fun w hS => Src.Dj Tryz.underlying52 ((Kn.Gv r0) w hS)) rfl rfl (by omega) (fun _ => .h) (fun h1 h1l => ?_)
 refine Ga rfl (Gn (.t1 2) (Ab ?_))
 refine AY rfl (.tmp rfl .n) ?_
 intro w1 hS
 have hS := (hS.perm (Av.perm (.c .h .n))).Ay
 exact ⟨_, ⟨_, rfl, by omega, rfl⟩, hS⟩
theorem NB {t0 : Nat} (l : BC) (qs : List As) (hb : qs.length ≤ 17592186044416) : Eu Tryz.prog 91 #[.agg l.enc.toArray] [] (fun w => Rd w l.queue t0 1 (qs.flatMap A4) ∧ l.queue.len ≤ l.queue.cap) (fun v B => (qs = [] ∧ v = .tuple #[.agg l.enc.toArray, BP [], .bool false] ∧ B = []) ∨ (∃ q r, qs = q :: r ∧ ∃ h' : Hd, v = .tuple #[.agg (BC.enc ⟨l.now, l.Cc, l.ret, h'⟩).toArray, BP q, .bool true] ∧ h'.len = r.length ∧ B = [Ac.own h' 9 1 (r.flatMap A4)])) := by
 intro w hS0 hH
 obtain ⟨r0, k0⟩ := hH
 have hl0 := r0.J1 DD (by decide)
 refine Aj _ _ Tryz.func91 rfl rfl rfl (hS0) ?_
 refine Gs ?_
 refine Bu rfl rfl rfl (fun b1 => ?_)
 refine BG rfl Xt rfl (fun b2 => ?_)
 refine Ga rfl (Ga rfl (Gn (.t2 1 2) (CA (Gt (Af EU rfl) (Gt (AF rfl EI .m1 BC.l3 rfl rfl) (Gt (Aq rfl Tryz.underlying52 rfl) (Gt (Ai rfl rfl) ?_)))))))
 refine Gn (.t3 1 2 9) ?_
 refine Gc (fun c1 => ?_) (fun c1 => ?_)
 ·
  have c1p := kz c1
  have hq : qs = [] := List.length_eq_zero_iff.1 (by omega)
  refine Gs (Gt (AZ rfl HL .m1 (AS.id BC.fl.len BC.fl.one) rfl) ?_)
  refine AR (AK (AS.id BC.fl.len BC.fl.one) rfl rfl rfl LU rfl .h) ?_
  refine Ga rfl (Ga rfl (Gn (.t3 2 3 4) (Ab (AD ?_))))
  refine AY rfl (.cell rfl .m0 (.inl ⟨(by rw [BC.fl.len]; exact HL), rfl⟩) (.tmp rfl (.tmp rfl .n))) ?_
  intro w1 hS
  have hS := (hS.perm (Av.perm .n)).Ay
  exact ⟨_, .inl ⟨hq, rfl, rfl⟩, hS⟩
 have c1p := kz c1
 obtain ⟨q, r, rfl⟩ := Bc.TQ (qs := qs) (by omega)
 rw [List.length_cons] at hl0 hb
 refine Aa ?_
 refine AB (.t2 1 2) ?_
 refine AA (Gs (Gt (Af EU rfl) (Gt (AF rfl EI .m1 BC.l3 rfl rfl) ?_)))
 refine Gt (Bm H9 (by decide) (Kn.Gv r0) rfl rfl (by omega) (by omega)) ?_
 refine Gt (C7 rfl CB (Kn.Gv r0) (by simp)) ?_
 refine Ga rfl (Gn (.t3 1 2 5) (Gs (Gt (Af EU rfl) (Gt (AF rfl EI .m1 BC.l3 rfl rfl) ?_))))
 refine Gt (Qd Tryz.underlying52 EW rfl rfl (by decide) (by omega)) ?_
 refine BD rfl U4 (.c rfl .n) .n (Bv _ r (by omega)) (fun w hS => by have h := (Kn.cut (l := 1) (r := l.queue.len) DD (Kn.Gv r0) (by omega) (Nat.le_refl _) (Um.of k0)) w hS; rw [show (((q :: r).take l.queue.len).drop 1) = r from by rw [List.take_of_length_le (by simp; omega)]; rfl] at h; exact h) (fun v2 B hv => ?_)
 obtain ⟨y3, rfl, y4, rfl⟩ := hv
 refine Gt (Af EU rfl) ?_
 refine AR (AK BC.l3 rfl rfl rfl LV rfl (.t (.t .h))) ?_
 refine Gn (.t3 1 2 5) (Gs (Gt (AZ rfl HL .m2 (AS.id BC.fl.len BC.fl.one) rfl) (Gm rfl ?_)))
 refine AR (AK (AS.id BC.fl.len BC.fl.one) rfl rfl rfl LU rfl (.t .h)) ?_
 refine Ga rfl (Ga rfl (Gn (.t3 2 3 4) (Ab ?_)))
 refine AY rfl (.cell rfl .m1 (.inl ⟨(by rw [BC.fl.len]; exact HL), rfl⟩) (.tmp rfl (.tmp rfl .n))) ?_
 intro w1 hS
 have hS := (hS.perm (Av.perm (.c .h .n))).Ay
 exact ⟨_, .inr ⟨q, r, rfl, _, rfl, by assumption, rfl⟩, hS⟩
theorem MV (p : Ar) (w : World) : EF Tryz.prog 92 #[.agg p.enc.toArray] w fun v w' => v = .agg (Ar.enc ⟨p.wait, 0, false, p.ring, p.cut⟩).toArray ∧ B3 w w' := by
 refine Aj [] [] Tryz.func92 rfl rfl rfl (St.start w []) ?_
 refine Gs ?_
 refine Bu rfl rfl rfl (fun b1 => ?_)
 refine BG rfl Rq rfl (fun b2 => ?_)
 refine Gn (.t2 1 2) (Gs (Gt (Af Ly rfl) ?_))
 refine AR (AK Ar.l2 rfl rfl rfl Jr rfl (.t .h)) ?_
 refine Gt (Af Ix rfl) ?_
 refine AR (AK Ar.l1 rfl rfl rfl C3 rfl (.t .h)) ?_
 refine Gn (.t2 1 2) (Gs (Gt (AZ rfl Cn .m1 (AS.id Ar.fl.len Ar.fl.one) rfl) ?_))
 refine AR (AK (AS.id Ar.fl.len Ar.fl.one) rfl rfl rfl E4 rfl .h) ?_
 refine Gn (.t1 2) (Ab ?_)
 refine AY rfl (.cell rfl .m0 (.inl ⟨(by rw [Ar.fl.len]; exact Cn), rfl⟩) .n) ?_
 intro w1 hS; refine ⟨?_, hS.Am⟩; rfl
theorem Gu (s : As) (c : UInt8) (hs : s.length ≤ 10000000) (w : World) : EF Tryz.prog 116 #[BP s, .int .u8 (c.toNat : Int)] w fun v w' => v = BP (Words.Q4 c s) ∧ B3 w w' := by
 refine Aj [] [] Tryz.func116 rfl rfl rfl (St.start w []) ?_
 refine Gs (Ga rfl (Gn (.t2 0 1) (Ao (Ae ?_))))
 refine Bj (.t2 0 1) ?_
 refine CR (fun (r : As) => Words.Q4 c s = Words.Q4 c r ∧ r.length ≤ s.length) (fun (r : As) => r.length) (fun (r : As) => [(0, BP r)]) (fun (r : As) => []) (s) ?_ rfl rfl (fun r hI1 => ?_)
 · exact ⟨rfl, Nat.le_refl _⟩
 obtain ⟨hI11, hI12⟩ := hI1
 refine CA (Gm rfl (Gt (BI rfl Tryz.underlying9 rfl) (Gt (Cd rfl rfl) (Gm rfl (BZ 8 rfl rfl (fun q => AE rfl) (BZ 8 rfl rfl (fun q => AE rfl) (BZ 8 rfl rfl (fun q => BI rfl Tryz.underlying9 (BV rfl q)) ?_)))))))
 refine BZ 8 rfl rfl (fun q => by have q1 := q; (try simp at q1); exact E6 (BV rfl q) rfl (IntWalk.i64_in _ (by omega))) ?_
 refine BZ 8 rfl rfl (fun q => by have q1 := q; (try simp at q1); exact Bh Tryz.underlying9 (BV rfl q) (BV rfl q) (by omega) (by omega)) ?_
 refine BZ 8 rfl rfl (fun q => AE rfl) (BZ 8 rfl rfl (fun q => Ai (BV rfl q) (BV rfl q)) (Gt (BH rfl rfl (fun h => h)) (Gn (.t3 0 1 16) ?_)))
 refine Gc (fun c1 => ?_) (fun c1 => ?_)
 ·
  have c1p := kz c1
  have hlt : 0 < r.length := by simp at c1; omega
  refine Aa ?_
  refine AB (.t2 0 1) ?_
  refine AA (Ae (AI (Gm rfl (Gm rfl (Gt (BI rfl Tryz.underlying9 rfl) ?_)))))
  refine Gt (E6 rfl rfl (IntWalk.i64_in _ (by omega))) ?_
  refine Gt (Hv Tryz.underlying9 rfl rfl (by omega) (by omega)) ?_
  refine Ga rfl ?_
  refine AP (AB (.t2 0 1) ?_)
  refine AT ?_
  refine B0 _ ?_ ?_ (.t2 0 1) (.refl _)
  · exact ⟨by rw [hI11, Words.aN c1] <;> rfl, by first | (simp; done) | (simp; omega)⟩
  · first | (simp; done) | (simp; omega)
 refine Ba (AV (AV (Ah ?_)))
 refine AB (.t1 0) ?_
 refine AA (Gs (Gm rfl (Ga rfl (Gn (.t1 4) (Ab ?_)))))
 refine AY rfl (.tmp rfl .n) ?_
 intro w1 hS; refine ⟨?_, hS.Am⟩; rw [hI11, Words.aD c1]; rfl
theorem Eo (s : As) (c : UInt8) (hs : s.length ≤ 10000000) (w : World) : EF Tryz.prog 115 #[BP s, .int .u8 (c.toNat : Int)] w fun v w' => v = BP (Words.O6 c s) ∧ B3 w w' := by
 refine Aj [] [] Tryz.func115 rfl rfl rfl (St.start w []) ?_
 refine Gs (Ga rfl (Gn (.t2 0 1) (Ao (Ae ?_))))
 refine Bj (.t2 0 1) ?_
 refine CR (fun (r : As) => Words.O6 c s = Words.O6 c r ∧ r.length ≤ s.length) (fun (r : As) => r.length) (fun (r : As) => [(0, BP r)]) (fun (r : As) => []) (s) ?_ rfl rfl (fun r hI1 => ?_)
 · exact ⟨rfl, Nat.le_refl _⟩
 obtain ⟨hI11, hI12⟩ := hI1
 refine CA (Gm rfl (Gt (BI rfl Tryz.underlying9 rfl) (Gt (Cd rfl rfl) (Gm rfl (BZ 8 rfl rfl (fun q => AE rfl) ?_)))))
 refine BZ 8 rfl rfl (fun q => by have q1 := q; (try simp at q1); exact Bh Tryz.underlying9 (BV rfl q) rfl (by decide) (by omega)) ?_
 refine BZ 8 rfl rfl (fun q => AE rfl) (BZ 8 rfl rfl (fun q => Ai (BV rfl q) (BV rfl q)) (Gt (BH rfl rfl (fun h => h)) (Gn (.t3 0 1 13) ?_)))
 refine Gc (fun c1 => ?_) (fun c1 => ?_)
 ·
  have c1p := kz c1
  have hlt : 0 < r.length := by simp at c1; omega
  refine Aa ?_
  refine AB (.t2 0 1) ?_
  refine AA (Ae (AI (Gm rfl ?_)))
  refine Gt (F7 Tryz.underlying9 rfl rfl (by decide) (by omega)) ?_
  refine Ga rfl ?_
  refine AP (AB (.t2 0 1) ?_)
  refine AT ?_
  refine B0 _ ?_ ?_ (.t2 0 1) (.refl _)
  · exact ⟨by rw [hI11, Words.Z1 c1] <;> rfl, by first | (simp; done) | (simp; omega)⟩
  · first | (simp; done) | (simp; omega)
 refine Ba (AV (AV (Ah ?_)))
 refine AB (.t1 0) ?_
 refine AA (Gs (Gm rfl (Ga rfl (Gn (.t1 4) (Ab ?_)))))
 refine AY rfl (.tmp rfl .n) ?_
 intro w1 hS; refine ⟨?_, hS.Am⟩; rw [hI11, Words.ZK c1]; rfl
theorem HN (s : As) (hs : s.length ≤ 10000000) (w : World) : EF Tryz.prog 94 #[BP s, BP [32]] w fun v w' => v = BP (Words.O6 32 (Words.Q4 32 s)) ∧ B3 w w' := by
 refine Aj [] [] Tryz.func94 rfl rfl rfl (St.start w []) ?_
 refine Gs (Ga rfl (Gn (.t2 0 1) (CA (Gm rfl (Gt (Bp rfl rfl) (Gm rfl (BW 9 rfl rfl (fun q => AE rfl) ?_)))))))
 refine BW 9 rfl rfl (fun q => Bp (cF rfl q) rfl) ?_
 refine Gt (BR rfl rfl (fun h => by rw [h]; rfl)) ?_
 refine Gn (.t3 0 1 12) ?_
 refine Gc (fun c1 => ?_) (fun c1 => ?_)
 ·
  refine Gs (Gm rfl (Ga rfl (Gn (.t1 4) (Ab (AD ?_)))))
  refine AY rfl (.tmp rfl .n) ?_
  intro w1 hS; refine ⟨?_, hS.Am⟩; have e : s = [] := by simpa using c1
  subst e; rfl
 have c1p := kz c1
 refine Aa ?_
 refine AB (.t2 0 1) ?_
 refine AA (CA (Gm rfl (Gt (BI rfl Tryz.underlying9 rfl) (Gt (Ai rfl rfl) (Gm rfl (BZ 17 rfl rfl (fun q => AE rfl) ?_))))))
 refine BZ 17 rfl rfl (fun q => by have q1 := q; (try simp at q1); exact Bh Tryz.underlying9 (BV rfl q) rfl (by decide) (by (try simp only [List.length_cons, List.length_nil]); omega)) ?_
 refine BZ 17 rfl rfl (fun q => A5 (BV rfl q) rfl) (Gt (BH rfl rfl (fun h => h)) (Gn (.t3 0 1 21) ?_))
 refine FM rfl rfl ?_
 refine Ao ?_
 refine BF (N := 8) [0, 0, 2, 7, 0, 16, 63, 127] mix (by kernel_rfl) rfl ?_
 refine Pf 0 rfl (AE rfl) (Pf 1 rfl (AE rfl) ?_)
 refine Pf 2 rfl (Bh Tryz.underlying9 rfl rfl (by decide) (by (try simp only [List.length_cons, List.length_nil]); omega)) ?_
 refine BX 3 rfl rfl (by kernel_rfl) (Kx (KX (Dr aL (.c rfl (.c rfl .n)) (fun w hS => Gu _ 32 hs w)))) ?_
 refine Pf 4 rfl (AE rfl) ?_
 refine Pf 5 rfl (Bh Tryz.underlying9 rfl rfl (by decide) (by (try simp only [List.length_cons, List.length_nil]); omega)) ?_
 refine BX 6 rfl rfl (by kernel_rfl) (Kx (KX (Dr X2 (.c rfl (.c rfl .n)) (fun w hS => Eo _ 32 (by have := Words.QU 32 s; omega) w)))) ?_
 refine Pf 7 rfl (Az rfl) ?_
 refine A2 (by kernel_rfl) ?_
 refine AB (.t1 4) ?_
 refine AA (Ab (AD ?_))
 refine AY rfl (.tmp rfl .n) ?_
 intro w1 hS; refine ⟨?_, hS.Am⟩; rfl
theorem Js (X : AH) (i : Int) (h0 : 0 ≤ i) (h9 : i < 9) (w : World) : EF Tryz.prog 68 #[.agg X.enc.toArray, .int .i64 i] w fun v w' => v = .bool (X.Cb i) ∧ B3 w w' := by
 refine Aj [] [] Tryz.func68 rfl rfl rfl (St.start w []) ?_
 refine Gs ?_
 refine Bu rfl rfl rfl (fun b1 => ?_)
 refine Ga rfl (Gn (.t2 1 2) (Gs (Gm rfl (Gt (Af Cp rfl) ?_))))
 refine Gt (AQ Fo rfl rfl (by omega) (by omega)) ?_
 refine Gt (AZ rfl Kt .m0 (AH.l1.comp (AS.ar (n := 9) Ak.fl (by omega))) rfl) ?_
 refine BG rfl Jt rfl (fun b2 => ?_)
 refine AR (AK (AS.id Ak.fl.len Ak.fl.one) rfl rfl rfl MJ rfl .h) ?_
 refine Gn (.t2 2 5) (CA (Gt (Af GO rfl) (Gt (AF rfl A1 .m0 Ak.l1 rfl rfl) (Gt (A5 rfl rfl) (Gm rfl (BW 15 rfl rfl (fun q => Af GO rfl) (BW 15 rfl rfl (fun q => AF (cF rfl q) A1 .m0 Ak.l1 rfl rfl) ?_)))))))
 refine BW 15 rfl rfl (fun q => Cd (cF rfl q) rfl) ?_
 refine Gt (BR rfl rfl (fun h => by rw [h]; rfl)) ?_
 refine Gm rfl (BW 20 rfl rfl (fun q => Af GO rfl) (BW 20 rfl rfl (fun q => AF (cF rfl q) A1 .m0 Ak.l1 rfl rfl) (BW 20 rfl rfl (fun q => Ai (cF rfl q) rfl) (BW 20 rfl rfl (fun q => AE (cF rfl q)) ?_))))
 refine DA (t := 24) rfl rfl rfl (fun qc q => Af Fb rfl) ?_
 refine DA (t := 24) rfl rfl rfl (fun qc q => AF (BV rfl (by rw [qc, q]; rfl)) Ct .m0 Ak.l4 rfl rfl) ?_
 refine BW 20 rfl rfl (fun q => BH (cF rfl q) rfl (fun h => by rw [q, h]; rfl)) ?_
 refine Gt (BR rfl rfl (fun h => by rw [h]; rfl)) ?_
 refine Gm rfl (BW 29 rfl rfl (fun q => Af C5 rfl) (BW 29 rfl rfl (fun q => AF (cF rfl q) A1 .m0 Ak.l3 rfl rfl) (BW 29 rfl rfl (fun q => A5 (cF rfl q) rfl) ?_)))
 refine Gt (BR rfl rfl (fun h => by rw [h]; rfl)) ?_
 refine Gn (.t3 2 5 33) ?_
 refine Gc (fun c1 => ?_) (fun c1 => ?_)
 ·
  refine Gs (Ga rfl (Gn (.t1 4) (Ab (AD ?_))))
  refine AY rfl (.tmp rfl .n) ?_
  intro w1 hS; refine ⟨congrArg Value.bool ?_, hS.Am⟩; simp only [AH.Cb, c1, ↓reduceIte, Bool.false_eq_true]
 have c1p := kz c1
 refine Aa ?_
 refine AB (.t2 2 5) ?_
 refine AA (Gs (Gt (Af GO rfl) (Gt (AF rfl A1 .m0 Ak.l1 rfl rfl) (Gt (Ai rfl rfl) (Gm rfl (BZ 37 rfl rfl (fun q => Af Fb rfl) (BZ 37 rfl rfl (fun q => AF (BV rfl q) Ct .m0 Ak.l4 rfl rfl) ?_)))))))
 refine Gt (BH rfl rfl (fun h => h)) (Ga rfl (Gn (.t3 2 5 6) (CA (Gt (Af E5 rfl) (Gt (AF rfl A1 .m0 Ak.l2 rfl rfl) (Gn (.t4 2 5 6 42) (Ae ?_)))))))
 refine Gs (Gt (Ai rfl rfl) (Ga rfl (Gn (.t5 2 5 6 42 43) ?_)))
 refine Gc (fun c2 => ?_) (fun c2 => ?_)
 ·
  refine Gs (Gt (Af C5 rfl) (Gt (AF rfl A1 .m0 Ak.l3 rfl rfl) (Gt (A5 rfl rfl) (Gm rfl (BZ 48 rfl rfl (fun q => AE rfl) (BZ 48 rfl rfl (fun q => BO (BV rfl q)) (Gt (BH rfl rfl (fun h => h)) ?_)))))))
  refine Ga rfl (Gn (.t1 4) (Ab (AO (AD ?_))))
  refine AY rfl (.tmp rfl .n) ?_
  intro w1 hS; refine ⟨congrArg Value.bool ?_, hS.Am⟩; simp only [AH.Cb, c1, c2, ↓reduceIte, Bool.false_eq_true]
 have c2p := kz c2
 refine Gs (Gt (Ai rfl rfl) (Ga rfl (Gn (.t5 2 5 6 42 52) ?_)))
 refine Gc (fun c3 => ?_) (fun c3 => ?_)
 ·
  have c3p := kz c3
  refine Gs (Gt (Af C5 rfl) (Gt (AF rfl A1 .m0 Ak.l3 rfl rfl) (Gt (A5 rfl rfl) (Gm rfl (BZ 57 rfl rfl (fun q => Af C5 rfl) (BZ 57 rfl rfl (fun q => AF (BV rfl q) A1 .m0 Ak.l3 rfl rfl) (BZ 57 rfl rfl (fun q => Af Bi rfl) ?_)))))))
  refine BZ 57 rfl rfl (fun q => by have q1 := q; (try simp at q1); exact AQ Cy (BV rfl q) (BV rfl q) (by omega) (by omega)) ?_
  refine BZ 57 rfl rfl (fun q => Af Hg (BV rfl q)) ?_
  refine BZ 57 rfl rfl (fun q => by have q1 := q; (try simp at q1); exact AF (BV rfl q) Ct .m1 ((AH.l2.comp (AS.ar (n := 6) Al.fl (by omega))).comp Al.l1) rfl rfl) ?_
  refine Gt (BH rfl rfl (fun h => h)) (Ga rfl (Gn (.t1 4) (Ab (AO (AD ?_)))))
  refine AY rfl (.tmp rfl .n) ?_
  intro w1 hS; refine ⟨congrArg Value.bool ?_, hS.Am⟩; simp only [AH.Cb, c1, c2, c3, ↓reduceIte, Bool.false_eq_true]
 have c3p := kz c3
 refine Gs (Gt (Ai rfl rfl) (Ga rfl (Gn (.t4 2 5 6 65) ?_)))
 refine Gc (fun c4 => ?_) (fun c4 => ?_)
 ·
  have c4p := kz c4
  refine CA (Gt (Af C5 rfl) (Gt (AF rfl A1 .m0 Ak.l3 rfl rfl) (Gt (CH rfl rfl) (Gm rfl (BW 70 rfl rfl (fun q => Af C5 rfl) (BW 70 rfl rfl (fun q => AF (cF rfl q) A1 .m0 Ak.l3 rfl rfl) (BW 70 rfl rfl (fun q => Af Cp rfl) ?_)))))))
  refine BW 70 rfl rfl (fun q => by have q1 := q; (try simp at q1); exact AQ Fo (cF rfl q) (cF rfl q) (by omega) (by omega)) ?_
  refine BW 70 rfl rfl (fun q => Af GO (cF rfl q)) ?_
  refine BW 70 rfl rfl (fun q => by have q1 := q; (try simp at q1); exact AF (cF rfl q) A1 .m1 ((AH.l1.comp (AS.ar (n := 9) Ak.fl (by omega))).comp Ak.l1) rfl rfl) ?_
  refine BW 70 rfl rfl (fun q => CK (cF rfl q) rfl) ?_
  refine Gt (BR rfl rfl (fun h => by rw [h]; rfl)) ?_
  refine Gm rfl (BW 79 rfl rfl (fun q => AE rfl) ?_)
  refine Gt (BR rfl rfl (fun h => by rw [h]; rfl)) ?_
  refine Gn (.t3 2 5 81) ?_
  refine Gc (fun c5 => ?_) (fun c5 => ?_)
  ·
   refine Gs (Ga rfl (Gn (.t1 4) (Ab (AD (AO (AD ?_))))))
   refine AY rfl (.tmp rfl .n) ?_
   intro w1 hS; refine ⟨congrArg Value.bool ?_, hS.Am⟩; simp only [AH.Cb, c1, c2, c3, c4, c5, ↓reduceIte, Bool.false_eq_true]
  have c5p := kz c5
  refine Aa ?_
  refine AB (.t2 2 5) ?_
  refine AA (Gs (Gm rfl (AP (AA (Ae ?_)))))
  refine Bj (.t3 82 2 5) ?_
  refine G5 (fun (k : Int) (t : Ak) => 0 ≤ k ∧ k ≤ 10 ∧ X.Cb i = X.JM (10 - k).toNat t) (fun (k : Int) (t : Ak) => (10 - k).toNat) (fun (k : Int) (t : Ak) => [(82, .int .i64 k)]) (fun (k : Int) (t : Ak) => [Ac.box b2 29 (Ak.enc t)]) (0) (X.AX.at i) ?_ rfl rfl (fun k t hI1 => ?_)
  · refine ⟨Int.le_refl _, by omega, ?_⟩; simp only [AH.Cb, c1, c2, c3, c4, c5, ↓reduceIte, Bool.false_eq_true]; rfl
  obtain ⟨hI11, hI12, hI13⟩ := hI1
  refine Gs (Gt (A5 rfl rfl) (AP (AA (Ao ?_))))
  refine Gc (fun c6 => ?_) (fun c6 => ?_)
  ·
   have c6p := kz c6
   rw [show (10 - k).toNat = (10 - (k + 1)).toNat + 1 from by omega, AH.JM, show decide ((10 - (k + 1)).toNat = 0) = decide (k = 9) from decide_eq_decide.2 ⟨by omega, by omega⟩] at hI13
   refine Aa ?_
   refine AB (.t3 2 5 82) ?_
   refine AA (Ao (Ae (Gs (Gm rfl (Ga rfl (Gn (.t4 2 5 7 82) (CA ?_)))))))
   refine Gt (Af E5 rfl) (Gt (AF rfl A1 .m0 Ak.l2 rfl rfl) (Gt (CK rfl rfl) (Gn (.t5 2 5 7 82 87) ?_)))
   refine Gc (fun c7 => ?_) (fun c7 => ?_)
   ·
    refine Gs (Ga rfl (Gn (.t1 4) (Ab (AD (AO (AD (AD ?_)))))))
    refine AO (AO (AD ?_))
    refine AY rfl (.tmp rfl .n) ?_
    intro w1 hS; refine ⟨congrArg Value.bool ?_, hS.Am⟩; rw [hI13]; simp only [c1, c2, c3, c4, c5, c6, c7, ↓reduceIte, Bool.false_eq_true]
   have c7p := kz c7
   refine Aa ?_
   refine AB (.t4 2 5 7 82) ?_
   refine AA (CA (Gm rfl (Gt (Ai rfl rfl) (Gm rfl (BW 90 rfl rfl (fun q => Af C5 rfl) (BW 90 rfl rfl (fun q => AF (cF rfl q) A1 .m0 Ak.l3 rfl rfl) (BW 90 rfl rfl (fun q => A5 (cF rfl q) rfl) ?_)))))))
   refine Gt (BR rfl rfl (fun h => by rw [h]; rfl)) ?_
   refine Gm rfl (BW 95 rfl rfl (fun q => Af C5 rfl) (BW 95 rfl rfl (fun q => AF (cF rfl q) A1 .m0 Ak.l3 rfl rfl) (BW 95 rfl rfl (fun q => CH (cF rfl q) rfl) ?_)))
   refine Gt (BR rfl rfl (fun h => by rw [h]; rfl)) ?_
   refine Gn (.t4 2 5 82 99) ?_
   refine Gc (fun c8 => ?_) (fun c8 => ?_)
   ·
    refine Gs (Ga rfl (Gn (.t1 4) (Ab (AD (AO (AD (AD ?_)))))))
    refine AO (AO (AD ?_))
    refine AY rfl (.tmp rfl .n) ?_
    intro w1 hS; refine ⟨congrArg Value.bool ?_, hS.Am⟩; rw [hI13]; simp only [c1, c2, c3, c4, c5, c6, c7, c8, ↓reduceIte, Bool.false_eq_true]
   have c8p := kz c8
   refine Aa ?_
   refine AB (.t3 2 5 82) ?_
   refine AA (AI (Gt (Af C5 rfl) (Gt (AF rfl A1 .m0 Ak.l3 rfl rfl) (Gt (Af Cp rfl) ?_))))
   refine Gt (AQ Fo rfl rfl (by omega) (by omega)) ?_
   refine Gt (AZ rfl Kt .m1 (AH.l1.comp (AS.ar (n := 9) Ak.fl (by omega))) rfl) ?_
   refine AR (AK (AS.id Ak.fl.len Ak.fl.one) rfl rfl rfl MJ rfl .h) ?_
   refine AP (AB (.t3 2 5 82) ?_)
   refine AT (AA (AI ?_))
   refine Gt (Aw rfl rfl (IntWalk.i64_in _ (by omega))) ?_
   refine Gm rfl ?_
   refine AP (AB (.t3 2 5 82) ?_)
   refine DP (k + 1) (X.AX.at t.at_) ?_ ?_ (.t3 82 2 5) (.refl _)
   · exact ⟨by omega, by omega, by rw [hI13]; simp only [c1, c2, c3, c4, c5, c6, c7, c8, ↓reduceIte, Bool.false_eq_true]⟩
   · omega
  have c6p := kz c6
  obtain rfl : k = 10 := by omega
  refine Ba (AV (AV (Ah ?_)))
  refine AB (.nil _) ?_
  refine AT (AA (Gs (Ga rfl (AP (AA (Ab ?_))))))
  refine AY rfl (.tmp rfl .n) ?_
  intro w1 hS; refine ⟨congrArg Value.bool ?_, hS.Am⟩; rw [hI13]; rfl
 refine Aa ?_
 refine AB (.nil _) ?_
 refine AT (AA (Gs (Ga rfl (AP (AA (Ab ?_))))))
 refine AY rfl (.tmp rfl .n) ?_
 intro w1 hS; refine ⟨congrArg Value.bool ?_, hS.Am⟩; simp only [AH.Cb, c1, c2, c3, c4, ↓reduceIte, Bool.false_eq_true]
theorem G3 (X : AH) (w : World) : EF Tryz.prog 43 #[.agg X.enc.toArray] w fun v w' => v = .bool X.Bs ∧ B3 w w' := by
 refine Aj [] [] Tryz.func43 rfl rfl rfl (St.start w []) ?_
 refine Gs ?_
 refine Bu rfl rfl rfl (fun b1 => ?_)
 refine Ga rfl (Gn (.t1 1) (CA (Gt (Af GR rfl) (Gt (AZ rfl YA .m0 AH.l0 rfl) (Gm rfl (Gn (.t3 1 11 12) (Ae ?_)))))))
 refine Bj (.t3 12 1 11) ?_
 refine CR (fun (k : Int) => 0 ≤ k ∧ k ≤ 6 ∧ X.Bs = (B9 6 X.K2 (6 - k).toNat && (B9 6 (fun k => !AH.DS (X.AW.at k)) 6 && B9 9 X.Cb 9))) (fun (k : Int) => (6 - k).toNat) (fun (k : Int) => [(12, .int .i64 k)]) (fun (k : Int) => []) (0) ?_ rfl rfl (fun k hI1 => ?_)
 · exact ⟨Int.le_refl _, by omega, rfl⟩
 obtain ⟨hI11, hI12, hI13⟩ := hI1
 refine Gs (Gt (A5 rfl rfl) (AP (AA (Ao ?_))))
 refine Gc (fun c1 => ?_) (fun c1 => ?_)
 ·
  have c1p := kz c1
  rw [C2 _ (by omega)] at hI13
  refine Aa ?_
  refine AB (.t3 1 11 12) ?_
  refine AA (Ao (Ae (Gs ?_)))
  refine Gt (Fj Room.fl Tryz.underlying27 ME rfl rfl (by omega) (by omega)) ?_
  refine BG rfl M1 rfl (fun b2 => ?_)
  refine AR (AK (AS.id Room.fl.len Room.fl.one) rfl rfl rfl PM rfl .h) ?_
  refine Gn (.t4 1 4 11 12) (Gs (Gt (Af Lw rfl) (Gt (AZ rfl WU .m0 Room.l2 rfl) (Gm rfl (Gn (.t6 1 4 11 12 16 17) (Ae ?_))))))
  refine Bj (.t6 17 1 4 11 12 16) ?_
  refine CR (fun (d : Int) => 0 ≤ d ∧ d ≤ 6 ∧ X.K2 k = B9 6 (fun d => !AH.Ia (X.Bx.at k) d) (6 - d).toNat) (fun (d : Int) => (6 - d).toNat) (fun (d : Int) => [(17, .int .i64 d)]) (fun (d : Int) => []) (0) ?_ rfl rfl (fun d hI2 => ?_)
  · exact ⟨Int.le_refl _, by omega, rfl⟩
  obtain ⟨hI21, hI22, hI23⟩ := hI2
  refine Gs (Gt (A5 rfl rfl) (AP (AA (Ao ?_))))
  refine Gc (fun c2 => ?_) (fun c2 => ?_)
  ·
   have c2p := kz c2
   rw [C2 _ (by omega)] at hI23
   refine Aa ?_
   refine AB (.t6 1 4 11 12 16 17) ?_
   refine AA (Ao (Ae (Gs (Gm rfl ?_))))
   refine Gt (JW By Tryz.underlying23 C3 A1 rfl rfl (by omega) (by omega) rfl) ?_
   refine Ga rfl (Ga rfl (Gn (.t8 1 4 5 6 11 12 16 17) (Gs (Gm rfl (Gt (A5 rfl rfl) (Gm rfl (BW 23 rfl rfl (fun q => AE rfl) ?_)))))))
   refine BW 23 rfl rfl (fun q => Cd (cF rfl q) rfl) ?_
   refine Gt (BR rfl rfl (fun h => by rw [h]; rfl)) ?_
   refine Gm rfl (BW 27 rfl rfl (fun q => AE rfl) (BW 27 rfl rfl (fun q => Ai (cF rfl q) rfl) (BW 27 rfl rfl (fun q => AE (cF rfl q)) ?_)))
   refine DA (t := 30) rfl rfl rfl (fun qc q => AE rfl) ?_
   refine DA (t := 30) rfl rfl rfl (fun qc q => Af L0 rfl) ?_
   refine DA (t := 30) rfl rfl rfl (fun qc q => by have q1 := q; have qc1 := qc; (try simp at q1 qc1); exact AQ Ul (BV rfl (by rw [qc, q]; rfl)) (BV rfl (by rw [qc, q]; rfl)) (by omega) (by omega)) ?_
   refine DA (t := 30) rfl rfl rfl (fun qc q => by have q1 := q; have qc1 := qc; (try simp at q1 qc1); exact AF (BV rfl (by rw [qc, q]; rfl)) Ct .m0 (Room.l3.comp (AS.ar (n := 6) Gd (by omega))) rfl rfl) ?_
   refine BW 27 rfl rfl (fun q => BH (cF rfl q) rfl (fun h => by rw [q, h]; rfl)) ?_
   refine Gt (BR rfl rfl (fun h => by rw [h]; rfl)) ?_
   refine Gn (.t7 1 4 11 12 16 17 36) ?_
   refine Gc (fun c3 => ?_) (fun c3 => ?_)
   ·
    refine Gs (Ga rfl (Gn (.t1 2) (Ab (AO (AD (AD (AO ?_)))))))
    refine AO (AD (AD (AO (AD ?_))))
    refine AY rfl (.tmp rfl .n) ?_
    intro w1 hS; refine ⟨congrArg Value.bool ?_, hS.Am⟩; rw [hI13, hI23, AH.Ia, c3]; rfl
   have c3p := kz c3
   refine Aa ?_
   refine AB (.t6 1 4 11 12 16 17) ?_
   refine AT (AA (AI ?_))
   refine Gt (Aw rfl rfl (IntWalk.i64_in _ (by omega))) ?_
   refine Gm rfl ?_
   refine AP (AB (.t6 1 4 11 12 16 17) ?_)
   refine B0 (d + 1) ?_ ?_ (.t6 17 1 4 11 12 16) (.refl _)
   · exact ⟨by omega, by omega, by rw [hI23, AH.Ia, c3]; rfl⟩
   · omega
  have c2p := kz c2
  obtain rfl : d = 6 := by omega
  refine Ba (AV (AV (Ah ?_)))
  refine AB (.t3 1 11 12) ?_
  refine AT (AA (AI ?_))
  refine Gt (Aw rfl rfl (IntWalk.i64_in _ (by omega))) ?_
  refine Gm rfl ?_
  refine AP (AB (.t3 1 11 12) ?_)
  refine B0 (k + 1) ?_ ?_ (.t3 12 1 11) (.cons _ (.refl _))
  · exact ⟨by omega, by omega, by rw [hI13, hI23]; rfl⟩
  · omega
 have c1p := kz c1
 obtain rfl : k = 6 := by omega
 refine Ba (AV (AV (Ah ?_)))
 refine AB (.t1 1) ?_
 refine AA (CA (Gt (Af Bi rfl) (Gt (AZ rfl Vl .m0 AH.l2 rfl) (Gm rfl (Gn (.t3 1 40 41) (Ae ?_))))))
 refine Bj (.t3 41 1 40) ?_
 refine CR (fun (b : Int) => 0 ≤ b ∧ b ≤ 6 ∧ X.Bs = (B9 6 (fun k => !AH.DS (X.AW.at k)) (6 - b).toNat && B9 9 X.Cb 9)) (fun (b : Int) => (6 - b).toNat) (fun (b : Int) => [(41, .int .i64 b)]) (fun (b : Int) => []) (0) ?_ rfl rfl (fun b hI3 => ?_)
 · exact ⟨Int.le_refl _, by omega, hI13⟩
 obtain ⟨hI31, hI32, hI33⟩ := hI3
 refine Gs (Gt (A5 rfl rfl) (AP (AA (Ao ?_))))
 refine Gc (fun c4 => ?_) (fun c4 => ?_)
 ·
  have c4p := kz c4
  rw [C2 _ (by omega)] at hI33
  refine Aa ?_
  refine AB (.t3 1 40 41) ?_
  refine AA (Ao (Ae (Gs ?_)))
  refine Gt (Fj Al.fl Tryz.underlying33 FB rfl rfl (by omega) (by omega)) ?_
  refine BG rfl LM rfl (fun b3 => ?_)
  refine AR (AK (AS.id Al.fl.len Al.fl.one) rfl rfl rfl Jm rfl .h) ?_
  refine Gn (.t4 1 8 40 41) (Gs (Gt (Af Cx rfl) (Gt (AF rfl A1 .m0 Al.l3 rfl rfl) (Gt (A5 rfl rfl) (Gm rfl (BW 47 rfl rfl (fun q => Af Cx rfl) (BW 47 rfl rfl (fun q => AF (cF rfl q) A1 .m0 Al.l3 rfl rfl) ?_)))))))
  refine BW 47 rfl rfl (fun q => CH (cF rfl q) rfl) ?_
  refine Gt (BR rfl rfl (fun h => by rw [h]; rfl)) ?_
  refine Gm rfl (BW 52 rfl rfl (fun q => Af I2 rfl) (BW 52 rfl rfl (fun q => AF (cF rfl q) A1 .m0 Al.l4 rfl rfl) (BW 52 rfl rfl (fun q => A5 (cF rfl q) rfl) ?_)))
  refine Gt (BR rfl rfl (fun h => by rw [h]; rfl)) ?_
  refine Gm rfl (BW 57 rfl rfl (fun q => Af I2 rfl) (BW 57 rfl rfl (fun q => AF (cF rfl q) A1 .m0 Al.l4 rfl rfl) (BW 57 rfl rfl (fun q => Cd (cF rfl q) rfl) ?_)))
  refine Gt (BR rfl rfl (fun h => by rw [h]; rfl)) ?_
  refine Gm rfl (BW 62 rfl rfl (fun q => Af Fi rfl) (BW 62 rfl rfl (fun q => AF (cF rfl q) A1 .m0 Al.l5 rfl rfl) (BW 62 rfl rfl (fun q => A5 (cF rfl q) rfl) ?_)))
  refine Gt (BR rfl rfl (fun h => by rw [h]; rfl)) ?_
  refine Gm rfl (BW 67 rfl rfl (fun q => Af Fi rfl) (BW 67 rfl rfl (fun q => AF (cF rfl q) A1 .m0 Al.l5 rfl rfl) (BW 67 rfl rfl (fun q => Cd (cF rfl q) rfl) ?_)))
  refine Gt (BR rfl rfl (fun h => by rw [h]; rfl)) ?_
  refine Gm rfl (BW 72 rfl rfl (fun q => Af Hg rfl) (BW 72 rfl rfl (fun q => AF (cF rfl q) Ct .m0 Al.l1 rfl rfl) (BW 72 rfl rfl (fun q => BO (cF rfl q)) (BW 72 rfl rfl (fun q => AE (cF rfl q)) ?_))))
  refine DA (t := 76) rfl rfl rfl (fun qc q => Af Fi rfl) ?_
  refine DA (t := 76) rfl rfl rfl (fun qc q => AF (BV rfl (by rw [qc, q]; rfl)) A1 .m0 Al.l5 rfl rfl) ?_
  refine DA (t := 76) rfl rfl rfl (fun qc q => CK (BV rfl (by rw [qc, q]; rfl)) rfl) ?_
  refine BW 72 rfl rfl (fun q => BH (cF rfl q) rfl (fun h => by rw [q, h]; rfl)) ?_
  refine Gt (BR rfl rfl (fun h => by rw [h]; rfl)) ?_
  refine Gm rfl (BW 82 rfl rfl (fun q => Af Hg rfl) (BW 82 rfl rfl (fun q => AF (cF rfl q) Ct .m0 Al.l1 rfl rfl) (BW 82 rfl rfl (fun q => Af I2 rfl) (BW 82 rfl rfl (fun q => AF (cF rfl q) A1 .m0 Al.l4 rfl rfl) (BW 82 rfl rfl (fun q => Cd (cF rfl q) rfl) (BW 82 rfl rfl (fun q => I4 Tryz.underlying4 (cF rfl q) (cF rfl q)) ?_))))))
  refine Gt (BR rfl rfl (fun h => by rw [h]; rfl)) ?_
  refine Gn (.t4 1 40 41 89) ?_
  refine Gc (fun c5 => ?_) (fun c5 => ?_)
  ·
   refine Gs (Ga rfl (Gn (.t1 2) (Ab (AO (AD (AD (AO ?_)))))))
   refine AD ?_
   refine AY rfl (.tmp rfl .n) ?_
   intro w1 hS; refine ⟨congrArg Value.bool ?_, hS.Am⟩; rw [hI33, AH.DS, c5]; rfl
  have c5p := kz c5
  refine Aa ?_
  refine AB (.t3 1 40 41) ?_
  refine AT (AA (AI ?_))
  refine Gt (Aw rfl rfl (IntWalk.i64_in _ (by omega))) ?_
  refine Gm rfl ?_
  refine AP (AB (.t3 1 40 41) ?_)
  refine B0 (b + 1) ?_ ?_ (.t3 41 1 40) (.cons _ (.refl _))
  · exact ⟨by omega, by omega, by rw [hI33, AH.DS, c5]; rfl⟩
  · omega
 have c4p := kz c4
 obtain rfl : b = 6 := by omega
 refine Ba (AV (AV (Ah ?_)))
 refine AB (.t1 1) ?_
 refine AA (CA (Gm rfl (AP (AA (Ae ?_)))))
 refine Bj (.t2 91 1) ?_
 refine CR (fun (t : Int) => 0 ≤ t ∧ t ≤ 9 ∧ X.Bs = B9 9 X.Cb (9 - t).toNat) (fun (t : Int) => (9 - t).toNat) (fun (t : Int) => [(91, .int .i64 t)]) (fun (t : Int) => []) (0) ?_ rfl rfl (fun t hI4 => ?_)
 · exact ⟨Int.le_refl _, by omega, hI33⟩
 obtain ⟨hI41, hI42, hI43⟩ := hI4
 refine Gs (Gt (A5 rfl rfl) (AP (AA (Ao ?_))))
 refine Gc (fun c6 => ?_) (fun c6 => ?_)
 ·
  have c6p := kz c6
  rw [C2 _ (by omega)] at hI43
  refine Aa ?_
  refine AB (.t2 1 91) ?_
  refine AA (Ao (Ae (Gs (Gm rfl (Ga rfl (Gn (.t3 1 9 91) (Gs ?_)))))))
  refine Gt (AZ rfl BT .m0 (AS.id AH.fl.len AH.fl.one) rfl) (Gm rfl ?_)
  refine A8 rfl aw (.c rfl (.c rfl .n)) (fun w hS => Js X _ (by omega) (by omega) w) ?_
  refine Gt (BO rfl) (Gn (.t3 1 91 97) ?_)
  refine Gc (fun c7 => ?_) (fun c7 => ?_)
  ·
   refine Gs (Ga rfl (Gn (.t1 2) (Ab (AO (AD (AD (AO ?_)))))))
   refine AD ?_
   refine AY rfl (.tmp rfl .n) ?_
   intro w1 hS; refine ⟨congrArg Value.bool ?_, hS.Am⟩; rw [hI43, show X.Cb t = false by simpa using c7]; rfl
  have c7p := kz c7
  refine Aa ?_
  refine AB (.t2 1 91) ?_
  refine AT (AA (AI ?_))
  refine Gt (Aw rfl rfl (IntWalk.i64_in _ (by omega))) ?_
  refine Gm rfl ?_
  refine AP (AB (.t2 1 91) ?_)
  refine B0 (t + 1) ?_ ?_ (.t2 91 1) (.refl _)
  · exact ⟨by omega, by omega, by rw [hI43, show X.Cb t = true by simpa using c7]; rfl⟩
  · omega
 have c6p := kz c6
 obtain rfl : t = 9 := by omega
 refine Ba (AV (AV (Ah ?_)))
 refine AB (.nil _) ?_
 refine AA (Gs (Ga rfl (AP (AA (Ab ?_)))))
 refine AY rfl (.tmp rfl .n) ?_
 intro w1 hS; refine ⟨congrArg Value.bool ?_, hS.Am⟩; rw [hI43]; rfl
theorem Le (s : As) (hs : s.length ≤ 100000000) (w : World) : EF Tryz.prog 46 #[BP s] w fun v w' => v = .bool (AG.Jd s) ∧ B3 w w' := by
 refine Aj [] [] Tryz.func46 rfl rfl rfl (St.start w []) ?_
 refine Gs (Ga rfl (Gn (.t1 0) (CA (Gm rfl (Gt (BI rfl Tryz.underlying9 rfl) (Gm rfl (Gn (.t3 0 5 6) ?_)))))))
 refine Ae ?_
 refine Bj (.t3 6 0 5) ?_
 refine CR (fun (k : Int) => 0 ≤ k ∧ k ≤ (s.length : Int) ∧ AG.HE s 0 = AG.HE s k.toNat) (fun (k : Int) => ((s.length : Int) - k).toNat) (fun (k : Int) => [(6, .int .i64 k)]) (fun (k : Int) => []) (0) ?_ rfl rfl (fun k hI1 => ?_)
 · exact ⟨by omega, by omega, rfl⟩
 obtain ⟨hI11, hI12, hI13⟩ := hI1
 refine Gs (Gt (A5 rfl rfl) (AP (AA (Ao ?_))))
 refine Gc (fun c1 => ?_) (fun c1 => ?_)
 ·
  have c1p := kz c1
  have hst := AG.Uq (s := s) hI11 (by omega)
  refine Aa ?_
  refine AB (.t3 0 5 6) ?_
  refine AA (Ao (Ae (Gs (Gm rfl (Ga rfl (Gn (.t4 0 3 5 6) (Gs ?_)))))))
  refine Gm rfl (Gm rfl ?_)
  refine Gt (Bh Tryz.underlying9 rfl rfl (by omega) (by omega)) ?_
  refine Gt (A5 rfl rfl) (Gm rfl (BW 13 rfl rfl (fun q => AE rfl) (BW 13 rfl rfl (fun q => AE rfl) ?_)))
  refine BW 13 rfl rfl (fun q => by have q1 := q; (try simp at q1); exact Bh Tryz.underlying9 (cF rfl q) (cF rfl q) (by omega) (by omega)) ?_
  refine BW 13 rfl rfl (fun q => Cd (cF rfl q) rfl) ?_
  refine Gt (BR rfl rfl (fun h => by rw [h]; rfl)) ?_
  refine Gn (.t4 0 5 6 18) ?_
  refine Gc (fun c2 => ?_) (fun c2 => ?_)
  ·
   rw [show AG.low (s.getD k.toNat 0) = true from c2] at hst
   refine Gs (Ga rfl (Gn (.t1 2) (Ab (AO (AD (AD (AO ?_)))))))
   refine AD ?_
   refine AY rfl (.tmp rfl .n) ?_
   intro w1 hS; refine ⟨?_, hS.Am⟩; exact congrArg Value.bool (by rw [AG.Jd, hI13, hst]; rfl)
  have c2p := kz c2
  rw [show AG.low (s.getD k.toNat 0) = false from c2] at hst
  refine Aa ?_
  refine AB (.t3 0 5 6) ?_
  refine AT (AA (AI ?_))
  refine Gt (Aw rfl rfl (IntWalk.i64_in _ (by omega))) ?_
  refine Gm rfl ?_
  refine AP (AB (.t3 0 5 6) ?_)
  refine B0 (k + 1) ?_ ?_ (.t3 6 0 5) (.refl _)
  · exact ⟨by omega, by omega, by rw [hI13, hst]; rfl⟩
  · omega
 have c1p := kz c1
 obtain rfl : k = (s.length : Int) := by omega
 rw [AG.WE] at hI13
 refine Ba (AV (AV (Ah ?_)))
 refine AB (.t1 0) ?_
 refine AA (Gs (Gm rfl (Gt (BI rfl Tryz.underlying9 rfl) (Gt (CH rfl rfl) (Gm rfl (BZ 23 rfl rfl (fun q => AE rfl) (BZ 23 rfl rfl (fun q => BI rfl Tryz.underlying9 (BV rfl q)) ?_)))))))
 refine BZ 23 rfl rfl (fun q => Hc (BV rfl q) rfl) (Gt (BH rfl rfl (fun h => h)) (Gm rfl (BZ 28 rfl rfl (fun q => AE rfl) (BZ 28 rfl rfl (fun q => DW (BV rfl q) rfl) (Gt (BH rfl rfl (fun h => h)) (Gm rfl (BZ 32 rfl rfl (fun q => AE rfl) ?_)))))))
 refine BZ 32 rfl rfl (fun q => DW (BV rfl q) rfl) (Gt (BH rfl rfl (fun h => h)) (Ga rfl (Gn (.t1 2) (Ab ?_))))
 refine AY rfl (.tmp rfl .n) ?_
 intro w1 hS; refine ⟨?_, hS.Am⟩; exact congrArg Value.bool (by rw [AG.Jd, hI13]; simp only [Bool.true_and]; rfl)
theorem Fl (X : AH) (b : Int) (w : World) : EF Tryz.prog 159 #[.agg X.enc.toArray, .int .i64 b] w fun v w' => v = .bool (X.A7 b) ∧ B3 w w' := by
 refine Aj [] [] Tryz.func159 rfl rfl rfl (St.start w []) ?_
 refine Gs ?_
 refine Bu rfl rfl rfl (fun b1 => ?_)
 refine Ga rfl (Gn (.t2 1 2) (Gs (Gm rfl (Gt (CH rfl rfl) (Gm rfl (BZ 7 rfl rfl (fun q => AE rfl) (BZ 7 rfl rfl (fun q => A5 (BV rfl q) rfl) ?_)))))))
 refine Gt (BH rfl rfl (fun h => h)) (Gm rfl (BZ 11 rfl rfl (fun q => AE rfl) (BZ 11 rfl rfl (fun q => Af Bi rfl) ?_)))
 refine BZ 11 rfl rfl (fun q => by have q1 := q; (try simp at q1); exact AQ Cy (BV rfl q) (BV rfl q) (by omega) (by omega)) ?_
 refine BZ 11 rfl rfl (fun q => Af Hg (BV rfl q)) ?_
 refine BZ 11 rfl rfl (fun q => by have q1 := q; (try simp at q1); exact AF (BV rfl q) Ct .m0 ((AH.l2.comp (AS.ar (n := 6) Al.fl (by omega))).comp Al.l1) rfl rfl) ?_
 refine Gt (BH rfl rfl (fun h => h)) (Ga rfl (Gn (.t1 4) (Ab ?_)))
 refine AY rfl (.tmp rfl .n) ?_
 intro w1 hS; refine ⟨?_, hS.Am⟩; rfl
theorem NI (X : AH) (i : Int) (w : World) : EF Tryz.prog 19 #[.agg X.enc.toArray, .int .i64 i] w fun v w' => v = .tuple #[.int .i64 (X.room i).1, .bool (X.room i).2] ∧ B3 w w' := by
 refine Aj [] [] Tryz.func19 rfl rfl rfl (St.start w []) ?_
 refine Gs ?_
 refine Bu rfl rfl rfl (fun b1 => ?_)
 refine Ga rfl (Ga rfl (Gn (.t2 1 2) (Gs (Ga rfl (AP (AA (CA ?_)))))))
 refine Gm rfl (AP (AA (Ae ?_)))
 refine Bj (.t4 1 6 8 2) ?_
 refine De (fun (k : Int) (j : Int) (o : Bool) => 0 ≤ k ∧ k ≤ 10 ∧ X.room i = X.I7 (10 - k).toNat j o) (fun (k : Int) (j : Int) (o : Bool) => (10 - k).toNat) (fun (k : Int) (j : Int) (o : Bool) => [(1, .int .i64 j), (6, .bool o), (8, .int .i64 k)]) (fun (k : Int) (j : Int) (o : Bool) => []) (0) (i) (true) ?_ rfl rfl (fun k j o hI1 => ?_)
 · exact ⟨Int.le_refl _, by omega, rfl⟩
 obtain ⟨hI11, hI12, hI13⟩ := hI1
 refine Gs (Gt (A5 rfl rfl) (AP (AA (Ao ?_))))
 refine Gc (fun c1 => ?_) (fun c1 => ?_)
 ·
  have c1p := kz c1
  rw [show (10 - k).toNat = (10 - (k + 1)).toNat + 1 from by omega, AH.I7] at hI13
  refine Aa ?_
  refine AB (.t4 1 2 6 8) ?_
  refine AA (Ao (Ae (CA (Gm rfl (Gt (A5 rfl rfl) (Gm rfl (BW 12 rfl rfl (fun q => AE rfl) ?_)))))))
  refine BW 12 rfl rfl (fun q => CH (cF rfl q) rfl) ?_
  refine Gt (BR rfl rfl (fun h => by rw [h]; rfl)) ?_
  refine Gn (.t5 1 2 6 8 15) ?_
  refine Gc (fun c2 => ?_) (fun c2 => ?_)
  ·
   refine Gs (Ga rfl (Ga rfl (Gn (.t2 4 5) (Ab (AD (AO (AD ?_)))))))
   refine AD (AO (AD ?_))
   refine AY rfl (.tmp rfl (.tmp rfl .n)) ?_
   intro w1 hS; refine ⟨?_, hS.Am⟩; rw [hI13]; simp only [c1, c2, ↓reduceIte, Bool.false_eq_true]; rfl
  have c2p := kz c2
  refine Aa ?_
  refine AB (.t4 1 2 6 8) ?_
  refine AA (Gs (Gm rfl (Gt (Af Cp rfl) ?_)))
  refine Gt (AQ Fo rfl rfl (by omega) (by omega)) ?_
  refine Gt (AZ rfl Kt .m0 (AH.l1.comp (AS.ar (n := 9) Ak.fl (by omega))) rfl) ?_
  refine BG rfl Jt rfl (fun b2 => ?_)
  refine AR (AK (AS.id Ak.fl.len Ak.fl.one) rfl rfl rfl MJ rfl .h) ?_
  refine Gn (.t4 2 6 7 8) (CA (Gt (Af E5 rfl) (Gt (AF rfl A1 .m0 Ak.l2 rfl rfl) (Gn (.t5 2 6 7 8 21) (Ae (Gs (Gt (Ai rfl rfl) ?_)))))))
  refine Ga rfl (Gn (.t6 2 6 7 8 21 22) ?_)
  refine Gc (fun c3 => ?_) (fun c3 => ?_)
  ·
   refine Gs (Gt (Af C5 rfl) (Gt (AF rfl A1 .m0 Ak.l3 rfl rfl) (Gm rfl (Ga rfl (Ga rfl (Gn (.t2 4 5) (Ab ?_)))))))
   refine AO (AD (AO (AD (AD (AO (AD ?_))))))
   refine AY rfl (.tmp rfl (.tmp rfl .n)) ?_
   intro w1 hS; refine ⟨?_, hS.Am⟩; rw [hI13]; simp only [c1, c2, c3, ↓reduceIte, Bool.false_eq_true]; rfl
  have c3p := kz c3
  refine Gs (Gt (Ai rfl rfl) (Ga rfl (Gn (.t6 2 6 7 8 21 27) ?_)))
  refine Gc (fun c4 => ?_) (fun c4 => ?_)
  ·
   have c4p := kz c4
   refine CA (Gt (Af C5 rfl) (Gt (AF rfl A1 .m0 Ak.l3 rfl rfl) (Gt (A5 rfl rfl) (Gm rfl (BW 32 rfl rfl (fun q => Af C5 rfl) (BW 32 rfl rfl (fun q => AF (cF rfl q) A1 .m0 Ak.l3 rfl rfl) (BW 32 rfl rfl (fun q => CH (cF rfl q) rfl) ?_)))))))
   refine Gt (BR rfl rfl (fun h => by rw [h]; rfl)) ?_
   refine Gn (.t4 2 6 7 36) ?_
   refine Gc (fun c5 => ?_) (fun c5 => ?_)
   ·
    refine Gs (Ga rfl (Ga rfl (Gn (.t2 4 5) (Ab (AD (AO (AD ?_)))))))
    refine AO (AD (AD (AO (AD ?_))))
    refine AY rfl (.tmp rfl (.tmp rfl .n)) ?_
    intro w1 hS; refine ⟨?_, hS.Am⟩; rw [hI13]; simp only [c1, c2, c3, c4, c5, ↓reduceIte, Bool.false_eq_true]; rfl
   have c5p := kz c5
   refine Aa ?_
   refine AB (.t3 2 6 7) ?_
   refine AA (Gs (Gt (Af C5 rfl) (Gt (AF rfl A1 .m0 Ak.l3 rfl rfl) (Gt (Af Bi rfl) ?_))))
   refine Gt (AQ Cy rfl rfl (by omega) (by omega)) ?_
   refine Gt (Af Cx rfl) ?_
   refine Gt (AF rfl A1 .m1 ((AH.l2.comp (AS.ar (n := 6) Al.fl (by omega))).comp Al.l3) rfl rfl) ?_
   refine Gm rfl (Ga rfl (Ga rfl (Gn (.t2 4 5) (Ab (AO (AD (AO ?_)))))))
   refine AD (AD (AO (AD ?_)))
   refine AY rfl (.tmp rfl (.tmp rfl .n)) ?_
   intro w1 hS; refine ⟨?_, hS.Am⟩; rw [hI13]; simp only [c1, c2, c3, c4, c5, ↓reduceIte, Bool.false_eq_true]; rfl
  have c4p := kz c4
  refine Gs (Gt (Ai rfl rfl) (Ga rfl (Gn (.t5 2 6 7 8 44) ?_)))
  refine Gc (fun c6 => ?_) (fun c6 => ?_)
  ·
   have c6p := kz c6
   refine Aa ?_
   refine AB (.t4 2 6 7 8) ?_
   refine AT (AA (Gs (Gt (Af C5 rfl) (Gt (AF rfl A1 .m0 Ak.l3 rfl rfl) (Ga rfl (Gn (.t4 1 2 6 8) (Gs ?_)))))))
   refine Gm rfl (Gt (CH rfl rfl) (Gm rfl (BZ 50 rfl rfl (fun q => AE rfl) (BZ 50 rfl rfl (fun q => A5 (BV rfl q) rfl) (Gt (BH rfl rfl (fun h => h)) (Gm rfl (BZ 54 rfl rfl (fun q => AE rfl) ?_)))))))
   refine BZ 54 rfl rfl (fun q => Af Cp rfl) ?_
   refine BZ 54 rfl rfl (fun q => by have q1 := q; (try simp at q1); exact AQ Fo (BV rfl q) (BV rfl q) (by omega) (by omega)) ?_
   refine BZ 54 rfl rfl (fun q => Af Fb (BV rfl q)) ?_
   refine BZ 54 rfl rfl (fun q => by have q1 := q; (try simp at q1); exact AF (BV rfl q) Ct .m1 ((AH.l1.comp (AS.ar (n := 9) Ak.fl (by omega))).comp Ak.l4) rfl rfl) ?_
   refine BZ 54 rfl rfl (fun q => BO (BV rfl q)) (Gt (BH rfl rfl (fun h => h)) (Gn (.t5 1 2 6 8 61) ?_))
   refine Gc (fun c7 => ?_) (fun c7 => ?_)
   ·
    have c7p := kz c7
    refine AI (Ga rfl ?_)
    refine AP (AB (.t4 1 2 6 8) ?_)
    refine AT (AA (AI ?_))
    refine Gt (Aw rfl rfl (IntWalk.i64_in _ (by omega))) ?_
    refine Gm rfl ?_
    refine AP (AB (.t4 1 2 6 8) ?_)
    refine Bw (k + 1) ((X.AX.at j).at_) (false) ?_ ?_ (.t4 1 6 8 2) (.cons _ (.refl _))
    · exact ⟨by omega, by omega, by rw [hI13]; simp only [c1, c2, c3, c4, c6, c7, ↓reduceIte, Bool.false_eq_true]⟩
    · omega
   have c7p := kz c7
   refine Aa ?_
   refine AB (.t4 1 2 6 8) ?_
   refine AT (AA (AI ?_))
   refine Gt (Aw rfl rfl (IntWalk.i64_in _ (by omega))) ?_
   refine Gm rfl ?_
   refine AP (AB (.t4 1 2 6 8) ?_)
   refine Bw (k + 1) ((X.AX.at j).at_) (o) ?_ ?_ (.t4 1 6 8 2) (.cons _ (.refl _))
   · exact ⟨by omega, by omega, by rw [hI13]; simp only [c1, c2, c3, c4, c6, c7, ↓reduceIte, Bool.false_eq_true]⟩
   · omega
  refine Gs (Ga rfl (Ga rfl (Gn (.t2 4 5) (Ab (AO (AD (AO ?_)))))))
  refine AD (AD (AO (AD ?_)))
  refine AY rfl (.tmp rfl (.tmp rfl .n)) ?_
  intro w1 hS; refine ⟨?_, hS.Am⟩; rw [hI13]; simp only [c1, c2, c3, c4, c6, ↓reduceIte, Bool.false_eq_true]; rfl
 have c1p := kz c1
 obtain rfl : k = 10 := by omega
 refine Ba (AV (AV (Ah ?_)))
 refine AB (.nil _) ?_
 refine AA (Gs (Ga rfl (Ga rfl (AP (AA (Ab ?_))))))
 refine AY rfl (.tmp rfl (.tmp rfl .n)) ?_
 intro w1 hS; refine ⟨?_, hS.Am⟩; rw [hI13]; rfl
theorem EH (X : AH) (r : Int) (w : World) : EF Tryz.prog 129 #[.agg X.enc.toArray, .int .i64 r] w fun v w' => v = .bool (X.G6 r) ∧ B3 w w' := by
 refine Aj [] [] Tryz.func129 rfl rfl rfl (St.start w []) ?_
 refine Gs ?_
 refine Bu rfl rfl rfl (fun b1 => ?_)
 refine Ga rfl (Gn (.t2 1 2) (CA (Gm rfl (Gt (A5 rfl rfl) (Gm rfl (BW 11 rfl rfl (fun q => AE rfl) (BW 11 rfl rfl (fun q => CH (cF rfl q) rfl) ?_)))))))
 refine Gt (BR rfl rfl (fun h => by rw [h]; rfl)) ?_
 refine Gn (.t3 1 2 14) ?_
 refine Gc (fun c1 => ?_) (fun c1 => ?_)
 ·
  refine Gs (Ga rfl (Gn (.t1 4) (Ab (AD ?_))))
  refine AY rfl (.tmp rfl .n) ?_
  intro w1 hS; refine ⟨congrArg Value.bool ?_, hS.Am⟩; rw [show X.G6 r = _ from BB c1]
 have c1p := kz c1
 have hr : 0 ≤ r ∧ r < 6 := by simp at c1; omega
 refine Aa ?_
 refine AB (.t2 1 2) ?_
 refine AA (CA (Gm rfl (Gt (Af GR rfl) ?_)))
 refine Gt (AQ Nc rfl rfl (by omega) (by omega)) ?_
 refine Gt (Af YY rfl) ?_
 refine Gt (AF rfl Ct .m0 ((AH.l0.comp (AS.ar (n := 6) Room.fl (by omega))).comp Room.l1) rfl rfl) ?_
 refine Gt (BO rfl) (Gn (.t3 1 2 20) ?_)
 refine Gc (fun c2 => ?_) (fun c2 => ?_)
 ·
  refine Gs (Ga rfl (Gn (.t1 4) (Ab (AD ?_))))
  refine AY rfl (.tmp rfl .n) ?_
  intro w1 hS; refine ⟨congrArg Value.bool ?_, hS.Am⟩; rw [show X.G6 r = _ from (AU c1).trans (BB c2)]
 have c2p := kz c2
 refine Aa ?_
 refine AB (.t2 1 2) ?_
 refine AA (CA (Gt (Af Cp rfl) (Gt (AZ rfl TM .m0 AH.l1 rfl) (Gm rfl (Gn (.t4 1 2 22 23) (Ae ?_))))))
 refine Bj (.t4 23 1 2 22) ?_
 refine CR (fun (k : Int) => 0 ≤ k ∧ k ≤ 9 ∧ B9 9 (fun i => !X.lit r i) 9 = B9 9 (fun i => !X.lit r i) (9 - k).toNat) (fun (k : Int) => (9 - k).toNat) (fun (k : Int) => [(23, .int .i64 k)]) (fun (k : Int) => []) (0) ?_ rfl rfl (fun k hI1 => ?_)
 · exact ⟨by omega, by omega, rfl⟩
 obtain ⟨hI11, hI12, hI13⟩ := hI1
 refine Gs (Gt (A5 rfl rfl) (AP (AA (Ao ?_))))
 refine Gc (fun c3 => ?_) (fun c3 => ?_)
 ·
  have c3p := kz c3
  rw [C2 _ (by omega)] at hI13
  refine Aa ?_
  refine AB (.t4 1 2 22 23) ?_
  refine AA (Ao (Ae (Gs (Gm rfl ?_))))
  refine Gt (Fj Ak.fl Tryz.underlying30 Kt rfl rfl (by omega) (by omega)) ?_
  refine BG rfl Jt rfl (fun b2 => ?_)
  refine Ga rfl ?_
  refine AR (AK (AS.id Ak.fl.len Ak.fl.one) rfl rfl rfl MJ rfl .h) ?_
  refine Gn (.t6 1 2 5 6 22 23) (CA (Gt (Af GO rfl) (Gt (AF rfl A1 .m0 Ak.l1 rfl rfl) (Gt (CK rfl rfl) (Gm rfl (BW 30 rfl rfl (fun q => Af Fb rfl) (BW 30 rfl rfl (fun q => AF (cF rfl q) Ct .m0 Ak.l4 rfl rfl) ?_)))))))
  refine BW 30 rfl rfl (fun q => BO (cF rfl q)) ?_
  refine Gt (BR rfl rfl (fun h => by rw [h]; rfl)) ?_
  refine Gn (.t6 1 2 5 22 23 34) ?_
  refine Gc (fun c4 => ?_) (fun c4 => ?_)
  ·
   have c4p := kz c4
   refine Ba (AV (Ah ?_))
   refine AB (.t4 1 2 22 23) ?_
   refine AA (AI ?_)
   refine Gt (Aw rfl rfl (IntWalk.i64_in _ (by omega))) ?_
   refine Gm rfl ?_
   refine AP (AB (.t4 1 2 22 23) ?_)
   refine B0 (k + 1) ?_ ?_ (.t4 23 1 2 22) (.cons _ (.refl _))
   · exact ⟨by omega, by omega, by rw [hI13, show X.lit r k = false from by rw [AH.lit, c4]; first | rfl | exact Bool.and_false _]; rfl⟩
   · omega
  have c4p := kz c4
  refine Aa ?_
  refine AB (.t5 1 2 5 22 23) ?_
  refine AA (Gs (Gt (AZ rfl BT .m1 (AS.id AH.fl.len AH.fl.one) rfl) (Gm rfl ?_)))
  refine A8 rfl bw (.c rfl (.c rfl .n)) (fun w hS => NI _ _ w) ?_
  refine Gm rfl (Gt (AM rfl rfl) (Gt (AM rfl rfl) (Ga rfl (Ga rfl (Gn (.t6 1 2 7 8 22 23) (Gs (Gm rfl ?_)))))))
  refine Gm rfl (Gt (Ai rfl rfl) (Gm rfl (BZ 44 rfl rfl (fun q => AE rfl) (Gt (BH rfl rfl (fun h => h)) (Gn (.t5 1 2 22 23 46) ?_)))))
  refine Gc (fun c5 => ?_) (fun c5 => ?_)
  ·
   refine Gs (Ga rfl (Gn (.t1 4) (Ab (AO (AD (AD (AO ?_)))))))
   refine AD ?_
   refine AY rfl (.tmp rfl .n) ?_
   intro w1 hS; refine ⟨congrArg Value.bool ?_, hS.Am⟩; rw [show X.G6 r = _ from (AU c1).trans (AU c2), hI13, show X.lit r k = true from by rw [AH.lit, c4, c5]; rfl]; rfl
  have c5p := kz c5
  refine Aa ?_
  refine AB (.t4 1 2 22 23) ?_
  refine AT (AA (AI ?_))
  refine Gt (Aw rfl rfl (IntWalk.i64_in _ (by omega))) ?_
  refine Gm rfl ?_
  refine AP (AB (.t4 1 2 22 23) ?_)
  refine B0 (k + 1) ?_ ?_ (.t4 23 1 2 22) (.cons _ (.refl _))
  · exact ⟨by omega, by omega, by rw [hI13, show X.lit r k = false from by rw [AH.lit, c5]; first | rfl | exact Bool.and_false _]; rfl⟩
  · omega
 have c3p := kz c3
 obtain rfl : k = 9 := by omega
 refine Ba (AV (AV (Ah ?_)))
 refine AB (.nil _) ?_
 refine AA (Gs (Ga rfl (AP (AA (Ab ?_)))))
 refine AY rfl (.tmp rfl .n) ?_
 intro w1 hS; refine ⟨congrArg Value.bool ?_, hS.Am⟩; rw [show X.G6 r = _ from (AU c1).trans (AU c2), hI13]; rfl
theorem HQ (X : AH) (b : Int) (w : World) : EF Tryz.prog 160 #[.agg X.enc.toArray, .int .i64 b] w fun v w' => v = .bool (X.hidden b) ∧ B3 w w' := by
 refine Aj [] [] Tryz.func160 rfl rfl rfl (St.start w []) ?_
 refine Gs ?_
 refine Bu rfl rfl rfl (fun b1 => ?_)
 refine Ga rfl (Gn (.t2 1 2) (CA (Gt (Af Cp rfl) (Gt (AZ rfl TM .m0 AH.l1 rfl) (Gm rfl (Gn (.t3 1 8 9) (Ae ?_)))))))
 refine Bj (.t3 9 1 8) ?_
 refine CR (fun (k : Int) => 0 ≤ k ∧ k ≤ 9 ∧ B9 9 (fun i => !X.Kh b i) 9 = B9 9 (fun i => !X.Kh b i) (9 - k).toNat) (fun (k : Int) => (9 - k).toNat) (fun (k : Int) => [(9, .int .i64 k)]) (fun (k : Int) => []) (0) ?_ rfl rfl (fun k hI1 => ?_)
 · exact ⟨by omega, by omega, rfl⟩
 obtain ⟨hI11, hI12, hI13⟩ := hI1
 refine Gs (Gt (A5 rfl rfl) (AP (AA (Ao ?_))))
 refine Gc (fun c1 => ?_) (fun c1 => ?_)
 ·
  have c1p := kz c1
  rw [C2 _ (by omega)] at hI13
  refine Aa ?_
  refine AB (.t3 1 8 9) ?_
  refine AA (Ao (Ae (Gs ?_)))
  refine Gt (Fj Ak.fl Tryz.underlying30 Kt rfl rfl (by omega) (by omega)) ?_
  refine BG rfl Jt rfl (fun b2 => ?_)
  refine AR (AK (AS.id Ak.fl.len Ak.fl.one) rfl rfl rfl MJ rfl .h) ?_
  refine Gn (.t4 1 6 8 9) (Gs (Gt (Af GO rfl) (Gt (AF rfl A1 .m0 Ak.l1 rfl rfl) (Gt (Ai rfl rfl) (Gm rfl (BZ 15 rfl rfl (fun q => Af Fb rfl) (BZ 15 rfl rfl (fun q => AF (BV rfl q) Ct .m0 Ak.l4 rfl rfl) ?_)))))))
  refine Gt (BH rfl rfl (fun h => h)) (Gm rfl (BZ 19 rfl rfl (fun q => Af E5 rfl) (BZ 19 rfl rfl (fun q => AF (BV rfl q) A1 .m0 Ak.l2 rfl rfl) (BZ 19 rfl rfl (fun q => Ai (BV rfl q) rfl) (Gt (BH rfl rfl (fun h => h)) (Gm rfl (BZ 24 rfl rfl (fun q => Af C5 rfl) ?_)))))))
  refine BZ 24 rfl rfl (fun q => AF (BV rfl q) A1 .m0 Ak.l3 rfl rfl) (BZ 24 rfl rfl (fun q => AE rfl) (BZ 24 rfl rfl (fun q => Ai (BV rfl q) (BV rfl q)) (Gt (BH rfl rfl (fun h => h)) (Gn (.t4 1 8 9 29) ?_))))
  refine Gc (fun c2 => ?_) (fun c2 => ?_)
  ·
   refine Gs (Ga rfl (Gn (.t1 4) (Ab (AO (AD (AD (AO ?_)))))))
   refine AD ?_
   refine AY rfl (.tmp rfl .n) ?_
   intro w1 hS; refine ⟨congrArg Value.bool ?_, hS.Am⟩; rw [AH.hidden, hI13, show X.Kh b k = true from c2]; rfl
  have c2p := kz c2
  refine Aa ?_
  refine AB (.t3 1 8 9) ?_
  refine AT (AA (AI ?_))
  refine Gt (Aw rfl rfl (IntWalk.i64_in _ (by omega))) ?_
  refine Gm rfl ?_
  refine AP (AB (.t3 1 8 9) ?_)
  refine B0 (k + 1) ?_ ?_ (.t3 9 1 8) (.cons _ (.refl _))
  · exact ⟨by omega, by omega, by rw [hI13, show X.Kh b k = false from c2]; rfl⟩
  · omega
 have c1p := kz c1
 obtain rfl : k = 9 := by omega
 refine Ba (AV (AV (Ah ?_)))
 refine AB (.nil _) ?_
 refine AA (Gs (Ga rfl (AP (AA (Ab ?_)))))
 refine AY rfl (.tmp rfl .n) ?_
 intro w1 hS; refine ⟨congrArg Value.bool ?_, hS.Am⟩; rw [AH.hidden, hI13]; rfl
theorem DB (X : AH) (a b : Int) (w : World) : EF Tryz.prog 130 #[.agg X.enc.toArray, .int .i64 a, .int .i64 b] w fun v w' => v = .bool (X.Hy a b) ∧ B3 w w' := by
 refine Aj [] [] Tryz.func130 rfl rfl rfl (St.start w []) ?_
 refine Gs ?_
 refine Bu rfl rfl rfl (fun b1 => ?_)
 refine Ga rfl (Gn (.t3 1 2 3) (CA (Gt (AZ rfl BT .m0 (AS.id AH.fl.len AH.fl.one) rfl) (Gm rfl ?_))))
 refine A8 rfl V0 (.c rfl (.c rfl .n)) (fun w hS => Fl _ _ w) ?_
 refine Gt (BO rfl) (Gm rfl (BW 13 rfl rfl (fun q => AZ rfl BT .m0 (AS.id AH.fl.len AH.fl.one) rfl) (BW 13 rfl rfl (fun q => AE rfl) ?_)))
 refine Pn (t := 13) rfl rfl rfl (fun q => by have q1 := q; (try simp at q1); exact Dr V0 (.c (cF rfl q) (.c (cF rfl q) .n)) (fun w hS => Fl _ _ w)) ?_
 refine BW 13 rfl rfl (fun q => BO (cF rfl q)) ?_
 refine Gt (BR rfl rfl (fun h => by rw [h]; rfl)) ?_
 refine Gn (.t4 1 2 3 18) ?_
 refine Gc (fun c1 => ?_) (fun c1 => ?_)
 ·
  refine Gs (Ga rfl (Gn (.t1 6) (Ab (AD ?_))))
  refine AY rfl (.tmp rfl .n) ?_
  intro w1 hS; refine ⟨congrArg Value.bool ?_, hS.Am⟩; rw [show X.Hy a b = _ from (BB c1)]
 have c1p := kz c1
 have hr : (0 ≤ a ∧ a < 6) ∧ 0 ≤ b ∧ b < 6 := by simp at c1; have h1 := AH.Jl c1.1; have h2 := AH.Jl c1.2; omega
 refine Aa ?_
 refine AB (.t3 1 2 3) ?_
 refine AA (CA (Gm rfl (Gm rfl (Gt (Ai rfl rfl) (Gn (.t4 1 2 3 21) ?_)))))
 refine Gc (fun c2 => ?_) (fun c2 => ?_)
 ·
  refine Gs (Ga rfl (Gn (.t1 6) (Ab (AD ?_))))
  refine AY rfl (.tmp rfl .n) ?_
  intro w1 hS; refine ⟨congrArg Value.bool ?_, hS.Am⟩; rw [show X.Hy a b = _ from ((AU c1).trans (BB c2))]
 have c2p := kz c2
 refine Aa ?_
 refine AB (.t3 1 2 3) ?_
 refine AA (Ao ?_)
 refine BF (N := 12) [0, 0, 3, 7, 0, 0, 48, 112, 0, 0, 783, 2047] mix (by kernel_rfl) rfl ?_
 refine Pf 0 rfl (AE rfl) (Pf 1 rfl (Af Bi rfl) ?_)
 refine Pf 2 rfl (AQ Cy rfl rfl (by omega) (by omega)) ?_
 refine Pf 3 rfl (AZ rfl FB .m0 (AH.l2.comp (AS.ar (n := 6) Al.fl (by omega))) rfl) ?_
 refine Pf 4 rfl (AE rfl) (Pf 5 rfl (Af Bi rfl) ?_)
 refine Pf 6 rfl (AQ Cy rfl rfl (by omega) (by omega)) ?_
 refine Pf 7 rfl (AZ rfl FB .m0 (AH.l2.comp (AS.ar (n := 6) Al.fl (by omega))) rfl) ?_
 refine Iv 8 9 rfl rfl (by kernel_rfl) ?_ ?_
 ·
  refine BG rfl LM rfl (fun b2 => ?_)
  refine Bn rfl ⟨?_, ?_⟩
  · exact (Po rfl (AZ rfl FB .m1 (AH.l2.comp (AS.ar (n := 6) Al.fl (by omega))) rfl) rfl rfl (Po rfl (AQ Cy rfl rfl (by omega) (by omega)) rfl rfl (Po rfl (Af Bi rfl) rfl rfl (Po rfl (AE rfl) rfl rfl (Po rfl (AZ rfl FB .m1 (AH.l2.comp (AS.ar (n := 6) Al.fl (by omega))) rfl) rfl rfl (Po rfl (AQ Cy rfl rfl (by omega) (by omega)) rfl rfl (Po rfl (Af Bi rfl) rfl rfl (Po rfl (AE rfl) rfl rfl Au))))))))
  refine An 9 rfl (by kernel_rfl) ?_
  refine BG rfl LM rfl (fun b3 => ?_)
  refine Bn rfl ⟨?_, ?_⟩
  · exact (Po rfl (AZ rfl FB .m2 (AH.l2.comp (AS.ar (n := 6) Al.fl (by omega))) rfl) rfl rfl (Po rfl (AQ Cy rfl rfl (by omega) (by omega)) rfl rfl (Po rfl (Af Bi rfl) rfl rfl (Po rfl (AE rfl) rfl rfl (Po rfl (AZ rfl FB .m2 (AH.l2.comp (AS.ar (n := 6) Al.fl (by omega))) rfl) rfl rfl (Po rfl (AQ Cy rfl rfl (by omega) (by omega)) rfl rfl (Po rfl (Af Bi rfl) rfl rfl (Po rfl (AE rfl) rfl rfl Au))))))))
  refine An 10 rfl (by kernel_rfl) ?_
  refine AR (AK (AS.id Al.fl.len Al.fl.one) rfl rfl rfl Jm rfl (.t .h)) ?_
  refine BK rfl ⟨?_, ?_⟩
  · exact (Po rfl (AZ rfl FB .m2 (AH.l2.comp (AS.ar (n := 6) Al.fl (by omega))) rfl) rfl rfl (Po rfl (AQ Cy rfl rfl (by omega) (by omega)) rfl rfl (Po rfl (Af Bi rfl) rfl rfl (Po rfl (AE rfl) rfl rfl (Pk (Pk (Pk (Pk Au))))))))
  refine An 11 rfl (by kernel_rfl) ?_
  refine AR (AK (AS.id Al.fl.len Al.fl.one) rfl rfl rfl Jm rfl .h) ?_
  refine BK rfl ⟨?_, ?_⟩
  · exact (Pk (Pk (Pk (Pk (Pk (Pk (Pk (Pk Au))))))))
  refine A2 (by kernel_rfl) ?_
  refine AB (.t4 2 3 7 8) ?_
  refine AA (Gs (Gt (Af Cx rfl) (Gt (AF rfl A1 .m1 Al.l3 rfl rfl) (Gt (Af Cx rfl) (Gt (AF rfl A1 .m0 Al.l3 rfl rfl) (Gt (Ai rfl rfl) (Gm rfl ?_)))))))
  refine BZ 35 rfl rfl (fun q => AZ rfl BT .m2 (AS.id AH.fl.len AH.fl.one) rfl) (BZ 35 rfl rfl (fun q => Af Cx rfl) (BZ 35 rfl rfl (fun q => AF (BV rfl q) A1 .m1 Al.l3 rfl rfl) ?_))
  refine KK (t := 35) rfl rfl rfl (fun q => Dr Sy (.c (BV rfl q) (.c (BV rfl q) .n)) (fun w hS => EH _ _ w)) ?_
  refine Gt (BH rfl rfl (fun h => h)) (Gm rfl (BZ 41 rfl rfl (fun q => Af VO rfl) (BZ 41 rfl rfl (fun q => AF (BV rfl q) Ct .m1 Al.l2 rfl rfl) (BZ 41 rfl rfl (fun q => AE (BV rfl q)) ?_))))
  refine Cw (t := 44) rfl rfl rfl (fun qc q => AZ rfl BT .m2 (AS.id AH.fl.len AH.fl.one) rfl) ?_
  refine Cw (t := 44) rfl rfl rfl (fun qc q => AE rfl) ?_
  refine TO (t := 44) rfl rfl rfl (fun qc q => by have q1 := q; have qc1 := qc; (try simp at q1 qc1); exact Dr X5 (.c (BV rfl (by rw [qc, q]; rfl)) (.c (BV rfl (by rw [qc, q]; rfl)) .n)) (fun w hS => HQ _ _ w)) ?_
  refine Cw (t := 44) rfl rfl rfl (fun qc q => BO (BV rfl (by rw [qc, q]; rfl))) ?_
  refine BZ 41 rfl rfl (fun q => BR (BV rfl q) rfl (fun h => by rw [q, h]; rfl)) ?_
  refine Gt (BH rfl rfl (fun h => h)) (Ga rfl (Gn (.t1 6) (Ab ?_)))
  refine AY rfl (.tmp rfl .n) ?_
  intro w1 hS; refine ⟨congrArg Value.bool ?_, hS.Am⟩; rw [show X.Hy a b = _ from ((AU c1).trans (AU c2))]
 ·
  refine BG rfl LM rfl (fun b4 => ?_)
  refine Bn rfl ⟨?_, ?_⟩
  · exact (Po rfl (AZ rfl FB .m1 (AH.l2.comp (AS.ar (n := 6) Al.fl (by omega))) rfl) rfl rfl (Po rfl (AQ Cy rfl rfl (by omega) (by omega)) rfl rfl (Po rfl (Af Bi rfl) rfl rfl (Po rfl (AE rfl) rfl rfl (Po rfl (AZ rfl FB .m1 (AH.l2.comp (AS.ar (n := 6) Al.fl (by omega))) rfl) rfl rfl (Po rfl (AQ Cy rfl rfl (by omega) (by omega)) rfl rfl (Po rfl (Af Bi rfl) rfl rfl (Po rfl (AE rfl) rfl rfl Au))))))))
  refine An 8 rfl (by kernel_rfl) ?_
  refine BG rfl LM rfl (fun b5 => ?_)
  refine Bn rfl ⟨?_, ?_⟩
  · exact (Po rfl (AZ rfl FB .m2 (AH.l2.comp (AS.ar (n := 6) Al.fl (by omega))) rfl) rfl rfl (Po rfl (AQ Cy rfl rfl (by omega) (by omega)) rfl rfl (Po rfl (Af Bi rfl) rfl rfl (Po rfl (AE rfl) rfl rfl (Po rfl (AZ rfl FB .m2 (AH.l2.comp (AS.ar (n := 6) Al.fl (by omega))) rfl) rfl rfl (Po rfl (AQ Cy rfl rfl (by omega) (by omega)) rfl rfl (Po rfl (Af Bi rfl) rfl rfl (Po rfl (AE rfl) rfl rfl Au))))))))
  refine An 10 rfl (by kernel_rfl) ?_
  refine AR (AK (AS.id Al.fl.len Al.fl.one) rfl rfl rfl Jm rfl .h) ?_
  refine BK rfl ⟨?_, ?_⟩
  · exact (Po rfl (AZ rfl FB .m2 (AH.l2.comp (AS.ar (n := 6) Al.fl (by omega))) rfl) rfl rfl (Po rfl (AQ Cy rfl rfl (by omega) (by omega)) rfl rfl (Po rfl (Af Bi rfl) rfl rfl (Po rfl (AE rfl) rfl rfl (Pk (Pk (Pk (Pk Au))))))))
  refine An 11 rfl (by kernel_rfl) ?_
  refine AR (AK (AS.id Al.fl.len Al.fl.one) rfl rfl rfl Jm rfl (.t .h)) ?_
  refine BK rfl ⟨?_, ?_⟩
  · exact (Pk (Pk (Pk (Pk (Pk (Pk (Pk (Pk Au))))))))
  refine A2 (by kernel_rfl) ?_
  refine AB (.t4 2 3 7 8) ?_
  refine AA (Gs (Gt (Af Cx rfl) (Gt (AF rfl A1 .m0 Al.l3 rfl rfl) (Gt (Af Cx rfl) (Gt (AF rfl A1 .m1 Al.l3 rfl rfl) (Gt (Ai rfl rfl) (Gm rfl ?_)))))))
  refine BZ 35 rfl rfl (fun q => AZ rfl BT .m2 (AS.id AH.fl.len AH.fl.one) rfl) (BZ 35 rfl rfl (fun q => Af Cx rfl) (BZ 35 rfl rfl (fun q => AF (BV rfl q) A1 .m0 Al.l3 rfl rfl) ?_))
  refine KK (t := 35) rfl rfl rfl (fun q => Dr Sy (.c (BV rfl q) (.c (BV rfl q) .n)) (fun w hS => EH _ _ w)) ?_
  refine Gt (BH rfl rfl (fun h => h)) (Gm rfl (BZ 41 rfl rfl (fun q => Af VO rfl) (BZ 41 rfl rfl (fun q => AF (BV rfl q) Ct .m0 Al.l2 rfl rfl) (BZ 41 rfl rfl (fun q => AE (BV rfl q)) ?_))))
  refine Cw (t := 44) rfl rfl rfl (fun qc q => AZ rfl BT .m2 (AS.id AH.fl.len AH.fl.one) rfl) ?_
  refine Cw (t := 44) rfl rfl rfl (fun qc q => AE rfl) ?_
  refine TO (t := 44) rfl rfl rfl (fun qc q => by have q1 := q; have qc1 := qc; (try simp at q1 qc1); exact Dr X5 (.c (BV rfl (by rw [qc, q]; rfl)) (.c (BV rfl (by rw [qc, q]; rfl)) .n)) (fun w hS => HQ _ _ w)) ?_
  refine Cw (t := 44) rfl rfl rfl (fun qc q => BO (BV rfl (by rw [qc, q]; rfl))) ?_
  refine BZ 41 rfl rfl (fun q => BR (BV rfl q) rfl (fun h => by rw [q, h]; rfl)) ?_
  refine Gt (BH rfl rfl (fun h => h)) (Ga rfl (Gn (.t1 6) (Ab ?_)))
  refine AY rfl (.tmp rfl .n) ?_
  intro w1 hS; refine ⟨congrArg Value.bool ?_, hS.Am⟩; rw [show X.Hy a b = _ from ((AU c1).trans (AU c2))]
theorem MK (k : Int) (w : World) : EF Tryz.prog 173 #[.int .i64 k] w fun v w' => v = .bool (AH.Zm k) ∧ B3 w w' := by
 refine Aj [] [] Tryz.func173 rfl rfl rfl (St.start w []) ?_
 refine Gs (Ga rfl (Gn (.t1 0) (Gs (Gm rfl (Gt (Ai rfl rfl) (Gm rfl (BW 5 rfl rfl (fun q => AE rfl) ?_)))))))
 refine BW 5 rfl rfl (fun q => Ai (cF rfl q) rfl) ?_
 refine Gt (BR rfl rfl (fun h => by rw [h]; rfl)) ?_
 refine Gm rfl (BW 9 rfl rfl (fun q => AE rfl) (BW 9 rfl rfl (fun q => Ai (cF rfl q) rfl) ?_))
 refine Gt (BR rfl rfl (fun h => by rw [h]; rfl)) ?_
 refine Ga rfl (Gn (.t1 2) (Ab ?_))
 refine AY rfl (.tmp rfl .n) ?_
 intro w1 hS; refine ⟨?_, hS.Am⟩; rfl
theorem JF (X : AH) (b : Int) (e : Ing.Event) (w : World) : EF Tryz.prog 157 #[.agg X.enc.toArray, .int .i64 b, .agg e.enc.toArray] w fun v w' => v = .int .i64 (X.Dd b e) ∧ B3 w w' := by
 refine Aj [] [] Tryz.func157 rfl rfl rfl (St.start w []) ?_
 refine Gs ?_
 refine Bu rfl rfl rfl (fun b1 => ?_)
 refine Bu rfl rfl rfl (fun b2 => ?_)
 refine Ga rfl (Gn (.t3 1 3 5) (Ao (Ae (Gs (Gt (AZ rfl BT .m1 (AS.id AH.fl.len AH.fl.one) rfl) (Gm rfl ?_))))))
 refine A8 rfl V0 (.c rfl (.c rfl .n)) (fun w hS => Fl _ _ w) ?_
 refine Gt (BO rfl) (Ga rfl (Gn (.t4 1 3 5 8) ?_))
 refine Gc (fun c1 => ?_) (fun c1 => ?_)
 ·
  refine Gs (Ga rfl (Gn (.t1 6) (Ab (AO (AD ?_)))))
  refine AY rfl (.tmp rfl .n) ?_
  intro w1 hS; refine ⟨?_, hS.Am⟩; rw [show X.Dd b e = _ from (BB c1)]; rfl
 have c1p := kz c1
 have hr : 0 ≤ b ∧ b < 6 := by simp at c1; have h1 := AH.Jl c1; omega
 refine Gs (Gm rfl (Gt (Af QT rfl) (Gt (AF rfl A1 .m0 Ing.Event.l2 rfl rfl) (Gt (Ai rfl rfl) (Ga rfl (Gn (.t4 1 3 5 13) ?_))))))
 refine Gc (fun c2 => ?_) (fun c2 => ?_)
 ·
  refine CA (Gt (Af GP rfl) (Gt (AF rfl A1 .m0 Ing.Event.l3 rfl rfl) (Gt (A5 rfl rfl) (Gm rfl (BW 21 rfl rfl (fun q => Af GP rfl) (BW 21 rfl rfl (fun q => AF (cF rfl q) A1 .m0 Ing.Event.l3 rfl rfl) (BW 21 rfl rfl (fun q => CH (cF rfl q) rfl) ?_)))))))
  refine Gt (BR rfl rfl (fun h => by rw [h]; rfl)) ?_
  refine Gm rfl (BW 26 rfl rfl (fun q => AZ rfl BT .m1 (AS.id AH.fl.len AH.fl.one) rfl) (BW 26 rfl rfl (fun q => AE rfl) (BW 26 rfl rfl (fun q => Af GP rfl) (BW 26 rfl rfl (fun q => AF (cF rfl q) A1 .m0 Ing.Event.l3 rfl rfl) ?_))))
  refine Pn (t := 26) rfl rfl rfl (fun q => by have q1 := q; (try simp at q1); exact Dr Mm (.c (cF rfl q) (.c (cF rfl q) (.c (cF rfl q) .n))) (fun w hS => DB _ _ _ w)) ?_
  refine Gt (BR rfl rfl (fun h => by rw [h]; rfl)) ?_
  refine Gn (.t1 32) ?_
  refine Gc (fun c3 => ?_) (fun c3 => ?_)
  ·
   refine Gs (Ga rfl (Gn (.t1 6) (Ab (AD (AO (AD ?_))))))
   refine AY rfl (.tmp rfl .n) ?_
   intro w1 hS; refine ⟨?_, hS.Am⟩; rw [show X.Dd b e = _ from ((AU c1).trans ((BB c2).trans (BB c3)))]; rfl
  refine Aa ?_
  refine AB (.nil _) ?_
  refine AA (Gs (Ga rfl (AP (AA (Ab (AO (AD ?_)))))))
  refine AY rfl (.tmp rfl .n) ?_
  intro w1 hS; refine ⟨?_, hS.Am⟩; rw [show X.Dd b e = _ from ((AU c1).trans ((BB c2).trans (AU c3)))]; rfl
 have c2p := kz c2
 refine Ao ?_
 refine BF (N := 14) [0, 1, 3, 7, 15, 15, 63, 127, 255, 15, 527, 2047, 4095, 8191] mix (by kernel_rfl) rfl ?_
 refine Pf 0 rfl (Af Sj rfl) (Pf 1 rfl (AF rfl A1 .m0 Ing.Event.l0 rfl rfl) (Pf 2 rfl (Ai rfl rfl) (Pf 3 rfl (AE rfl) (HA 4 37 rfl rfl rfl (fun q => AE rfl) (HA 5 37 rfl rfl rfl (fun q => Af Bi rfl) ?_)))))
 refine BX 6 rfl rfl (by kernel_rfl) (GU (t := 37) rfl rfl (fun q => by have q1 := q; (try simp at q1); exact IE (AQ Cy (cF rfl q) (cF rfl q) (by omega) (by omega)))) ?_
 refine HA 7 37 rfl rfl rfl (fun q => Af Cx (cF rfl q)) ?_
 refine BX 8 rfl rfl (by kernel_rfl) (GU (t := 37) rfl rfl (fun q => by have q1 := q; (try simp at q1); exact IE (AF (cF rfl q) A1 .m1 ((AH.l2.comp (AS.ar (n := 6) Al.fl (by omega))).comp Al.l3) rfl rfl))) ?_
 refine HA 9 37 rfl rfl rfl (fun q => Af Vt rfl) (HA 10 37 rfl rfl rfl (fun q => AF (cF rfl q) A1 .m0 Ing.Event.l1 rfl rfl) (HA 11 37 rfl rfl rfl (fun q => CK (cF rfl q) (cF rfl q)) ?_))
 refine Pf 12 rfl (BR rfl rfl (fun h => by rw [h]; rfl)) ?_
 refine Pf 13 rfl (Az rfl) ?_
 refine A2 (by kernel_rfl) ?_
 refine AB (.t4 1 3 5 33) ?_
 refine AA ?_
 refine Gc (fun c4 => ?_) (fun c4 => ?_)
 ·
  refine Gs (Ga rfl (Gn (.t1 6) (Ab (AO (AD ?_)))))
  refine AY rfl (.tmp rfl .n) ?_
  intro w1 hS; refine ⟨?_, hS.Am⟩; rw [show X.Dd b e = _ from ((AU c1).trans ((AU c2).trans (BB c4)))]; rfl
 have c4p := kz c4
 refine Aa ?_
 refine AB (.t3 1 3 5) ?_
 refine AT (AA (Gs (Ga rfl (AP (AA (CA (Gt (AZ rfl BT .m1 (AS.id AH.fl.len AH.fl.one) rfl) ?_)))))))
 refine Gm rfl (Gt (Af QT rfl) (Gt (AF rfl A1 .m0 Ing.Event.l2 rfl rfl) ?_))
 refine A8 rfl Mm (.c rfl (.c rfl (.c rfl .n))) (fun w hS => DB _ _ _ w) ?_
 refine Gt (BO rfl) (Gn (.t5 1 3 5 7 52) ?_)
 refine Gc (fun c5 => ?_) (fun c5 => ?_)
 ·
  have c5p := kz c5
  refine CA (Gt (Af Sj rfl) (Gt (AF rfl A1 .m0 Ing.Event.l0 rfl rfl) ?_))
  refine A8 rfl ZQ (.c rfl .n) (fun w hS => MK _ w) ?_
  refine Gt (BO rfl) (Gn (.t5 1 3 5 7 56) ?_)
  refine Gc (fun c6 => ?_) (fun c6 => ?_)
  ·
   refine Gs (Ga rfl (Gn (.t1 6) (Ab (AD (AD ?_)))))
   refine AY rfl (.tmp rfl .n) ?_
   intro w1 hS; refine ⟨?_, hS.Am⟩; rw [show X.Dd b e = _ from ((AU c1).trans ((AU c2).trans ((AU c4).trans ((BB c5).trans (BB c6)))))]; rfl
  have c6p := kz c6
  refine Aa ?_
  refine AB (.t4 1 3 5 7) ?_
  refine AA (AI (Gm rfl ?_))
  refine Gt (Aw rfl rfl (IntWalk.i64_in _ (by omega))) ?_
  refine Ga rfl (Gn (.t4 1 3 5 7) (CA (Gt (Af GP rfl) (Gt (AF rfl A1 .m0 Ing.Event.l3 rfl rfl) (Gt (CH rfl rfl) (Gm rfl (BZ 62 rfl rfl (fun q => Af GP rfl) ?_)))))))
  refine BZ 62 rfl rfl (fun q => AF (BV rfl q) A1 .m0 Ing.Event.l3 rfl rfl) (BZ 62 rfl rfl (fun q => A5 (BV rfl q) rfl) (Gt (BH rfl rfl (fun h => h)) (Gm rfl (BZ 67 rfl rfl (fun q => AZ rfl BT .m1 (AS.id AH.fl.len AH.fl.one) rfl) (BZ 67 rfl rfl (fun q => AE rfl) (BZ 67 rfl rfl (fun q => Af GP rfl) (BZ 67 rfl rfl (fun q => AF (BV rfl q) A1 .m0 Ing.Event.l3 rfl rfl) ?_)))))))
  refine KK (t := 67) rfl rfl rfl (fun q => Dr Mm (.c (BV rfl q) (.c (BV rfl q) (.c (BV rfl q) .n))) (fun w hS => DB _ _ _ w)) ?_
  refine BZ 67 rfl rfl (fun q => BO (BV rfl q)) (Gt (BH rfl rfl (fun h => h)) (Gn (.t2 7 74) ?_))
  refine Gc (fun c7 => ?_) (fun c7 => ?_)
  ·
   have c7p := kz c7
   refine AI (Gm rfl ?_)
   refine Gt (Aw rfl rfl (IntWalk.i64_in _ (by omega))) ?_
   refine Ga rfl (Gn (.t1 7) (Gs (Gm rfl (Ga rfl (Gn (.t1 6) (Ab ?_))))))
   refine AY rfl (.tmp rfl .n) ?_
   intro w1 hS; refine ⟨?_, hS.Am⟩; rw [show X.Dd b e = _ from ((AU c1).trans ((AU c2).trans ((AU c4).trans ((BB c5).trans ((AU c6).trans (BB c7))))))]; rfl
  refine Aa ?_
  refine AB (.t1 7) ?_
  refine AA (Gs (Gm rfl (Ga rfl (Gn (.t1 6) (Ab ?_)))))
  refine AY rfl (.tmp rfl .n) ?_
  intro w1 hS; refine ⟨?_, hS.Am⟩; rw [show X.Dd b e = _ from ((AU c1).trans ((AU c2).trans ((AU c4).trans ((BB c5).trans ((AU c6).trans (AU c7))))))]; rfl
 have c5p := kz c5
 refine Aa ?_
 refine AB (.t4 1 3 5 7) ?_
 refine AA (CA (Gt (Af GP rfl) (Gt (AF rfl A1 .m0 Ing.Event.l3 rfl rfl) (Gt (CH rfl rfl) (Gm rfl (BZ 62 rfl rfl (fun q => Af GP rfl) (BZ 62 rfl rfl (fun q => AF (BV rfl q) A1 .m0 Ing.Event.l3 rfl rfl) ?_)))))))
 refine BZ 62 rfl rfl (fun q => A5 (BV rfl q) rfl) (Gt (BH rfl rfl (fun h => h)) (Gm rfl (BZ 67 rfl rfl (fun q => AZ rfl BT .m1 (AS.id AH.fl.len AH.fl.one) rfl) (BZ 67 rfl rfl (fun q => AE rfl) (BZ 67 rfl rfl (fun q => Af GP rfl) (BZ 67 rfl rfl (fun q => AF (BV rfl q) A1 .m0 Ing.Event.l3 rfl rfl) ?_))))))
 refine KK (t := 67) rfl rfl rfl (fun q => Dr Mm (.c (BV rfl q) (.c (BV rfl q) (.c (BV rfl q) .n))) (fun w hS => DB _ _ _ w)) ?_
 refine BZ 67 rfl rfl (fun q => BO (BV rfl q)) (Gt (BH rfl rfl (fun h => h)) (Gn (.t2 7 74) ?_))
 refine Gc (fun c8 => ?_) (fun c8 => ?_)
 ·
  have c8p := kz c8
  refine AI (Gm rfl ?_)
  refine Gt (Aw rfl rfl (IntWalk.i64_in _ (by omega))) ?_
  refine Ga rfl (Gn (.t1 7) (Gs (Gm rfl (Ga rfl (Gn (.t1 6) (Ab ?_))))))
  refine AY rfl (.tmp rfl .n) ?_
  intro w1 hS; refine ⟨?_, hS.Am⟩; rw [show X.Dd b e = _ from ((AU c1).trans ((AU c2).trans ((AU c4).trans ((AU c5).trans (BB c8)))))]; rfl
 refine Aa ?_
 refine AB (.t1 7) ?_
 refine AA (Gs (Gm rfl (Ga rfl (Gn (.t1 6) (Ab ?_)))))
 refine AY rfl (.tmp rfl .n) ?_
 intro w1 hS; refine ⟨?_, hS.Am⟩; rw [show X.Dd b e = _ from ((AU c1).trans ((AU c2).trans ((AU c4).trans ((AU c5).trans (AU c8)))))]; rfl
theorem Iw (X : AH) (e : Ing.Event) (w : World) : EF Tryz.prog 123 #[.agg X.enc.toArray, .agg e.enc.toArray] w fun v w' => v = .agg (X.HD e 6).enc.toArray ∧ B3 w w' := by
 refine Aj [] [] Tryz.func123 rfl rfl rfl (St.start w []) ?_
 refine Gs ?_
 refine Bu rfl rfl rfl (fun b1 => ?_)
 refine Bu rfl rfl rfl (fun b2 => ?_)
 refine BG rfl H2 rfl (fun b3 => ?_)
 refine Gn (.t3 2 3 4) (CA (Gm rfl (AP (AA (Ae ?_)))))
 refine Bj (.t4 6 2 3 4) ?_
 refine BU (.t .h) ?_
 refine CR (fun (k : Int) => 0 ≤ k ∧ k ≤ 6) (fun (k : Int) => (6 - k).toNat) (fun (k : Int) => [(6, .int .i64 k)]) (fun (k : Int) => [Ac.box b2 56 (Ing.Event.enc (X.HD e k.toNat))]) (0) ?_ rfl rfl (fun k hI1 => ?_)
 · exact ⟨Int.le_refl _, by omega⟩
 obtain ⟨hI11, hI12⟩ := hI1
 refine Gs (Gt (A5 rfl rfl) (AP (AA (Ao ?_))))
 refine Gc (fun c1 => ?_) (fun c1 => ?_)
 ·
  have c1p := kz c1
  refine Aa ?_
  refine AB (.t4 2 3 4 6) ?_
  refine AA (Ao (Ae (Gs (Gm rfl (Ga rfl (Gn (.t5 2 3 4 5 6) (AI ?_)))))))
  refine Gm rfl (Gt (AZ rfl BT .m2 (AS.id AH.fl.len AH.fl.one) rfl) (Gm rfl (Gt (AZ rfl Nf .m0 (AS.id Ing.Event.fl.len Ing.Event.fl.one) rfl) ?_)))
  refine A8 rfl Z8 (.c rfl (.c rfl (.c rfl .n))) (fun w hS => JF _ _ _ w) ?_
  refine Gt (Af Ma rfl) ?_
  refine Gt (AQ QX rfl rfl (by omega) (by omega)) ?_
  refine AR (AK (Ing.Event.l10.comp (AS.ar (n := 6) By (by omega))) rfl rfl rfl C3 rfl .h) ?_
  refine AP (AB (.t4 2 3 4 6) ?_)
  refine AT (AA (AI ?_))
  refine Gt (Aw rfl rfl (IntWalk.i64_in _ (by omega))) ?_
  refine Gm rfl ?_
  refine AP (AB (.t4 2 3 4 6) ?_)
  refine B0 (k + 1) ?_ ?_ (.t4 6 2 3 4) (by rw [AH.US (by omega)]; exact (.refl _))
  · exact ⟨by omega, by omega⟩
  · omega
 have c1p := kz c1
 obtain rfl : k = 6 := by omega
 refine Ba (AV (AV (Ah ?_)))
 refine AB (.t2 3 4) ?_
 refine AA (Gs (Gt (AZ rfl Nf .m0 (AS.id Ing.Event.fl.len Ing.Event.fl.one) rfl) ?_))
 refine AR (AK (AS.id Ing.Event.fl.len Ing.Event.fl.one) rfl rfl rfl NY rfl (.t .h)) ?_
 refine Gn (.t1 4) (Ab ?_)
 refine AY rfl (.cell rfl .m1 (.inl ⟨(by rw [Ing.Event.fl.len]; exact Nf), rfl⟩) .n) ?_
 intro w1 hS; refine ⟨?_, hS.Am⟩; rfl
theorem CI (b : Nat) (T : AG) (g : Hd) (e : Ing.Event) (hg : g.len = T.out.length) (hb : 0 ≤ T.b ∧ T.b < 6) (ho : e.other < 6) (hn : T.out.length ≤ 100000) : IP Tryz.prog 96 #[.pointer (some ⟨b, 0, none⟩), .agg e.enc.toArray] [Ac.box b 163 (Ad.enc ⟨T.w, T.b, g⟩), Ac.own g 56 16 (T.out.flatMap Ing.Event.enc)] (fun v B => ∃ g' : Hd, v = .tuple #[] ∧ g'.len = (T.Bk e).out.length ∧ B = [Ac.box b 163 (Ad.enc ⟨(T.Bk e).w, (T.Bk e).b, g'⟩), Ac.own g' 56 16 ((T.Bk e).out.flatMap Ing.Event.enc)]) := by
 intro w hS0
 refine Aj _ _ Tryz.func96 rfl rfl rfl (hS0) ?_
 refine Gs ?_
 refine Bu rfl rfl rfl (fun b1 => ?_)
 refine Gn (.t2 0 3) (Ao ?_)
 refine BF (N := 12) [0, 0, 2, 6, 14, 1, 33, 97, 255, 511, 0, 2047] mix (by kernel_rfl) rfl ?_
 refine Pf 0 rfl (AE rfl) (Pf 1 rfl (AE rfl) (Pf 2 rfl (BS rfl) (Pf 3 rfl (Af CL rfl) (Pf 4 rfl (AF rfl A1 .m1 Ad.l1 rfl rfl) (Pf 5 rfl (BS rfl) (Pf 6 rfl (Af A6 rfl) (Pf 7 rfl (Af Bi rfl) ?_)))))))
 refine Pf 8 rfl (AQ Cy rfl rfl (by (try dsimp only at *); omega) (by (try dsimp only at *); omega)) ?_
 refine Pf 9 rfl (AZ rfl FB .m1 ((Ad.l0.comp AH.l2).comp (AS.arr (n := 6) Al.fl (by (try dsimp only at *); omega) (by (try dsimp only at *); omega))) rfl) ?_
 refine An 10 rfl (by kernel_rfl) ?_
 refine BG rfl LM rfl (fun b2 => ?_)
 refine Bn rfl ⟨?_, ?_⟩
 · exact (Po rfl (AZ rfl FB .m2 ((Ad.l0.comp AH.l2).comp (AS.arr (n := 6) Al.fl (by (try dsimp only at *); omega) (by (try dsimp only at *); omega))) rfl) rfl rfl (Po rfl (AQ Cy rfl rfl (by (try dsimp only at *); omega) (by (try dsimp only at *); omega)) rfl rfl (Po rfl (Af Bi rfl) rfl rfl (Po rfl (Af A6 rfl) rfl rfl (Po rfl (BS rfl) rfl rfl (Po rfl (AF rfl A1 .m2 Ad.l1 rfl rfl) rfl rfl (Po rfl (Af CL rfl) rfl rfl (Po rfl (BS rfl) rfl rfl (Po rfl (AE rfl) rfl rfl (Po rfl (AE rfl) rfl rfl Au))))))))))
 refine An 11 rfl (by kernel_rfl) ?_
 refine AR (AK (AS.id Al.fl.len Al.fl.one) rfl rfl rfl Jm rfl .h) ?_
 refine BK rfl ⟨?_, ?_⟩
 · exact (Pk (Pk (Pk (Pk (Pk (Pk (Pk (Pk (Pk (Pk Au))))))))))
 refine A2 (by kernel_rfl) ?_
 refine AB (.t3 0 3 4) ?_
 refine AA (Ao ?_)
 refine BF (N := 14) [0, 1, 3, 7, 0, 16, 0, 64, 15, 271, 831, 1855, 4095, 8191] mix (by kernel_rfl) rfl ?_
 refine Pf 0 rfl (AE rfl) (Pf 1 rfl (BS rfl) (Pf 2 rfl (Af CL rfl) (Pf 3 rfl (AF rfl A1 .m2 Ad.l1 rfl rfl) (Pf 4 rfl (Af Kc rfl) (Pf 5 rfl (AF rfl CB .m0 Al.l0 rfl rfl) (Pf 6 rfl (Af Cx rfl) (Pf 7 rfl (AF rfl A1 .m0 Al.l3 rfl rfl) ?_)))))))
 refine Pf 8 rfl (Af QT rfl) ?_
 refine An 9 rfl (by kernel_rfl) ?_
 refine AR (AK Ing.Event.l2 rfl rfl rfl C3 rfl (.t .h)) ?_
 refine BK rfl ⟨?_, ?_⟩
 · exact (Pk (Po rfl (AF rfl A1 .m0 Al.l3 rfl rfl) rfl rfl (Po rfl (Af Cx rfl) rfl rfl (Po rfl (AF rfl CB .m0 Al.l0 rfl rfl) rfl rfl (Po rfl (Af Kc rfl) rfl rfl (Pk (Pk (Pk (Pk Au)))))))))
 refine Pf 10 rfl (Af Vu rfl) ?_
 refine An 11 rfl (by kernel_rfl) ?_
 refine AR (AK Ing.Event.l6 rfl rfl rfl EW rfl (.t .h)) ?_
 refine BK rfl ⟨?_, ?_⟩
 · exact (Pk (Pk (Po rfl (AF rfl A1 .m0 Al.l3 rfl rfl) rfl rfl (Po rfl (Af Cx rfl) rfl rfl (Pk (Pk (Pk (Pk (Pk (Pk Au))))))))))
 refine Pf 12 rfl (Af Vt rfl) ?_
 refine An 13 rfl (by kernel_rfl) ?_
 refine AR (AK Ing.Event.l1 rfl rfl rfl C3 rfl (.t .h)) ?_
 refine BK rfl ⟨?_, ?_⟩
 · exact (Pk (Pk (Pk (Pk (Pk (Pk (Pk (Pk (Pk (Pk (Pk Au)))))))))))
 refine A2 (by kernel_rfl) ?_
 refine AB (.t2 0 3) ?_
 refine AA (CA (Gt (Af GP rfl) (Gt (AF rfl A1 .m1 Ing.Event.l3 rfl rfl) (Gt (CH rfl rfl) (Gn (.t3 0 3 28) ?_)))))
 refine Gc (fun c1 => ?_) (fun c1 => ?_)
 ·
  have c1p := kz c1
  refine BF (N := 11) [0, 0, 2, 1, 9, 25, 63, 127, 255, 511, 1023] mix (by kernel_rfl) rfl ?_
  refine Pf 0 rfl (AE rfl) (Pf 1 rfl (Af GP rfl) (Pf 2 rfl (AF rfl A1 .m1 Ing.Event.l3 rfl rfl) (Pf 3 rfl (BS rfl) (Pf 4 rfl (Af A6 rfl) (Pf 5 rfl (Af Bi rfl) ?_)))))
  refine Pf 6 rfl (AQ Cy rfl rfl (by (try dsimp only at *); omega) (by (try dsimp only at *); omega)) ?_
  refine Pf 7 rfl (Af Kc rfl) ?_
  refine Pf 8 rfl (AF rfl CB .m2 (((Ad.l0.comp AH.l2).comp (AS.arr (n := 6) Al.fl (by (try dsimp only at *); omega) (by (try dsimp only at *); omega))).comp Al.l0) rfl rfl) ?_
  refine Pf 9 rfl (Af Ws rfl) ?_
  refine An 10 rfl (by kernel_rfl) ?_
  refine AR (AK Ing.Event.l7 rfl rfl rfl EW rfl (.t .h)) ?_
  refine BK rfl ⟨?_, ?_⟩
  · exact (Pk (Pk (Pk (Pk (Pk (Pk (Pk (Pk (Pk (Pk Au))))))))))
  refine A2 (by kernel_rfl) ?_
  refine AB (.t2 0 3) ?_
  refine AA ?_
  refine BF (N := 16) [0, 0, 2, 6, 14, 0, 32, 96, 224, 0, 992, 2016, 4094, 8191, 16383, 32767] mix (by kernel_rfl) rfl ?_
  refine Pf 0 rfl (AE rfl) (Pf 1 rfl (AE rfl) (Pf 2 rfl (BS rfl) (Pf 3 rfl (Af CG rfl) (Pf 4 rfl (AF rfl DZ .m2 Ad.l2 rfl rfl) (Pf 5 rfl (AE rfl) (Pf 6 rfl (BS rfl) (Pf 7 rfl (Af A6 rfl) ?_)))))))
  refine Pf 8 rfl (AZ rfl BT .m2 Ad.l0 rfl) (Pf 9 rfl (AZ rfl Nf .m1 (AS.id Ing.Event.fl.len Ing.Event.fl.one) rfl) ?_)
  refine BX 10 rfl rfl (by kernel_rfl) (Kx (KX (Dr Xy (.c rfl (.c rfl .n)) (fun w hS => Iw _ _ w)))) ?_
  refine An 11 rfl (by kernel_rfl) ?_
  refine FP Ing.Event.enc Ing.Event.fl rfl Tryz.underlying53 NY H2 rfl (by decide) (by decide) rfl rfl (fun b3 => ?_)
  refine Bn rfl ⟨?_, ?_⟩
  · exact (Pk (Pk (Pk (Pk (Pk (Pk (Po rfl (AF rfl DZ .m3 Ad.l2 rfl rfl) rfl rfl (Po rfl (Af CG rfl) rfl rfl (Po rfl (BS rfl) rfl rfl (Po rfl (AE rfl) rfl rfl (Po rfl (AE rfl) rfl rfl Au)))))))))))
  refine An 12 rfl (by kernel_rfl) ?_
  refine CT Ing.Event.fl rfl Tryz.underlying53 NY H2 rfl WD (by decide) (by decide) rfl rfl (fun w hS => Src.Dj Tryz.underlying53 ((Kn.own .m0) w hS)) (by (try dsimp only); omega) (fun _ => (.t (.t (.t (.t .h))))) (fun h1 h1l h1z => ?_)
  refine Bn rfl ⟨?_, ?_⟩
  · exact (Pk (Pk (Pk (Pk (Pk (Pk (Pk (Pk (Pk (Pk (Po rfl (AE rfl) rfl rfl Au)))))))))))
  refine Pf 13 rfl (BS rfl) (Pf 14 rfl (Af CG rfl) ?_)
  refine An 15 rfl (by kernel_rfl) ?_
  refine AR (AK Ad.l2 rfl rfl rfl Qp rfl (.t (.t (.t .h)))) ?_
  refine BK rfl ⟨?_, ?_⟩
  · exact (Pk (Pk (Pk (Pk (Pk (Pk (Pk (Pk (Pk (Pk (Pk (Pk (Pk Au)))))))))))))
  refine A2 (by kernel_rfl) ?_
  refine Bf rfl .n ?_
  intro w1 hS
  have hS := (hS.perm (Av.perm (.c (.t (.t (.t .h))) (.c (.t (.t (.t .h))) .n)))).Ay
  refine ⟨_, ⟨?gqTrue, rfl, ?hlTrue, ?hBTrue⟩, hS⟩
  case hBTrue => rw [AG.Bk, show T.D3 e = _ from BB c1]; rfl
  case hlTrue => simp only [AG.CU]; (try dsimp only at *); omega
 have c1p := kz c1
 refine Aa ?_
 refine AB (.t2 0 3) ?_
 refine AA ?_
 refine BF (N := 16) [0, 0, 2, 6, 14, 0, 32, 96, 224, 0, 992, 2016, 4094, 8191, 16383, 32767] mix (by kernel_rfl) rfl ?_
 refine Pf 0 rfl (AE rfl) (Pf 1 rfl (AE rfl) (Pf 2 rfl (BS rfl) (Pf 3 rfl (Af CG rfl) (Pf 4 rfl (AF rfl DZ .m2 Ad.l2 rfl rfl) (Pf 5 rfl (AE rfl) (Pf 6 rfl (BS rfl) (Pf 7 rfl (Af A6 rfl) ?_)))))))
 refine Pf 8 rfl (AZ rfl BT .m2 Ad.l0 rfl) (Pf 9 rfl (AZ rfl Nf .m1 (AS.id Ing.Event.fl.len Ing.Event.fl.one) rfl) ?_)
 refine BX 10 rfl rfl (by kernel_rfl) (Kx (KX (Dr Xy (.c rfl (.c rfl .n)) (fun w hS => Iw _ _ w)))) ?_
 refine An 11 rfl (by kernel_rfl) ?_
 refine FP Ing.Event.enc Ing.Event.fl rfl Tryz.underlying53 NY H2 rfl (by decide) (by decide) rfl rfl (fun b4 => ?_)
 refine Bn rfl ⟨?_, ?_⟩
 · exact (Pk (Pk (Pk (Pk (Pk (Pk (Po rfl (AF rfl DZ .m3 Ad.l2 rfl rfl) rfl rfl (Po rfl (Af CG rfl) rfl rfl (Po rfl (BS rfl) rfl rfl (Po rfl (AE rfl) rfl rfl (Po rfl (AE rfl) rfl rfl Au)))))))))))
 refine An 12 rfl (by kernel_rfl) ?_
 refine CT Ing.Event.fl rfl Tryz.underlying53 NY H2 rfl WD (by decide) (by decide) rfl rfl (fun w hS => Src.Dj Tryz.underlying53 ((Kn.own .m0) w hS)) (by (try dsimp only); omega) (fun _ => (.t (.t (.t (.t .h))))) (fun h2 h2l h2z => ?_)
 refine Bn rfl ⟨?_, ?_⟩
 · exact (Pk (Pk (Pk (Pk (Pk (Pk (Pk (Pk (Pk (Pk (Po rfl (AE rfl) rfl rfl Au)))))))))))
 refine Pf 13 rfl (BS rfl) (Pf 14 rfl (Af CG rfl) ?_)
 refine An 15 rfl (by kernel_rfl) ?_
 refine AR (AK Ad.l2 rfl rfl rfl Qp rfl (.t (.t (.t .h)))) ?_
 refine BK rfl ⟨?_, ?_⟩
 · exact (Pk (Pk (Pk (Pk (Pk (Pk (Pk (Pk (Pk (Pk (Pk (Pk (Pk Au)))))))))))))
 refine A2 (by kernel_rfl) ?_
 refine Bf rfl .n ?_
 intro w1 hS
 have hS := (hS.perm (Av.perm (.c (.t (.t (.t .h))) (.c (.t (.t (.t .h))) .n)))).Ay
 refine ⟨_, ⟨?gqFalse, rfl, ?hlFalse, ?hBFalse⟩, hS⟩
 case hBFalse => rw [AG.Bk, show T.D3 e = _ from AU c1]; rfl
 case hlFalse => simp only [AG.CU]; (try dsimp only at *); omega
theorem Ft (b : Nat) (T : AG) (g : Hd) (k : Int) (hg : g.len = T.out.length) (hb : 0 ≤ T.b ∧ T.b < 6) (hn : T.out.length ≤ 100000) : IP Tryz.prog 124 #[.pointer (some ⟨b, 0, none⟩), .int .i64 k] [Ac.box b 163 (Ad.enc ⟨T.w, T.b, g⟩), Ac.own g 56 16 (T.out.flatMap Ing.Event.enc)] (fun v B => ∃ g' : Hd, v = .tuple #[] ∧ g'.len = (T.kind k).out.length ∧ B = [Ac.box b 163 (Ad.enc ⟨(T.kind k).w, (T.kind k).b, g'⟩), Ac.own g' 56 16 ((T.kind k).out.flatMap Ing.Event.enc)]) := by
 intro w hS0
 refine Aj _ _ Tryz.func124 rfl rfl rfl (hS0) ?_
 refine AI (Gm rfl (Gm rfl (Gt (A9 Ng H2 rfl (.cons Ing.Event.l0 rfl rfl rfl (.cons Ing.Event.l3 rfl rfl rfl .nil))) ?_)))
 refine Ag rfl OF (.c rfl (.c rfl .n)) (.c .h (.c .h .n)) (CI _ _ _ (AG.GI k) hg hb (show (-1 : Int) < 6 by decide) hn) (fun v1 B hv => ?_)
 obtain ⟨y2, rfl, y3, rfl⟩ := hv
 refine AP ?_
 refine Bf rfl .n ?_
 intro w1 hS
 have hS := (hS.perm (Av.perm (.c .h (.c .h .n)))).Ay
 exact ⟨_, ⟨_, rfl, by assumption, rfl⟩, hS⟩
theorem Bb (b : Nat) (T : AG) (g : Hd) (u : As) (hg : g.len = T.out.length) (hb : 0 ≤ T.b ∧ T.b < 6) (hn : T.out.length ≤ 100000) : IP Tryz.prog 127 #[.pointer (some ⟨b, 0, none⟩), BP u] [Ac.box b 163 (Ad.enc ⟨T.w, T.b, g⟩), Ac.own g 56 16 (T.out.flatMap Ing.Event.enc)] (fun v B => ∃ g' : Hd, v = .tuple #[] ∧ g'.len = (T.tell u).out.length ∧ B = [Ac.box b 163 (Ad.enc ⟨(T.tell u).w, (T.tell u).b, g'⟩), Ac.own g' 56 16 ((T.tell u).out.flatMap Ing.Event.enc)]) := by
 intro w hS0
 refine Aj _ _ Tryz.func127 rfl rfl rfl (hS0) ?_
 refine AI (Gm rfl (Gm rfl (Gt (A9 Ng H2 rfl (.cons Ing.Event.l0 rfl rfl rfl (.cons Ing.Event.l3 rfl rfl rfl (.cons Ing.Event.l9 rfl rfl rfl .nil)))) ?_)))
 refine Ag rfl OF (.c rfl (.c rfl .n)) (.c .h (.c .h .n)) (CI _ _ _ { AG.GI 16 with text := u } hg hb (show (-1 : Int) < 6 by decide) hn) (fun v1 B hv => ?_)
 obtain ⟨y2, rfl, y3, rfl⟩ := hv
 refine AP ?_
 refine Bf rfl .n ?_
 intro w1 hS
 have hS := (hS.perm (Av.perm (.c .h (.c .h .n)))).Ay
 exact ⟨_, ⟨_, rfl, by assumption, rfl⟩, hS⟩
theorem HK (d : Int) (w : World) (gl0 : GV 0 AH.C4 w) : EF Tryz.prog 52 #[.int .i64 d] w fun v w' => v = BP (AH.called d) ∧ B3 w w' := by
 refine Aj [] [] Tryz.func52 rfl rfl rfl (St.start w []) ?_
 refine Gs (Ga rfl (Gn (.t1 0) (CA (Gm rfl (Gt (A5 rfl rfl) (Gm rfl (BW 5 rfl rfl (fun q => AE rfl) ?_)))))))
 refine BW 5 rfl rfl (fun q => CH (cF rfl q) rfl) ?_
 refine Gt (BR rfl rfl (fun h => by rw [h]; rfl)) ?_
 refine Gn (.t2 0 8) ?_
 refine Gc (fun c1 => ?_) (fun c1 => ?_)
 ·
  refine Gs (Ga rfl (Gn (.t1 2) (Ab (AD ?_))))
  refine AY rfl (.tmp rfl .n) ?_
  intro w1 hS; refine ⟨?_, hS.Am⟩; rw [show AH.called d = _ from BB c1]; rfl
 have c1p := kz c1
 have hr : 0 ≤ d ∧ d < 6 := by simp at c1; omega
 refine Aa ?_
 refine AB (.t1 0) ?_
 refine AA (Gs (Gm rfl ?_))
 refine Gt (AQ VC rfl rfl (by omega) (by omega)) ?_
 refine Gt (P6 gl0 rfl CB (AH.OC hr.1 hr.2)) (Ga rfl (Gn (.t1 2) (Ab ?_)))
 refine AY rfl (.tmp rfl .n) ?_
 intro w1 hS; refine ⟨?_, hS.Am⟩; rw [show AH.called d = _ from AU c1]; rfl
theorem Ex (X : AH) (Cq at_ : Int) : IP Tryz.prog 102 #[.agg X.enc.toArray, .int .i64 Cq, .int .i64 at_] [] (fun v B => ∃ h' : Hd, v = h'.val ∧ h'.len = (X.has Cq at_).length ∧ B = [Ac.own h' 3 1 ((X.has Cq at_).flatMap Ax)]) := by
 intro w hS0
 refine Aj _ _ Tryz.func102 rfl rfl rfl (hS0) ?_
 refine Gs ?_
 refine Bu rfl rfl rfl (fun b1 => ?_)
 refine Ga rfl (Gn (.t3 1 2 3) (Gs (Ga rfl (AP (AA (CA (Gt (Af Cp rfl) ?_)))))))
 refine Gt (AZ rfl TM .m0 AH.l1 rfl) (Gm rfl (Gn (.t5 1 2 7 11 12) (Ae ?_)))
 refine Bj (.t5 7 12 1 2 11) ?_
 refine Ep Ax 3 1 ?_
 refine De (fun (k : Int) (xs : List Int) (g : Hd) => 0 ≤ k ∧ k ≤ 9 ∧ xs = X.OM Cq at_ k.toNat ∧ g.len = xs.length) (fun (k : Int) (xs : List Int) (g : Hd) => (9 - k).toNat) (fun (k : Int) (xs : List Int) (g : Hd) => [(7, g.val), (12, .int .i64 k)]) (fun (k : Int) (xs : List Int) (g : Hd) => [Ac.own g 3 1 (xs.flatMap Ax)]) (0) ([]) (_) ?_ rfl rfl (fun k xs g hI1 => ?_)
 · exact ⟨by omega, by omega, rfl, rfl⟩
 obtain ⟨hI11, hI12, hI13, hI14⟩ := hI1
 refine Gs (Gt (A5 rfl rfl) (AP (AA (Ao ?_))))
 refine Gc (fun c1 => ?_) (fun c1 => ?_)
 ·
  have c1p := kz c1
  have hxl := AH.Qs X Cq at_ k.toNat
  rw [← hI13] at hxl
  refine Aa ?_
  refine AB (.t5 1 2 7 11 12) ?_
  refine AA (Ao (Ae (Gs (Gm rfl ?_))))
  refine Gt (Fj Ak.fl Tryz.underlying30 Kt rfl rfl (by omega) (by omega)) ?_
  refine BG rfl Jt rfl (fun b2 => ?_)
  refine Ga rfl ?_
  refine AR (AK (AS.id Ak.fl.len Ak.fl.one) rfl rfl rfl MJ rfl .h) ?_
  refine Gn (.t7 1 2 7 8 9 11 12) (Gs (Gt (Af E5 rfl) (Gt (AF rfl A1 .m0 Ak.l2 rfl rfl) (Gm rfl (Gt (Ai rfl rfl) (Gm rfl (BZ 20 rfl rfl (fun q => Af C5 rfl) ?_)))))))
  refine BZ 20 rfl rfl (fun q => AF (BV rfl q) A1 .m0 Ak.l3 rfl rfl) (BZ 20 rfl rfl (fun q => AE rfl) (BZ 20 rfl rfl (fun q => Ai (BV rfl q) (BV rfl q)) (Gt (BH rfl rfl (fun h => h)) (Gn (.t7 1 2 7 8 11 12 25) ?_))))
  refine Gc (fun c2 => ?_) (fun c2 => ?_)
  ·
   have c2p := kz c2
   refine AI (Gm rfl (Gm rfl ?_))
   refine FP Ax By rfl Tryz.underlying169 C3 ZG rfl (by decide) (by decide) rfl rfl (fun b3 => ?_)
   refine CT By rfl Tryz.underlying169 C3 ZG rfl aj (by decide) (by decide) rfl rfl (fun w hS => Src.Dj Tryz.underlying169 ((Kn.own .m0) w hS)) (by (try dsimp only); omega) (fun _ => (.t (.t .h))) (fun h1 h1l h1z => ?_)
   refine Ga rfl ?_
   refine AP (AB (.t5 1 2 7 11 12) ?_)
   refine AT (AA (AI ?_))
   refine Gt (Aw rfl rfl (IntWalk.i64_in _ (by omega))) ?_
   refine Gm rfl ?_
   refine AP (AB (.t5 1 2 7 11 12) ?_)
   refine Bw (k + 1) _ _ ?_ ?_ (.t5 7 12 1 2 11) (.cons _ (.cons _ (.refl _)))
   · exact ⟨by omega, by omega, by rw [AH.YJ hI11 c2, ← hI13], (by (try dsimp only at *) <;> (try simp only [List.length_append, List.length_cons, List.length_nil]) <;> omega)⟩
   · omega
  have c2p := kz c2
  refine Aa ?_
  refine AB (.t5 1 2 7 11 12) ?_
  refine AT (AA (AI ?_))
  refine Gt (Aw rfl rfl (IntWalk.i64_in _ (by omega))) ?_
  refine Gm rfl ?_
  refine AP (AB (.t5 1 2 7 11 12) ?_)
  refine Bw (k + 1) _ _ ?_ ?_ (.t5 7 12 1 2 11) (.cons _ (.refl _))
  · exact ⟨by omega, by omega, by rw [AH.YX hI11 c2, ← hI13], (by (try dsimp only at *) <;> (try simp only [List.length_append, List.length_cons, List.length_nil]) <;> omega)⟩
  · omega
 have c1p := kz c1
 obtain rfl : k = 9 := by omega
 refine Ba (AV (AV (Ah ?_)))
 refine AB (.t1 7) ?_
 refine AA (Gs (Gm rfl (Ga rfl (Gn (.t1 6) (Ab ?_)))))
 refine AY rfl (.tmp rfl .n) ?_
 intro w1 hS
 have hS := (hS.perm (Av.perm (.c .h .n))).Ay
 exact ⟨_, ⟨_, rfl, by rw [AH.Sh, ← hI13]; assumption, by rw [AH.Sh, ← hI13]⟩, hS⟩
theorem Kv (b : Nat) (T : AG) (g : Hd) (u : As) (f : Hd) (l : List Int) (hg : g.len = T.out.length) (hb : 0 ≤ T.b ∧ T.b < 6) (hf : f.len = l.length) (hl : l.length ≤ 9) (hi : ∀ i ∈ l, 0 ≤ i ∧ i < 9) (hw : T.w.Dz) (hu : u.length ≤ 1000) (hn : T.out.length ≤ 100000) : IP Tryz.prog 101 #[.pointer (some ⟨b, 0, none⟩), BP u, f.val] [Ac.box b 163 (Ad.enc ⟨T.w, T.b, g⟩), Ac.own g 56 16 (T.out.flatMap Ing.Event.enc), Ac.own f 3 1 (l.flatMap Ax)] (fun v B => ∃ g' : Hd, v = .tuple #[] ∧ g'.len = (T.list u l).out.length ∧ B = [Ac.box b 163 (Ad.enc ⟨(T.list u l).w, (T.list u l).b, g'⟩), Ac.own g' 56 16 ((T.list u l).out.flatMap Ing.Event.enc), Ac.own f 3 1 (l.flatMap Ax)]) := by
 intro w hS0
 refine Aj _ _ Tryz.func101 rfl rfl rfl (hS0) ?_
 refine CA (Gm rfl (Gt (Aq rfl Tryz.underlying169 rfl) (Gm rfl (AP (AA (Ae ?_))))))
 refine Bj (.t6 1 10 0 2 8 9) ?_
 refine G5 (fun (k : Int) (x : As) => 0 ≤ k ∧ k ≤ (l.length : Int) ∧ AG.HR T.w u l = AG.HR T.w x (l.drop k.toNat) ∧ x.length ≤ 1000 + k.toNat * 140737488351300) (fun (k : Int) (x : As) => ((l.length : Int) - k).toNat) (fun (k : Int) (x : As) => [(1, BP x), (10, .int .i64 k)]) (fun (k : Int) (x : As) => []) (0) (u) ?_ rfl rfl (fun k x hI1 => ?_)
 · exact ⟨by omega, by omega, by simp, by simp; omega⟩
 obtain ⟨hI11, hI12, hI13, hI14⟩ := hI1
 refine Gs (Gt (A5 rfl rfl) (AP (AA (Ao ?_))))
 refine Gc (fun c1 => ?_) (fun c1 => ?_)
 ·
  have c1p := kz c1
  have hx := hi _ (Bc.Ei (xs := l) (i := k.toNat) (by omega))
  have hnl := hw.th (l.getD k.toNat 0)
  refine Aa ?_
  refine AB (.t6 0 1 2 8 9 10) ?_
  refine AA (Ao (Ae (Gs ?_)))
  refine Gt (Bm F5 (by decide) (Kn.own .m2) rfl rfl (by omega) (by omega)) ?_
  refine Gt (C6 rfl A1 (Kn.own .m2) (by omega)) ?_
  refine Ga rfl (Gn (.t7 0 1 2 7 8 9 10) (Gs (Gm rfl (Gm rfl (Gm rfl (Gt (BS rfl) (Gt (Af A6 rfl) ?_)))))))
  refine Gt (Af Cp rfl) ?_
  refine Gt (AQ Fo rfl rfl (by (try dsimp only at *); (try simp only [List.length_append, List.length_cons, List.length_nil]); omega) (by (try dsimp only at *); (try simp only [List.length_append, List.length_cons, List.length_nil]); omega)) ?_
  refine Gt (Af Lx rfl) ?_
  refine Gt (AF rfl CB .m0 (((Ad.l0.comp AH.l1).comp (AS.arr (n := 9) Ak.fl (by (try dsimp only at *); (try simp only [List.length_append, List.length_cons, List.length_nil]); omega) (by (try dsimp only at *); (try simp only [List.length_append, List.length_cons, List.length_nil]); omega))).comp Ak.l0) rfl rfl) ?_
  refine Gt (CO rfl rfl (by (try dsimp only at *); (try simp only [List.length_append, List.length_cons, List.length_nil]); omega)) ?_
  refine Gt (CO rfl rfl (by (try dsimp only at *); (try simp only [List.length_append, List.length_cons, List.length_nil]); omega)) ?_
  refine Ga rfl (Gn (.t7 0 1 2 7 8 9 10) (Gs (Gm rfl (Gm rfl (Gt (BS rfl) (Gt (Af A6 rfl) (Gt (Af Cp rfl) ?_)))))))
  refine Gt (AQ Fo rfl rfl (by (try dsimp only at *); (try simp only [List.length_append, List.length_cons, List.length_nil]); omega) (by (try dsimp only at *); (try simp only [List.length_append, List.length_cons, List.length_nil]); omega)) ?_
  refine Gt (Af Fb rfl) ?_
  refine Gt (AF rfl Ct .m0 (((Ad.l0.comp AH.l1).comp (AS.arr (n := 9) Ak.fl (by (try dsimp only at *); (try simp only [List.length_append, List.length_cons, List.length_nil]); omega) (by (try dsimp only at *); (try simp only [List.length_append, List.length_cons, List.length_nil]); omega))).comp Ak.l4) rfl rfl) ?_
  refine Gn (.t7 0 1 2 8 9 10 32) ?_
  refine Gc (fun c2 => ?_) (fun c2 => ?_)
  ·
   have c2p := kz c2
   refine AI (Gm rfl ?_)
   refine Gt (CO rfl rfl (by (try dsimp only at *); (try simp only [List.length_append, List.length_cons, List.length_nil]); omega)) ?_
   refine Ga rfl ?_
   refine AP (AB (.t6 0 1 2 8 9 10) ?_)
   refine AT (AA (AI ?_))
   refine Gt (Aw rfl rfl (IntWalk.i64_in _ (by (try dsimp only at *); (try simp only [List.length_append, List.length_cons, List.length_nil]); omega))) ?_
   refine Gm rfl ?_
   refine AP (AB (.t6 0 1 2 8 9 10) ?_)
   refine DP (k + 1) _ ?_ ?_ (.t6 1 10 0 2 8 9) (.refl _)
   · exact ⟨by omega, by omega, by rw [hI13, AG.XJ hI11 (by omega) c2], by simp only [List.length_append, List.length_cons, List.length_nil]; omega⟩
   · omega
  have c2p := kz c2
  refine Aa ?_
  refine AB (.t6 0 1 2 8 9 10) ?_
  refine AT (AA (AI ?_))
  refine Gt (Aw rfl rfl (IntWalk.i64_in _ (by (try dsimp only at *); (try simp only [List.length_append, List.length_cons, List.length_nil]); omega))) ?_
  refine Gm rfl ?_
  refine AP (AB (.t6 0 1 2 8 9 10) ?_)
  refine DP (k + 1) _ ?_ ?_ (.t6 1 10 0 2 8 9) (.refl _)
  · exact ⟨by omega, by omega, by rw [hI13, AG.Xa hI11 (by omega) c2], by simp only [List.length_append, List.length_cons, List.length_nil]; omega⟩
  · omega
 have c1p := kz c1
 obtain rfl : k = (l.length : Int) := by omega
 rw [show (l.length : Int).toNat = l.length by omega, List.drop_length] at hI13
 refine Ba (AV (AV (Ah ?_)))
 refine AB (.t3 0 1 2) ?_
 refine AA (CA (Gm rfl (Gt (Aq rfl Tryz.underlying169 rfl) (Gt (Ai rfl rfl) (Gn (.t3 0 1 38) ?_)))))
 refine Gc (fun c3 => ?_) (fun c3 => ?_)
 ·
  have c3p := kz c3
  rw [hf] at c3
  refine AI (Gm rfl ?_)
  refine Gt (CO rfl rfl (by (try dsimp only at *); (try simp only [List.length_append, List.length_cons, List.length_nil]); omega)) ?_
  refine Ga rfl (Gn (.t2 0 1) (AI (Gm rfl (Gm rfl ?_))))
  refine Gt (CO rfl rfl (by (try dsimp only at *); (try simp only [List.length_append, List.length_cons, List.length_nil]); omega)) ?_
  refine Ag rfl Dx (.c rfl (.c rfl .n)) (.c .h (.c .h .n)) (Bb _ _ _ _ hg hb hn) (fun v1 B hv => ?_)
  obtain ⟨y2, rfl, y3, rfl⟩ := hv
  refine AP ?_
  refine Bf rfl .n ?_
  intro w1 hS
  have hS := (hS.perm (Av.perm (.c .h (.c .h (.c .h .n))))).Ay
  refine ⟨_, ⟨?gqTrue, rfl, ?hlTrue, ?hBTrue⟩, hS⟩
  case hBTrue => rw [AG.list, show AG.Qy T.w u l = _ from BB c3, hI13]; rfl
  case hlTrue => (try simp only [AG.CC] at *); rw [(AG.Ie T u l).2.2]; assumption
 have c3p := kz c3
 rw [hf] at c3
 refine Aa ?_
 refine AB (.t2 0 1) ?_
 refine AA (AI (Gm rfl (Gm rfl ?_)))
 refine Gt (CO rfl rfl (by (try dsimp only at *); (try simp only [List.length_append, List.length_cons, List.length_nil]); omega)) ?_
 refine Ag rfl Dx (.c rfl (.c rfl .n)) (.c .h (.c .h .n)) (Bb _ _ _ _ hg hb hn) (fun v4 B hv => ?_)
 obtain ⟨y5, rfl, y6, rfl⟩ := hv
 refine AP ?_
 refine Bf rfl .n ?_
 intro w1 hS
 have hS := (hS.perm (Av.perm (.c .h (.c .h (.c .h .n))))).Ay
 refine ⟨_, ⟨?gqFalse, rfl, ?hlFalse, ?hBFalse⟩, hS⟩
 case hBFalse => rw [AG.list, show AG.Qy T.w u l = _ from AU c3, hI13]; rfl
 case hlFalse => (try simp only [AG.CC] at *); rw [(AG.Ie T u l).2.2]; assumption
end Go.Proofs.YtoidpggbbfncpaaGreatDoor
