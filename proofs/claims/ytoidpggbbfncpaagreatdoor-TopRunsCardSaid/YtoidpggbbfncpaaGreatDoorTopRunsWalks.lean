/- What the functions that the law TopRuns reaches compute: walks, part 1. No condition. -/
import Derived.Test.YtoidpggbbfncpaaGreatDoorCards
import Derived.Test.YtoidpggbbfncpaaGreatDoorTie
import Derived.Deep.DeepHandedRow
import Derived.Test.YtoidpggbbfncpaaGreatDoorRows
import Derived.Test.YtoidpggbbfncpaaGreatDoorTopRunsEc3
import Derived.Test.YtoidpggbbfncpaaGreatDoorTopRunsRa1
import Derived.Test.YtoidpggbbfncpaaGreatDoorTopRunsRb1
import Derived.Test.YtoidpggbbfncpaaGreatDoorTopRunsRc1
set_option linter.unusedSimpArgs false
set_option linter.unusedVariables false
set_option maxRecDepth 100000
set_option maxHeartbeats 1000000
namespace Go.Proofs.YtoidpggbbfncpaaGreatDoor
open Go Go.Ing Go.RowKit Go.ChangeShapes Go.WideShapes Go.ChangeAt
theorem L4 : ZV Tryz.prog 35 (.agg (AH.enc (default : AH)).toArray) := Ep (by kernel_rfl)
theorem Cy : Sz Tryz.prog 3 1 := Da (by kernel_rfl)
theorem Tf : ZV Tryz.prog 23 (.agg (B8 (n := 6) Au (Vector.replicate 6 default)).toArray) := Ep (by kernel_rfl)
theorem Jf : Sz Tryz.prog 4 1 := Da (by kernel_rfl)
theorem ZP : ZV Tryz.prog 24 (.agg (B8 (n := 6) CQ (Vector.replicate 6 default)).toArray) := Ep (by kernel_rfl)
theorem Ei : Sz Tryz.prog 9 1 := Da (by kernel_rfl)
theorem Us : Sz Tryz.prog 23 6 := Da (by kernel_rfl)
theorem ZW : Sz Tryz.prog 24 6 := Da (by kernel_rfl)
theorem TC : Gf Tryz.prog 26 [(0, 1), (1, 1), (2, 6), (8, 6)] := ⟨_, Tryz.underlying26, fun w => by simp [Ei w, Jf w, Us w, ZW w]⟩
theorem NP : ZV Tryz.prog 26 (.agg (Room.enc (default : Room)).toArray) := Ep (by kernel_rfl)
theorem PF : Sz Tryz.prog 26 14 := Da (by kernel_rfl)
theorem aY : IS Tryz.prog 95 14 := Lo Tryz.underlying95 PF
theorem NC : MD Tryz.prog 26 14 := Ek Tryz.underlying26 rfl PF
theorem ZH : Sz Tryz.prog 27 84 := Da (by kernel_rfl)
theorem GF : FA Tryz.prog 35 0 0 := Bp Tryz.underlying35 rfl ZH
theorem M8 : IA Tryz.prog 27 6 14 := Ln Tryz.underlying27 PF
theorem Pn : Gf Tryz.prog 29 [(0, 1), (1, 1), (2, 1), (3, 1), (4, 1)] := ⟨_, Tryz.underlying29, fun w => by simp [Ei w, Cy w, Jf w]⟩
theorem Jb : ZV Tryz.prog 29 (.agg (Ak.enc (default : Ak)).toArray) := Ep (by kernel_rfl)
theorem Lv : Sz Tryz.prog 29 5 := Da (by kernel_rfl)
theorem aR : IS Tryz.prog 96 5 := Lo Tryz.underlying96 Lv
theorem Lh : MD Tryz.prog 29 5 := Ek Tryz.underlying29 rfl Lv
theorem Yz : Sz Tryz.prog 30 45 := Da (by kernel_rfl)
theorem Ci : FA Tryz.prog 35 1 84 := Bp Tryz.underlying35 rfl Yz
theorem Fi : IA Tryz.prog 30 9 5 := Ln Tryz.underlying30 Lv
theorem Um : Gf Tryz.prog 32 [(0, 1), (1, 1), (2, 1), (3, 1), (4, 1), (5, 1)] := ⟨_, Tryz.underlying32, fun w => by simp [Ei w, Jf w, Cy w]⟩
theorem Kv : ZV Tryz.prog 32 (.agg (Al.enc (default : Al)).toArray) := Ep (by kernel_rfl)
theorem Zf : Sz Tryz.prog 33 36 := Da (by kernel_rfl)
theorem Bi : FA Tryz.prog 35 2 129 := Bp Tryz.underlying35 rfl Zf
theorem Jg : Sz Tryz.prog 32 6 := Da (by kernel_rfl)
theorem Cr : IA Tryz.prog 33 6 6 := Ln Tryz.underlying33 Jg
theorem Dq : Sz Tryz.prog 35 165 := Da (by kernel_rfl)
theorem BT : MD Tryz.prog 35 165 := Ek Tryz.underlying35 rfl Dq
theorem bP : CF Tryz.prog 15 := Tryz.call15
theorem ZI : Sz Tryz.prog 99 88 := Da (by kernel_rfl)
theorem QB : Sz Tryz.prog 53 1 := Da (by kernel_rfl)
theorem Zu : Gf Tryz.prog 101 [(0, 165), (165, 88), (253, 1), (254, 1)] := ⟨_, Tryz.underlying101, fun w => by simp [Dq w, ZI w, Cy w, QB w]⟩
theorem Za : ZV Tryz.prog 101 (.agg (AM.enc (default : AM)).toArray) := Ep (by kernel_rfl)
theorem Rg : ZV Tryz.prog 9 (BQ []) := Ep (by kernel_rfl)
theorem XP : BY Tryz.prog 9 16 := OU (by kernel_rfl)
theorem Z2 : ZV Tryz.prog 75 (.agg (BJ.enc ⟨[], false, false, ⟨none, 0, 0⟩⟩).toArray) := Ep (by kernel_rfl)
theorem M3 : Sz Tryz.prog 52 1 := Da (by kernel_rfl)
theorem Fc : FA Tryz.prog 75 3 3 := Bp Tryz.underlying75 rfl M3
theorem FQ : PZ Tryz.prog 52 := IG Tryz.underlying52 rfl
theorem Mu : Sz Tryz.prog 75 4 := Da (by kernel_rfl)
theorem I9 : MD Tryz.prog 75 4 := Ek Tryz.underlying75 rfl Mu
theorem Ij : IS Tryz.prog 52 1 := Lo Tryz.underlying52 Ei
theorem CN : PZ Tryz.prog 9 := IG Tryz.underlying9 rfl
theorem UQ : CF Tryz.prog 69 := Tryz.call69
theorem VK : ZV Tryz.prog 65 (.agg (Aw.enc ⟨⟨none, 0, 0⟩, 0, false, [], false⟩).toArray) := Ep (by kernel_rfl)
theorem P2 : FA Tryz.prog 65 2 2 := Bp Tryz.underlying65 rfl Jf
theorem LC : FA Tryz.prog 65 1 1 := Bp Tryz.underlying65 rfl Cy
theorem FC : Sz Tryz.prog 65 5 := Da (by kernel_rfl)
theorem Cn : MD Tryz.prog 65 5 := Ek Tryz.underlying65 rfl FC
theorem mix : Tryz.prog.follows .mixedOrders = true := by kernel_rfl
theorem ZE : CF Tryz.prog 116 := Tryz.call116
theorem XX : CF Tryz.prog 115 := Tryz.call115
theorem GG : FA Tryz.prog 29 1 1 := Bp Tryz.underlying29 rfl Cy
theorem A2 : PZ Tryz.prog 3 := IG Tryz.underlying3 rfl
theorem FX : FA Tryz.prog 29 4 4 := Bp Tryz.underlying29 rfl Jf
theorem DV : PZ Tryz.prog 4 := IG Tryz.underlying4 rfl
theorem Cz : FA Tryz.prog 29 3 3 := Bp Tryz.underlying29 rfl Cy
theorem Ez : FA Tryz.prog 29 2 2 := Bp Tryz.underlying29 rfl Cy
theorem HX : FA Tryz.prog 32 1 1 := Bp Tryz.underlying32 rfl Jf
theorem ZY : MD Tryz.prog 27 84 := Ek Tryz.underlying27 rfl ZH
theorem LS : FA Tryz.prog 26 2 2 := Bp Tryz.underlying26 rfl Us
theorem Xe : MD Tryz.prog 23 6 := Ek Tryz.underlying23 rfl Us
theorem La : FA Tryz.prog 26 3 8 := Bp Tryz.underlying26 rfl ZW
theorem TI : IA Tryz.prog 24 6 1 := Ln Tryz.underlying24 Jf
theorem Xa : MD Tryz.prog 33 36 := Ek Tryz.underlying33 rfl Zf
theorem E8 : MD Tryz.prog 32 6 := Ek Tryz.underlying32 rfl Jg
theorem Cq : FA Tryz.prog 32 3 3 := Bp Tryz.underlying32 rfl Cy
theorem JA : FA Tryz.prog 32 4 4 := Bp Tryz.underlying32 rfl Cy
theorem Fb : FA Tryz.prog 32 5 5 := Bp Tryz.underlying32 rfl Cy
theorem bG : CF Tryz.prog 68 := Tryz.call68
theorem YV : FA Tryz.prog 26 1 1 := Bp Tryz.underlying26 rfl Jf
theorem WL : MD Tryz.prog 30 45 := Ek Tryz.underlying30 rfl Yz
theorem bI : CF Tryz.prog 19 := Tryz.call19
theorem U4 : CF Tryz.prog 159 := Tryz.call159
theorem S0 : CF Tryz.prog 129 := Tryz.call129
theorem Vw : FA Tryz.prog 32 2 2 := Bp Tryz.underlying32 rfl Jf
theorem Xs : CF Tryz.prog 160 := Tryz.call160
theorem Ow : FA Tryz.prog 56 2 2 := Bp Tryz.underlying56 rfl Cy
theorem GC : FA Tryz.prog 56 3 3 := Bp Tryz.underlying56 rfl Cy
theorem Me : CF Tryz.prog 130 := Tryz.call130
theorem SQ : FA Tryz.prog 56 0 0 := Bp Tryz.underlying56 rfl Cy
theorem Un : FA Tryz.prog 56 1 1 := Bp Tryz.underlying56 rfl Cy
theorem Zl : CF Tryz.prog 173 := Tryz.call173
theorem Hk : ZV Tryz.prog 56 (.agg (Ing.Event.enc (default : Ing.Event)).toArray) := Ep (by kernel_rfl)
theorem Mn : Sz Tryz.prog 56 16 := Da (by kernel_rfl)
theorem NG : MD Tryz.prog 56 16 := Ek Tryz.underlying56 rfl Mn
theorem Yr : CF Tryz.prog 157 := Tryz.call157
theorem MK : FA Tryz.prog 56 10 10 := Bp Tryz.underlying56 rfl Us
theorem Qg : IA Tryz.prog 23 6 1 := Ln Tryz.underlying23 Cy
theorem CE : FA Tryz.prog 163 1 165 := Bp Tryz.underlying163 rfl Cy
theorem A5 : FA Tryz.prog 163 0 0 := Bp Tryz.underlying163 rfl Dq
theorem Js : FA Tryz.prog 32 0 0 := Bp Tryz.underlying32 rfl Ei
theorem Vn : FA Tryz.prog 56 6 6 := Bp Tryz.underlying56 rfl Ei
theorem VS : FA Tryz.prog 56 7 7 := Bp Tryz.underlying56 rfl Ei
theorem CB : FA Tryz.prog 163 2 166 := Bp Tryz.underlying163 rfl QB
theorem DT : PZ Tryz.prog 53 := IG Tryz.underlying53 rfl
theorem XU : CF Tryz.prog 123 := Tryz.call123
theorem WR : BY Tryz.prog 56 160 := OU (by kernel_rfl)
theorem MP : Gf Tryz.prog 56 [(0, 1), (1, 1), (2, 1), (3, 1), (4, 1), (5, 1), (6, 1), (7, 1), (8, 1), (9, 1), (10, 6)] := ⟨_, Tryz.underlying56, fun w => by simp [Cy w, Ei w, Us w]⟩
theorem Mk : CF Tryz.prog 96 := Tryz.call96
theorem V0 : IA Tryz.prog 133 21 1 := Ln Tryz.underlying133 Ei
theorem Yn : ZV Tryz.prog 3 (.int .i64 0) := Ep (by kernel_rfl)
theorem aD : BY Tryz.prog 3 8 := OU (by kernel_rfl)
theorem F7 : IS Tryz.prog 169 1 := Lo Tryz.underlying169 Cy
theorem LI : FA Tryz.prog 29 0 0 := Bp Tryz.underlying29 rfl Ei
theorem Dv : CF Tryz.prog 127 := Tryz.call127
theorem Yi : FA Tryz.prog 26 0 0 := Bp Tryz.underlying26 rfl Ei
theorem Zp : CF Tryz.prog 52 := Tryz.call52
theorem QV : CF Tryz.prog 102 := Tryz.call102
theorem Xn : CF Tryz.prog 101 := Tryz.call101
theorem YD : CF Tryz.prog 43 := Tryz.call43
theorem bM : CF Tryz.prog 46 := Tryz.call46
theorem Su : Gf Tryz.prog 163 [(0, 165), (165, 1), (166, 1)] := ⟨_, Tryz.underlying163, fun w => by simp [Dq w, Cy w, QB w]⟩
theorem Sk : ZV Tryz.prog 163 (.agg (Ac.enc (default : Ac)).toArray) := Ep (by kernel_rfl)
theorem S7 : CF Tryz.prog 124 := Tryz.call124
theorem Sm : CF Tryz.prog 100 := Tryz.call100
theorem XV : Sz Tryz.prog 104 1 := Da (by kernel_rfl)
theorem Pu : FA Tryz.prog 107 0 0 := Bp Tryz.underlying107 rfl XV
theorem VY : PZ Tryz.prog 104 := IG Tryz.underlying104 rfl
theorem RU : ∃ i, Tryz.prog.info? 107 = some i ∧ i.size ≠ 0 := by
  have h : (Tryz.prog.info? 107).map (·.size) = some 2 := by kernel_rfl
  obtain ⟨i, h1, h2⟩ := Option.map_eq_some_iff.1 h
  exact ⟨i, h1, by omega⟩
theorem X5 : CF Tryz.prog 71 := Tryz.call71
theorem Sl : Sz Tryz.prog 105 1 := Da (by kernel_rfl)
theorem EU : FA Tryz.prog 107 1 1 := Bp Tryz.underlying107 rfl Sl
theorem HR : PZ Tryz.prog 105 := IG Tryz.underlying105 rfl
theorem UO : Sz Tryz.prog 5 1 := Da (by kernel_rfl)
theorem X1 : ZV Tryz.prog 5 (.int .u8 0) := Ep (by kernel_rfl)
theorem bF : BY Tryz.prog 5 1 := OU (by kernel_rfl)
theorem bj : Tryz.prog.cellsOf 5 = 1 := by kernel_rfl
theorem aL : CF Tryz.prog 49 := Tryz.call49
theorem Sq : ZV Tryz.prog 107 (.agg (DC.enc ⟨none, ⟨none, 0, 0⟩⟩).toArray) := Ep (by kernel_rfl)
theorem Wg : CF Tryz.prog 50 := Tryz.call50
theorem N5 : CF Tryz.prog 51 := Tryz.call51
theorem X0 : FA Tryz.prog 56 8 8 := Bp Tryz.underlying56 rfl Ei
theorem YQ : FA Tryz.prog 56 4 4 := Bp Tryz.underlying56 rfl Cy
theorem YL : FA Tryz.prog 56 9 9 := Bp Tryz.underlying56 rfl Ei
theorem Xv : FA Tryz.prog 56 5 5 := Bp Tryz.underlying56 rfl Cy
theorem aO : CF Tryz.prog 53 := Tryz.call53
theorem Wc : CF Tryz.prog 54 := Tryz.call54
theorem I6 : FA Tryz.prog 65 0 0 := Bp Tryz.underlying65 rfl M3
theorem JL : FA Tryz.prog 65 3 3 := Bp Tryz.underlying65 rfl Ei
theorem X3 : CF Tryz.prog 44 := Tryz.call44
theorem J8 : FA Tryz.prog 65 4 4 := Bp Tryz.underlying65 rfl Jf
theorem Df : FA Tryz.prog 98 4 16 := Bp Tryz.underlying98 rfl FC
theorem ai : CF Tryz.prog 82 := Tryz.call82
theorem Ps : FA Tryz.prog 98 5 21 := Bp Tryz.underlying98 rfl M3
theorem PG : FA Tryz.prog 101 3 254 := Bp Tryz.underlying101 rfl QB
theorem aN : IS Tryz.prog 53 16 := Lo Tryz.underlying53 Mn
theorem GU : FA Tryz.prog 101 1 165 := Bp Tryz.underlying101 rfl ZI
theorem Ra : Sz Tryz.prog 98 22 := Da (by kernel_rfl)
theorem PW : IA Tryz.prog 99 4 22 := Ln Tryz.underlying99 Ra
theorem H5 : FA Tryz.prog 98 0 0 := Bp Tryz.underlying98 rfl Cy
theorem HU : FA Tryz.prog 98 1 1 := Bp Tryz.underlying98 rfl Cy
theorem aZ : CF Tryz.prog 23 := Tryz.call23
theorem SM : CF Tryz.prog 64 := Tryz.call64
theorem D2 : FA Tryz.prog 101 0 0 := Bp Tryz.underlying101 rfl Dq
theorem Y9 : CF Tryz.prog 114 := Tryz.call114
theorem UT : CF Tryz.prog 79 := Tryz.call79
theorem K0 : ZV Tryz.prog 151 (.agg (Order.enc (default : Order)).toArray) := Ep (by kernel_rfl)
theorem Qe : Gf Tryz.prog 151 [(0, 1), (1, 1), (2, 1), (3, 1), (4, 1), (5, 1)] := ⟨_, Tryz.underlying151, fun w => by simp [Cy w, Jf w, Ei w]⟩
theorem Dl : Sz Tryz.prog 151 6 := Da (by kernel_rfl)
theorem B2 : MD Tryz.prog 151 6 := Ek Tryz.underlying151 rfl Dl
theorem aT : CF Tryz.prog 87 := Tryz.call87
theorem Zz : CF Tryz.prog 76 := Tryz.call76
theorem XZ : CF Tryz.prog 174 := Tryz.call174
theorem WD : CF Tryz.prog 176 := Tryz.call176
theorem ZT : CF Tryz.prog 179 := Tryz.call179
theorem V9 : IS Tryz.prog 105 1 := Lo Tryz.underlying105 UO
theorem Zb : PZ Tryz.prog 5 := IG Tryz.underlying5 rfl
theorem ZU : CF Tryz.prog 167 := Tryz.call167
theorem Y4 : CF Tryz.prog 168 := Tryz.call168
theorem Xt : CF Tryz.prog 180 := Tryz.call180
theorem ZL : Sz Tryz.prog 133 21 := Da (by kernel_rfl)
theorem Yg : MD Tryz.prog 133 21 := Ek Tryz.underlying133 rfl ZL
theorem ZD : CF Tryz.prog 169 := Tryz.call169
theorem aa : CF Tryz.prog 59 := Tryz.call59
theorem Z7 : CF Tryz.prog 181 := Tryz.call181
theorem Yx : CF Tryz.prog 170 := Tryz.call170
theorem Xr : CF Tryz.prog 171 := Tryz.call171
theorem ZZ : CF Tryz.prog 30 := Tryz.call30
theorem Z3 : CF Tryz.prog 172 := Tryz.call172
theorem Y1 : CF Tryz.prog 151 := Tryz.call151
theorem He : CF Tryz.prog 150 := Tryz.call150
theorem Xj : CF Tryz.prog 152 := Tryz.call152
theorem Zt : CF Tryz.prog 153 := Tryz.call153
theorem Zy : CF Tryz.prog 94 := Tryz.call94
theorem Pl : FA Tryz.prog 151 5 5 := Bp Tryz.underlying151 rfl Ei
theorem FE : FA Tryz.prog 151 3 3 := Bp Tryz.underlying151 rfl Ei
theorem Ft : FA Tryz.prog 151 1 1 := Bp Tryz.underlying151 rfl Cy
theorem Sa : CF Tryz.prog 154 := Tryz.call154
theorem GO : FA Tryz.prog 151 2 2 := Bp Tryz.underlying151 rfl Jf
theorem Xb : CF Tryz.prog 155 := Tryz.call155
theorem Xk : CF Tryz.prog 156 := Tryz.call156
theorem HG : FA Tryz.prog 151 4 4 := Bp Tryz.underlying151 rfl Ei
theorem Xi : CF Tryz.prog 128 := Tryz.call128
theorem SW : CF Tryz.prog 136 := Tryz.call136
theorem XY : CF Tryz.prog 125 := Tryz.call125
theorem Xm : CF Tryz.prog 131 := Tryz.call131
theorem VC : CF Tryz.prog 132 := Tryz.call132
theorem Oe : CF Tryz.prog 134 := Tryz.call134
theorem ZC : CF Tryz.prog 161 := Tryz.call161
theorem Xo : CF Tryz.prog 133 := Tryz.call133
theorem M7 : CF Tryz.prog 135 := Tryz.call135
theorem Cw : FA Tryz.prog 151 0 0 := Bp Tryz.underlying151 rfl Cy
theorem ZM : CF Tryz.prog 137 := Tryz.call137
theorem Zr : CF Tryz.prog 138 := Tryz.call138
theorem Zg : CF Tryz.prog 139 := Tryz.call139
theorem Sp : CF Tryz.prog 140 := Tryz.call140
theorem aH : CF Tryz.prog 99 := Tryz.call99
theorem Ys : CF Tryz.prog 103 := Tryz.call103
theorem Zd : CF Tryz.prog 104 := Tryz.call104
theorem Y3 : CF Tryz.prog 105 := Tryz.call105
theorem ZN : CF Tryz.prog 106 := Tryz.call106
theorem Z6 : CF Tryz.prog 107 := Tryz.call107
theorem XL : CF Tryz.prog 84 := Tryz.call84
theorem Jd : Sz Tryz.prog 69 10 := Da (by kernel_rfl)
theorem US : Gf Tryz.prog 98 [(0, 1), (1, 1), (2, 10), (12, 4), (16, 5), (21, 1)] := ⟨_, Tryz.underlying98, fun w => by simp [Cy w, Jd w, Mu w, FC w, M3 w]⟩
theorem To : ZV Tryz.prog 98 (.agg (A0.enc (default : A0)).toArray) := Ep (by kernel_rfl)
theorem Zj : CF Tryz.prog 122 := Tryz.call122
theorem YI : CF Tryz.prog 67 := Tryz.call67
theorem K9 : FA Tryz.prog 98 3 12 := Bp Tryz.underlying98 rfl Mu
theorem aQ : CF Tryz.prog 91 := Tryz.call91
theorem aw : CF Tryz.prog 92 := Tryz.call92
theorem bO : CF Tryz.prog 93 := Tryz.call93
theorem aK : CF Tryz.prog 95 := Tryz.call95
theorem ae : CF Tryz.prog 97 := Tryz.call97
theorem Yt : CF Tryz.prog 186 := Tryz.call186
theorem ZK : CF Tryz.prog 175 := Tryz.call175
theorem Zi : CF Tryz.prog 158 := Tryz.call158
theorem Yu : CF Tryz.prog 126 := Tryz.call126
theorem Vf : CF Tryz.prog 62 := Tryz.call62
theorem bJ : CF Tryz.prog 98 := Tryz.call98
theorem KA : FA Tryz.prog 98 2 2 := Bp Tryz.underlying98 rfl Jd
theorem O8 : FA Tryz.prog 69 5 9 := Bp Tryz.underlying69 rfl Cy
theorem ao : CF Tryz.prog 83 := Tryz.call83
theorem bC : CF Tryz.prog 77 := Tryz.call77
theorem aM : CF Tryz.prog 78 := Tryz.call78
theorem Qu : CF Tryz.prog 65 := Tryz.call65
theorem Y7 : Sz Tryz.prog 67 3 := Da (by kernel_rfl)
theorem KF : FA Tryz.prog 69 3 3 := Bp Tryz.underlying69 rfl Y7
theorem Jp : IA Tryz.prog 67 3 1 := Ln Tryz.underlying67 Cy
theorem I7 : FA Tryz.prog 69 4 6 := Bp Tryz.underlying69 rfl Y7
theorem FG : FA Tryz.prog 69 0 0 := Bp Tryz.underlying69 rfl Cy
theorem Jr : FA Tryz.prog 69 1 1 := Bp Tryz.underlying69 rfl Cy
theorem GH : FA Tryz.prog 69 2 2 := Bp Tryz.underlying69 rfl Ei
theorem YK : ZV Tryz.prog 69 (.agg (AN.enc (default : AN)).toArray) := Ep (by kernel_rfl)
theorem Yb : CF Tryz.prog 73 := Tryz.call73
theorem Dk : MD Tryz.prog 69 10 := Ek Tryz.underlying69 rfl Jd
theorem Ya : CF Tryz.prog 55 := Tryz.call55
theorem QY : CF Tryz.prog 74 := Tryz.call74
theorem Y2 : ZV Tryz.prog 145 (.agg (B8 (n := 2) Au (Vector.replicate 2 default)).toArray) := Ep (by kernel_rfl)
theorem an : CF Tryz.prog 80 := Tryz.call80
theorem aI : CF Tryz.prog 81 := Tryz.call81
theorem XQ : CF Tryz.prog 75 := Tryz.call75
theorem aJ : CF Tryz.prog 56 := Tryz.call56
theorem ZF : CF Tryz.prog 57 := Tryz.call57
theorem aq : CF Tryz.prog 58 := Tryz.call58
theorem JB : FA Tryz.prog 75 0 0 := Bp Tryz.underlying75 rfl Ei
theorem M5 : FA Tryz.prog 75 1 1 := Bp Tryz.underlying75 rfl Jf
theorem ND : FA Tryz.prog 75 2 2 := Bp Tryz.underlying75 rfl Jf
theorem YU : CF Tryz.prog 70 := Tryz.call70
theorem aU : CF Tryz.prog 45 := Tryz.call45
theorem JF : ZV Tryz.prog 44 (.agg (Ba.enc (default : Ba)).toArray) := Ep (by kernel_rfl)
theorem PM : FA Tryz.prog 101 2 253 := Bp Tryz.underlying101 rfl Cy
theorem Yq : Sz Tryz.prog 42 1 := Da (by kernel_rfl)
theorem L3 : Gf Tryz.prog 44 [(0, 1), (1, 1)] := ⟨_, Tryz.underlying44, fun w => by simp [Yq w, Ei w]⟩
theorem Ii : Sz Tryz.prog 44 2 := Da (by kernel_rfl)
theorem HO : MD Tryz.prog 44 2 := Ek Tryz.underlying44 rfl Ii
theorem NV : FA Tryz.prog 41 0 0 := Bp Tryz.underlying41 rfl Cy
theorem Ut : FA Tryz.prog 41 2 2 := Bp Tryz.underlying41 rfl Cy
theorem ax : CF Tryz.prog 60 := Tryz.call60
theorem R1 : FA Tryz.prog 41 1 1 := Bp Tryz.underlying41 rfl Cy
theorem av : CF Tryz.prog 61 := Tryz.call61
theorem YC : FA Tryz.prog 41 3 3 := Bp Tryz.underlying41 rfl Ei
theorem ah : CF Tryz.prog 29 := Tryz.call29
theorem aF : CF Tryz.prog 63 := Tryz.call63
theorem bD : CF Tryz.prog 66 := Tryz.call66
theorem ZA : CF Tryz.prog 37 := Tryz.call37
theorem YN : Gf Tryz.prog 41 [(0, 1), (1, 1), (2, 1), (3, 1)] := ⟨_, Tryz.underlying41, fun w => by simp [Cy w, Ei w]⟩
theorem TN : ZV Tryz.prog 41 (.agg (Br.enc (default : Br)).toArray) := Ep (by kernel_rfl)
theorem W0 : CF Tryz.prog 38 := Tryz.call38
theorem af : CF Tryz.prog 21 := Tryz.call21
theorem VA : FA Tryz.prog 44 0 0 := Bp Tryz.underlying44 rfl Yq
theorem Vc : PZ Tryz.prog 42 := IG Tryz.underlying42 rfl
theorem ay : CF Tryz.prog 24 := Tryz.call24
theorem UX : Sz Tryz.prog 41 4 := Da (by kernel_rfl)
theorem ag : IS Tryz.prog 22 4 := Lo Tryz.underlying22 UX
theorem Xf : MD Tryz.prog 41 4 := Ek Tryz.underlying41 rfl UX
theorem aE : BY Tryz.prog 44 24 := OU (by kernel_rfl)
theorem ZR : CF Tryz.prog 33 := Tryz.call33
theorem Yv : BY Tryz.prog 41 40 := OU (by kernel_rfl)
theorem ZX : CF Tryz.prog 34 := Tryz.call34
theorem Zc : IS Tryz.prog 78 2 := Lo Tryz.underlying78 Ii
theorem bN : U5 Tryz.prog 1 42 (fun n : Int => .int .i64 n) := WV Tryz.underlying42
theorem bl : U5 Tryz.prog 1 9 (fun s : Aq => BQ s) := XH Tryz.underlying9
theorem bE : U5 Tryz.prog 2 44 (fun x : Ba => .agg (Ba.enc x).toArray) := RW Tryz.underlying44 (by kernel_rfl) (.cons (by decide) rfl (.inr ⟨Vc, rfl, fun _ => rfl⟩) Ba.l0 bN (by decide) (.cons (by decide) rfl (.inr ⟨CN, rfl, fun _ => rfl⟩) Ba.l1 bl (by decide) .nil)) (fun x y => by rw [Bool.eq_iff_iff]; cases x; cases y; simp)
theorem N0  (w : World) : EL Tryz.prog 15 #[] w fun v w' => v = .agg AH.new.enc.toArray ∧ B4 w w' := by
 refine Am [] [] Tryz.func15 rfl rfl rfl (St.start w []) ?_
 refine Gs ?_
 refine BF rfl L4 rfl (fun b1 => ?_)
 refine AO (AA (Gs ?_))
 refine BF rfl L4 rfl (fun b2 => ?_)
 refine AO (AA (B7 ?_))
 refine Gt (EY Tryz.underlying23 Cy Tf rfl (.cons (AS.arr (n := 6) (i := 0) Bw (by decide) (by decide)) rfl rfl rfl (.cons (AS.arr (n := 6) (i := 1) Bw (by decide) (by decide)) rfl rfl rfl (.cons (AS.arr (n := 6) (i := 2) Bw (by decide) (by decide)) rfl rfl rfl (.cons (AS.arr (n := 6) (i := 3) Bw (by decide) (by decide)) rfl rfl rfl (.cons (AS.arr (n := 6) (i := 4) Bw (by decide) (by decide)) rfl rfl rfl (.cons (AS.arr (n := 6) (i := 5) Bw (by decide) (by decide)) rfl rfl rfl .nil))))))) ?_
 refine Gt (EY Tryz.underlying24 Jf ZP rfl (.cons (AS.arr (n := 6) (i := 5) Gd (by decide) (by decide)) rfl rfl rfl .nil)) ?_
 refine Gt (BA TC NP rfl (.cons Room.l0 rfl rfl rfl (.cons Room.l2 rfl rfl rfl (.cons Room.l3 rfl rfl rfl .nil)))) ?_
 refine Gt (EY Tryz.underlying23 Cy Tf rfl (.cons (AS.arr (n := 6) (i := 0) Bw (by decide) (by decide)) rfl rfl rfl (.cons (AS.arr (n := 6) (i := 1) Bw (by decide) (by decide)) rfl rfl rfl (.cons (AS.arr (n := 6) (i := 2) Bw (by decide) (by decide)) rfl rfl rfl (.cons (AS.arr (n := 6) (i := 3) Bw (by decide) (by decide)) rfl rfl rfl (.cons (AS.arr (n := 6) (i := 4) Bw (by decide) (by decide)) rfl rfl rfl (.cons (AS.arr (n := 6) (i := 5) Bw (by decide) (by decide)) rfl rfl rfl .nil))))))) ?_
 refine Gt (BA TC NP rfl (.cons Room.l0 rfl rfl rfl (.cons Room.l2 rfl rfl rfl .nil))) ?_
 refine Gt (EY Tryz.underlying23 Cy Tf rfl (.cons (AS.arr (n := 6) (i := 0) Bw (by decide) (by decide)) rfl rfl rfl (.cons (AS.arr (n := 6) (i := 1) Bw (by decide) (by decide)) rfl rfl rfl (.cons (AS.arr (n := 6) (i := 2) Bw (by decide) (by decide)) rfl rfl rfl (.cons (AS.arr (n := 6) (i := 3) Bw (by decide) (by decide)) rfl rfl rfl (.cons (AS.arr (n := 6) (i := 4) Bw (by decide) (by decide)) rfl rfl rfl (.cons (AS.arr (n := 6) (i := 5) Bw (by decide) (by decide)) rfl rfl rfl .nil))))))) ?_
 refine Gt (BA TC NP rfl (.cons Room.l0 rfl rfl rfl (.cons Room.l2 rfl rfl rfl (.cons Room.l1 rfl rfl rfl .nil)))) ?_
 refine Gt (EY Tryz.underlying23 Cy Tf rfl (.cons (AS.arr (n := 6) (i := 0) Bw (by decide) (by decide)) rfl rfl rfl (.cons (AS.arr (n := 6) (i := 1) Bw (by decide) (by decide)) rfl rfl rfl (.cons (AS.arr (n := 6) (i := 2) Bw (by decide) (by decide)) rfl rfl rfl (.cons (AS.arr (n := 6) (i := 3) Bw (by decide) (by decide)) rfl rfl rfl (.cons (AS.arr (n := 6) (i := 4) Bw (by decide) (by decide)) rfl rfl rfl (.cons (AS.arr (n := 6) (i := 5) Bw (by decide) (by decide)) rfl rfl rfl .nil))))))) ?_
 refine Gt (BA TC NP rfl (.cons Room.l0 rfl rfl rfl (.cons Room.l2 rfl rfl rfl (.cons Room.l1 rfl rfl rfl .nil)))) ?_
 refine Gt (EY Tryz.underlying23 Cy Tf rfl (.cons (AS.arr (n := 6) (i := 0) Bw (by decide) (by decide)) rfl rfl rfl (.cons (AS.arr (n := 6) (i := 1) Bw (by decide) (by decide)) rfl rfl rfl (.cons (AS.arr (n := 6) (i := 2) Bw (by decide) (by decide)) rfl rfl rfl (.cons (AS.arr (n := 6) (i := 3) Bw (by decide) (by decide)) rfl rfl rfl (.cons (AS.arr (n := 6) (i := 4) Bw (by decide) (by decide)) rfl rfl rfl (.cons (AS.arr (n := 6) (i := 5) Bw (by decide) (by decide)) rfl rfl rfl .nil))))))) ?_
 refine Gt (EY Tryz.underlying24 Jf ZP rfl (.cons (AS.arr (n := 6) (i := 2) Gd (by decide) (by decide)) rfl rfl rfl .nil)) ?_
 refine Gt (BA TC NP rfl (.cons Room.l0 rfl rfl rfl (.cons Room.l2 rfl rfl rfl (.cons Room.l3 rfl rfl rfl (.cons Room.l1 rfl rfl rfl .nil))))) ?_
 refine Gt (EY Tryz.underlying23 Cy Tf rfl (.cons (AS.arr (n := 6) (i := 0) Bw (by decide) (by decide)) rfl rfl rfl (.cons (AS.arr (n := 6) (i := 1) Bw (by decide) (by decide)) rfl rfl rfl (.cons (AS.arr (n := 6) (i := 2) Bw (by decide) (by decide)) rfl rfl rfl (.cons (AS.arr (n := 6) (i := 3) Bw (by decide) (by decide)) rfl rfl rfl (.cons (AS.arr (n := 6) (i := 4) Bw (by decide) (by decide)) rfl rfl rfl (.cons (AS.arr (n := 6) (i := 5) Bw (by decide) (by decide)) rfl rfl rfl .nil))))))) ?_
 refine Gt (BA TC NP rfl (.cons Room.l0 rfl rfl rfl (.cons Room.l2 rfl rfl rfl .nil))) ?_
 refine VR (cs := B8 (n := 6) Room.enc (Vector.replicate 6 default)) (cs' := B8 (n := 6) Room.enc AH.RV) rfl Tryz.underlying95 PF NP (by decide) (by decide) (by kernel_rfl) (.cons (AS.arr (n := 6) (i := 0) Room.fl (by decide) (by decide)) rfl rfl rfl (.cons (AS.arr (n := 6) (i := 1) Room.fl (by decide) (by decide)) rfl rfl rfl (.cons (AS.arr (n := 6) (i := 2) Room.fl (by decide) (by decide)) rfl rfl rfl (.cons (AS.arr (n := 6) (i := 3) Room.fl (by decide) (by decide)) rfl rfl rfl (.cons (AS.arr (n := 6) (i := 4) Room.fl (by decide) (by decide)) rfl rfl rfl (.cons (AS.arr (n := 6) (i := 5) Room.fl (by decide) (by decide)) rfl rfl rfl .nil)))))) rfl (fun b3 => ?_)
 refine Gt (Ao rfl Tryz.underlying95 rfl) (Gm rfl (Gn (.t5 0 1 20 21 22) (Ae ?_)))
 refine Bl (.t5 22 0 1 20 21) ?_
 refine BZ (.t .h) ?_
 refine CT (fun (k : Int) => 0 ≤ k ∧ k ≤ 6) (fun (k : Int) => (6 - k).toNat) (fun (k : Int) => [(22, .int .i64 k)]) (fun (k : Int) => [Ad.box b2 35 (AH.enc (AH.RY k.toNat))]) (0) ?_ rfl rfl (fun k hI1 => ?_)
 · exact ⟨Int.le_refl _, by omega⟩
 obtain ⟨hI11, hI12⟩ := hI1
 refine Gs (Gt (A6 rfl rfl) (AO (AA (Ap ?_))))
 refine Gc (fun c1 => ?_) (fun c1 => ?_)
 ·
  have c1p := kz c1
  dsimp only at c1p
  refine Aa ?_
  refine AB (.t5 0 1 20 21 22) ?_
  refine AA (Ap (Ae (Gs (Gm rfl ?_))))
  refine Gt (Bm aY (by decide) (Kn.own .m1) rfl rfl (by omega) (by dsimp only; omega)) ?_
  refine Gt (LH rfl NC (by decide) Room.fl (Kn.own .m1) (by simp; omega)) ?_
  refine BF rfl NP rfl (fun b4 => ?_)
  refine Ga rfl ?_
  refine AR (AJ (AS.id Room.fl.len Room.fl.one) rfl rfl rfl PF rfl .h) ?_
  refine Gn (.t7 0 1 2 3 20 21 22) (AI (Gm rfl (Gt (AZ rfl NC .m0 (AS.id Room.fl.len Room.fl.one) rfl) (Gt (Ai GF rfl) ?_))))
  refine Gt (AQ M8 rfl rfl (by omega) (by omega)) ?_
  refine AR (AJ (AH.l0.comp (AS.ar (n := 6) Room.fl (by omega))) rfl rfl rfl PF rfl (.t .h)) ?_
  refine AO (AB (.t5 0 1 20 21 22) ?_)
  refine AT (AA (AI ?_))
  refine Gt (As rfl rfl (IntWalk.i64_in _ (by omega))) ?_
  refine Gm rfl ?_
  refine AO (AB (.t5 0 1 20 21 22) ?_)
  refine B0 (k + 1) ?_ ?_ (.t5 22 0 1 20 21) (by rw [AH.Ti (by omega)]; exact (.cons _ (.refl _)))
  · exact ⟨by omega, by omega⟩
  · omega
 have c1p := kz c1
 dsimp only at c1p
 obtain rfl : k = 6 := by omega
 refine BX (AW (AW (Ag ?_)))
 refine AB (.t2 0 1) ?_
 refine AA (B7 (Gt (BA Pn Jb rfl (.cons Ak.l0 rfl rfl rfl (.cons Ak.l1 rfl rfl rfl .nil))) (Gt (BA Pn Jb rfl (.cons Ak.l0 rfl rfl rfl (.cons Ak.l1 rfl rfl rfl (.cons Ak.l3 rfl rfl rfl .nil)))) (Gt (BA Pn Jb rfl (.cons Ak.l0 rfl rfl rfl (.cons Ak.l1 rfl rfl rfl .nil))) (Gt (BA Pn Jb rfl (.cons Ak.l0 rfl rfl rfl (.cons Ak.l1 rfl rfl rfl (.cons Ak.l3 rfl rfl rfl .nil)))) (Gt (BA Pn Jb rfl (.cons Ak.l0 rfl rfl rfl (.cons Ak.l2 rfl rfl rfl (.cons Ak.l3 rfl rfl rfl .nil)))) (Gt (BA Pn Jb rfl (.cons Ak.l0 rfl rfl rfl (.cons Ak.l3 rfl rfl rfl .nil))) ?_)))))))
 refine Gt (BA Pn Jb rfl (.cons Ak.l0 rfl rfl rfl .nil)) (Gt (BA Pn Jb rfl (.cons Ak.l0 rfl rfl rfl (.cons Ak.l1 rfl rfl rfl (.cons Ak.l4 rfl rfl rfl .nil)))) (Gt (BA Pn Jb rfl (.cons Ak.l0 rfl rfl rfl (.cons Ak.l2 rfl rfl rfl (.cons Ak.l3 rfl rfl rfl .nil)))) ?_))
 refine VR (cs := B8 (n := 9) Ak.enc (Vector.replicate 9 default)) (cs' := B8 (n := 9) Ak.enc AH.O0) rfl Tryz.underlying96 Lv Jb (by decide) (by decide) (by kernel_rfl) (.cons (AS.arr (n := 9) (i := 0) Ak.fl (by decide) (by decide)) rfl rfl rfl (.cons (AS.arr (n := 9) (i := 1) Ak.fl (by decide) (by decide)) rfl rfl rfl (.cons (AS.arr (n := 9) (i := 2) Ak.fl (by decide) (by decide)) rfl rfl rfl (.cons (AS.arr (n := 9) (i := 3) Ak.fl (by decide) (by decide)) rfl rfl rfl (.cons (AS.arr (n := 9) (i := 4) Ak.fl (by decide) (by decide)) rfl rfl rfl (.cons (AS.arr (n := 9) (i := 5) Ak.fl (by decide) (by decide)) rfl rfl rfl (.cons (AS.arr (n := 9) (i := 6) Ak.fl (by decide) (by decide)) rfl rfl rfl (.cons (AS.arr (n := 9) (i := 7) Ak.fl (by decide) (by decide)) rfl rfl rfl (.cons (AS.arr (n := 9) (i := 8) Ak.fl (by decide) (by decide)) rfl rfl rfl .nil))))))))) rfl (fun b5 => ?_)
 refine Gt (Ao rfl Tryz.underlying96 rfl) (Gm rfl (Gn (.t5 0 1 41 42 43) (Ae ?_)))
 refine Bl (.t5 43 0 1 41 42) ?_
 refine BZ (.t .h) ?_
 refine CT (fun (k : Int) => 0 ≤ k ∧ k ≤ 9) (fun (k : Int) => (9 - k).toNat) (fun (k : Int) => [(43, .int .i64 k)]) (fun (k : Int) => [Ad.box b2 35 (AH.enc (AH.KH k.toNat))]) (0) ?_ rfl rfl (fun k hI2 => ?_)
 · exact ⟨Int.le_refl _, by omega⟩
 obtain ⟨hI21, hI22⟩ := hI2
 refine Gs (Gt (A6 rfl rfl) (AO (AA (Ap ?_))))
 refine Gc (fun c2 => ?_) (fun c2 => ?_)
 ·
  have c2p := kz c2
  dsimp only at c2p
  refine Aa ?_
  refine AB (.t5 0 1 41 42 43) ?_
  refine AA (Ap (Ae (Gs (Gm rfl ?_))))
  refine Gt (Bm aR (by decide) (Kn.own .m1) rfl rfl (by omega) (by dsimp only; omega)) ?_
  refine Gt (LH rfl Lh (by decide) Ak.fl (Kn.own .m1) (by simp; omega)) ?_
  refine BF rfl Jb rfl (fun b6 => ?_)
  refine Ga rfl ?_
  refine AR (AJ (AS.id Ak.fl.len Ak.fl.one) rfl rfl rfl Lv rfl .h) ?_
  refine Gn (.t7 0 1 4 5 41 42 43) (AI (Gm rfl (Gt (AZ rfl Lh .m0 (AS.id Ak.fl.len Ak.fl.one) rfl) (Gt (Ai Ci rfl) ?_))))
  refine Gt (AQ Fi rfl rfl (by omega) (by omega)) ?_
  refine AR (AJ (AH.l1.comp (AS.ar (n := 9) Ak.fl (by omega))) rfl rfl rfl Lv rfl (.t .h)) ?_
  refine AO (AB (.t5 0 1 41 42 43) ?_)
  refine AT (AA (AI ?_))
  refine Gt (As rfl rfl (IntWalk.i64_in _ (by omega))) ?_
  refine Gm rfl ?_
  refine AO (AB (.t5 0 1 41 42 43) ?_)
  refine B0 (k + 1) ?_ ?_ (.t5 43 0 1 41 42) (by rw [AH.TV (by omega)]; exact (.cons _ (.refl _)))
  · exact ⟨by omega, by omega⟩
  · omega
 have c2p := kz c2
 dsimp only at c2p
 obtain rfl : k = 9 := by omega
 refine BX (AW (AW (Ag ?_)))
 refine AB (.t2 0 1) ?_
 refine AA (Gs (Gt (BA Um Kv rfl (.cons Al.l0 rfl rfl rfl (.cons Al.l1 rfl rfl rfl (.cons Al.l2 rfl rfl rfl (.cons Al.l4 rfl rfl rfl .nil))))) (Gt (Ai Bi rfl) ?_)))
 refine Gt (AQ Cr rfl rfl (by decide) (by decide)) ?_
 refine AR (AJ (AH.l2.comp (AS.arr (n := 6) Al.fl (by decide) (by decide))) rfl rfl rfl Jg rfl .h) ?_
 refine Gn (.t2 0 1) (Gs (Gt (BA Um Kv rfl (.cons Al.l0 rfl rfl rfl (.cons Al.l1 rfl rfl rfl (.cons Al.l3 rfl rfl rfl (.cons Al.l4 rfl rfl rfl .nil))))) (Gt (Ai Bi rfl) ?_)))
 refine Gt (AQ Cr rfl rfl (by decide) (by decide)) ?_
 refine AR (AJ (AH.l2.comp (AS.arr (n := 6) Al.fl (by decide) (by decide))) rfl rfl rfl Jg rfl .h) ?_
 refine Gn (.t2 0 1) (Gs (Gt (AZ rfl BT .m0 (AS.id AH.fl.len AH.fl.one) rfl) ?_))
 refine AR (AJ (AS.id AH.fl.len AH.fl.one) rfl rfl rfl Dq rfl (.t (.t (.t .h)))) ?_
 refine Gn (.t1 0) (Ab ?_)
 refine AY rfl (.cell rfl .m3 (.inl ⟨(by rw [AH.fl.len]; exact BT), rfl⟩) .n) ?_
 intro w1 hS; refine ⟨?_, hS.Aj⟩; rfl
theorem I8  : JU Tryz.prog 37 #[] [] (fun v B => ∃ (b : Nat) (V : AM) (ls : Vector BG 4) (ev : List Ing.Event), v = .pointer (some ⟨b, 0, none⟩) ∧ A3 V ls ev = AL.new ∧ B = [Ad.box b 101 (AM.enc V), Ad.Ds (CI 9 (AM.Ax V) ls), Ad.own (AM.last V) 56 16 ((ev).flatMap Ing.Event.enc)]) := by
 intro w hS0
 refine Am _ _ Tryz.func37 rfl rfl rfl (hS0) ?_
 refine Gs (Ga rfl (Gn (.nil _) (Gs ?_)))
 refine A7 rfl bP .n (fun w hS => N0 w) ?_
 refine Gt (BA Zu Za rfl (.cons AM.l0 rfl rfl rfl .nil)) ?_
 refine B3 rfl rfl rfl (fun b1 => ?_)
 refine Ga rfl (Gn (.t1 0) (Ab ?_))
 refine AY rfl (.tmp rfl .n) ?_
 intro w1 hS
 have hS := (hS.perm (Av.perm (.c .h .n))).Az
 have h2 := (St.WZ hS (l := CI 9 ME MA) (fun r hr => U7 9 w1 r hr)).Cd 56 16
 refine ⟨_, ⟨b1, ⟨AH.new, ME, 0, ⟨none, 0, 0⟩⟩, MA, [], rfl, rfl, rfl⟩, h2.perm (XF _ _ _)⟩
theorem Bu {t0 : Nat} (h : Hd) (xs : List Aq) (hb : xs.length ≤ 17592186044416) : Ew Tryz.prog 69 #[h.val] [] (fun w => Rd w h t0 1 (xs.flatMap A4)) (fun v B => ∃ h' : Hd, v = h'.val ∧ h'.len = xs.length ∧ B = [Ad.own h' 9 1 (xs.flatMap A4)]) := by
 intro w hS0 hH
 have r0 := hH
 have hl := r0.K1 DB (by decide)
 refine Am _ _ Tryz.func69 rfl rfl rfl (hS0) ?_
 refine Gs (Ga rfl (Gn (.t1 0) (B7 (Gm rfl (Gt (Rk Tryz.underlying52 rfl) (Gn (.t2 0 4) ?_))))))
 refine Gc (fun c1 => ?_) (fun c1 => ?_)
 ·
  refine Gs (Ga rfl (Gn (.t1 2) (Ab (AD ?_))))
  refine AY rfl (.tmp rfl .n) ?_
  intro w1 hS
  have hS := (hS.perm (Av.perm .n)).Az
  have hx : xs = [] := by
    rcases xs with _ | ⟨x, xs⟩
    · rfl
    · exfalso
      obtain ⟨b, o, C, fz, e1, _⟩ := r0.2 (by simp [A4])
      rw [e1] at c1
      cases c1
  subst hx
  exact ⟨_, ⟨⟨none, 0, 0⟩, rfl, rfl, rfl⟩, hS.Cd _ _⟩
 have c1p := kz c1
 refine Aa ?_
 refine AB (.t1 0) ?_
 refine AA (Gs ?_)
 refine XO A4 rfl Tryz.underlying52 Ei (fun b1 => ?_)
 refine Gm rfl ?_
 refine IT (e := A4) rfl Tryz.underlying52 Ei Rg rfl XP (by decide) rfl rfl (fun w hS => Src.DU Tryz.underlying52 ((Kn.Hb r0) w hS)) rfl rfl (by omega) (fun _ => .h) (fun h1 h1l => ?_)
 refine Ga rfl (Gn (.t1 2) (Ab ?_))
 refine AY rfl (.tmp rfl .n) ?_
 intro w1 hS
 have hS := (hS.perm (Av.perm (.c .h .n))).Az
 exact ⟨_, ⟨_, rfl, by omega, rfl⟩, hS⟩
theorem Mw {t0 : Nat} (l : BJ) (qs : List Aq) (hb : qs.length ≤ 17592186044416) : Ew Tryz.prog 91 #[.agg l.enc.toArray] [] (fun w => Rd w l.queue t0 1 (qs.flatMap A4) ∧ l.queue.len ≤ l.queue.cap) (fun v B => (qs = [] ∧ v = .tuple #[.agg l.enc.toArray, BQ [], .bool false] ∧ B = []) ∨ (∃ q r, qs = q :: r ∧ ∃ h' : Hd, v = .tuple #[.agg (BJ.enc ⟨l.now, l.Cj, l.ret, h'⟩).toArray, BQ q, .bool true] ∧ h'.len = r.length ∧ B = [Ad.own h' 9 1 (r.flatMap A4)])) := by
 intro w hS0 hH
 obtain ⟨r0, k0⟩ := hH
 have hl0 := r0.K1 DB (by decide)
 refine Am _ _ Tryz.func91 rfl rfl rfl (hS0) ?_
 refine Gs ?_
 refine B3 rfl rfl rfl (fun b1 => ?_)
 refine BF rfl Z2 rfl (fun b2 => ?_)
 refine Ga rfl (Ga rfl (Gn (.t2 1 2) (B7 (Gt (Ai Fc rfl) (Gt (AG rfl FQ .m1 BJ.l3 rfl rfl) (Gt (Ao rfl Tryz.underlying52 rfl) (Gt (Af rfl rfl) ?_)))))))
 refine Gn (.t3 1 2 9) ?_
 refine Gc (fun c1 => ?_) (fun c1 => ?_)
 ·
  have c1p := kz c1
  have hq : qs = [] := List.length_eq_zero_iff.1 (by omega)
  refine Gs (Gt (AZ rfl I9 .m1 (AS.id BJ.fl.len BJ.fl.one) rfl) ?_)
  refine AR (AJ (AS.id BJ.fl.len BJ.fl.one) rfl rfl rfl Mu rfl .h) ?_
  refine Ga rfl (Ga rfl (Gn (.t3 2 3 4) (Ab (AD ?_))))
  refine AY rfl (.cell rfl .m0 (.inl ⟨(by rw [BJ.fl.len]; exact I9), rfl⟩) (.tmp rfl (.tmp rfl .n))) ?_
  intro w1 hS
  have hS := (hS.perm (Av.perm .n)).Az
  exact ⟨_, .inl ⟨hq, rfl, rfl⟩, hS⟩
 have c1p := kz c1
 obtain ⟨q, r, rfl⟩ := Bb.Sv (qs := qs) (by omega)
 rw [List.length_cons] at hl0 hb
 refine Aa ?_
 refine AB (.t2 1 2) ?_
 refine AA (Gs (Gt (Ai Fc rfl) (Gt (AG rfl FQ .m1 BJ.l3 rfl rfl) ?_)))
 refine Gt (Bm Ij (by decide) (Kn.Hb r0) rfl rfl (by omega) (by omega)) ?_
 refine Gt (DL rfl CN (Kn.Hb r0) (by simp)) ?_
 refine Ga rfl (Gn (.t3 1 2 5) (Gs (Gt (Ai Fc rfl) (Gt (AG rfl FQ .m1 BJ.l3 rfl rfl) ?_))))
 refine Gt (Qn Tryz.underlying52 Ei rfl rfl (by decide) (by omega)) ?_
 refine BC rfl UQ (.c rfl .n) .n (Bu _ r (by omega)) (fun w hS => by have h := (Kn.cut (l := 1) (r := l.queue.len) DB (Kn.Hb r0) (by omega) (Nat.le_refl _) (S4.of k0)) w hS; rw [show (((q :: r).take l.queue.len).drop 1) = r from by rw [List.take_of_length_le (by simp; omega)]; rfl] at h; exact h) (fun v2 B hv => ?_)
 obtain ⟨y3, rfl, y4, rfl⟩ := hv
 refine Gt (Ai Fc rfl) ?_
 refine AR (AJ BJ.l3 rfl rfl rfl M3 rfl (.t (.t .h))) ?_
 refine Gn (.t3 1 2 5) (Gs (Gt (AZ rfl I9 .m2 (AS.id BJ.fl.len BJ.fl.one) rfl) (Gm rfl ?_)))
 refine AR (AJ (AS.id BJ.fl.len BJ.fl.one) rfl rfl rfl Mu rfl (.t .h)) ?_
 refine Ga rfl (Ga rfl (Gn (.t3 2 3 4) (Ab ?_)))
 refine AY rfl (.cell rfl .m1 (.inl ⟨(by rw [BJ.fl.len]; exact I9), rfl⟩) (.tmp rfl (.tmp rfl .n))) ?_
 intro w1 hS
 have hS := (hS.perm (Av.perm (.c .h .n))).Az
 exact ⟨_, .inr ⟨q, r, rfl, _, rfl, by assumption, rfl⟩, hS⟩
theorem Lw (p : Aw) (w : World) : EL Tryz.prog 92 #[.agg p.enc.toArray] w fun v w' => v = .agg (Aw.enc ⟨p.wait, 0, false, p.ring, p.cut⟩).toArray ∧ B4 w w' := by
 refine Am [] [] Tryz.func92 rfl rfl rfl (St.start w []) ?_
 refine Gs ?_
 refine B3 rfl rfl rfl (fun b1 => ?_)
 refine BF rfl VK rfl (fun b2 => ?_)
 refine Gn (.t2 1 2) (Gs (Gt (Ai P2 rfl) ?_))
 refine AR (AJ Aw.l2 rfl rfl rfl Jf rfl (.t .h)) ?_
 refine Gt (Ai LC rfl) ?_
 refine AR (AJ Aw.l1 rfl rfl rfl Cy rfl (.t .h)) ?_
 refine Gn (.t2 1 2) (Gs (Gt (AZ rfl Cn .m1 (AS.id Aw.fl.len Aw.fl.one) rfl) ?_))
 refine AR (AJ (AS.id Aw.fl.len Aw.fl.one) rfl rfl rfl FC rfl .h) ?_
 refine Gn (.t1 2) (Ab ?_)
 refine AY rfl (.cell rfl .m0 (.inl ⟨(by rw [Aw.fl.len]; exact Cn), rfl⟩) .n) ?_
 intro w1 hS; refine ⟨?_, hS.Aj⟩; rfl
theorem Gl (s : Aq) (c : UInt8) (hs : s.length ≤ 10000000) (w : World) : EL Tryz.prog 116 #[BQ s, .int .u8 (c.toNat : Int)] w fun v w' => v = BQ (Words.QW c s) ∧ B4 w w' := by
 refine Am [] [] Tryz.func116 rfl rfl rfl (St.start w []) ?_
 refine Gs (Ga rfl (Gn (.t2 0 1) (Ap (Ae ?_))))
 refine Bl (.t2 0 1) ?_
 refine CT (fun (r : Aq) => Words.QW c s = Words.QW c r ∧ r.length ≤ s.length) (fun (r : Aq) => r.length) (fun (r : Aq) => [(0, BQ r)]) (fun (r : Aq) => []) (s) ?_ rfl rfl (fun r hI1 => ?_)
 · exact ⟨rfl, Nat.le_refl _⟩
 obtain ⟨hI11, hI12⟩ := hI1
 refine B7 (Gm rfl (Gt (BE rfl Tryz.underlying9 rfl) (Gt (CS rfl rfl) (Gm rfl (Bh 8 rfl rfl (fun q => AE rfl) (Bh 8 rfl rfl (fun q => AE rfl) (Bh 8 rfl rfl (fun q => BE rfl Tryz.underlying9 (Bc rfl q)) ?_)))))))
 refine Bh 8 rfl rfl (fun q => by have q1 := q; (try simp at q1); exact Ex (Bc rfl q) rfl (IntWalk.i64_in _ (by omega))) ?_
 refine Bh 8 rfl rfl (fun q => by have q1 := q; (try simp at q1); exact Bg Tryz.underlying9 (Bc rfl q) (Bc rfl q) (by omega) (by omega)) ?_
 refine Bh 8 rfl rfl (fun q => AE rfl) (Bh 8 rfl rfl (fun q => Af (Bc rfl q) (Bc rfl q)) (Gt (BI rfl rfl (fun h => h)) (Gn (.t3 0 1 16) ?_)))
 refine Gc (fun c1 => ?_) (fun c1 => ?_)
 ·
  have c1p := kz c1
  have hlt : 0 < r.length := by simp at c1; omega
  refine Aa ?_
  refine AB (.t2 0 1) ?_
  refine AA (Ae (AI (Gm rfl (Gm rfl (Gt (BE rfl Tryz.underlying9 rfl) ?_)))))
  refine Gt (Ex rfl rfl (IntWalk.i64_in _ (by omega))) ?_
  refine Gt (Hf Tryz.underlying9 rfl rfl (by omega) (by omega)) ?_
  refine Ga rfl ?_
  refine AO (AB (.t2 0 1) ?_)
  refine AT ?_
  refine B0 _ ?_ ?_ (.t2 0 1) (.refl _)
  · exact ⟨by rw [hI11, Words.ZJ c1] <;> rfl, by first | (simp; done) | (simp; omega)⟩
  · first | (simp; done) | (simp; omega)
 refine BX (AW (AW (Ag ?_)))
 refine AB (.t1 0) ?_
 refine AA (Gs (Gm rfl (Ga rfl (Gn (.t1 4) (Ab ?_)))))
 refine AY rfl (.tmp rfl .n) ?_
 intro w1 hS; refine ⟨?_, hS.Aj⟩; rw [hI11, Words.Zx c1]; rfl
theorem Eh (s : Aq) (c : UInt8) (hs : s.length ≤ 10000000) (w : World) : EL Tryz.prog 115 #[BQ s, .int .u8 (c.toNat : Int)] w fun v w' => v = BQ (Words.Ol c s) ∧ B4 w w' := by
 refine Am [] [] Tryz.func115 rfl rfl rfl (St.start w []) ?_
 refine Gs (Ga rfl (Gn (.t2 0 1) (Ap (Ae ?_))))
 refine Bl (.t2 0 1) ?_
 refine CT (fun (r : Aq) => Words.Ol c s = Words.Ol c r ∧ r.length ≤ s.length) (fun (r : Aq) => r.length) (fun (r : Aq) => [(0, BQ r)]) (fun (r : Aq) => []) (s) ?_ rfl rfl (fun r hI1 => ?_)
 · exact ⟨rfl, Nat.le_refl _⟩
 obtain ⟨hI11, hI12⟩ := hI1
 refine B7 (Gm rfl (Gt (BE rfl Tryz.underlying9 rfl) (Gt (CS rfl rfl) (Gm rfl (Bh 8 rfl rfl (fun q => AE rfl) ?_)))))
 refine Bh 8 rfl rfl (fun q => by have q1 := q; (try simp at q1); exact Bg Tryz.underlying9 (Bc rfl q) rfl (by decide) (by omega)) ?_
 refine Bh 8 rfl rfl (fun q => AE rfl) (Bh 8 rfl rfl (fun q => Af (Bc rfl q) (Bc rfl q)) (Gt (BI rfl rfl (fun h => h)) (Gn (.t3 0 1 13) ?_)))
 refine Gc (fun c1 => ?_) (fun c1 => ?_)
 ·
  have c1p := kz c1
  have hlt : 0 < r.length := by simp at c1; omega
  refine Aa ?_
  refine AB (.t2 0 1) ?_
  refine AA (Ae (AI (Gm rfl ?_)))
  refine Gt (Fx Tryz.underlying9 rfl rfl (by decide) (by omega)) ?_
  refine Ga rfl ?_
  refine AO (AB (.t2 0 1) ?_)
  refine AT ?_
  refine B0 _ ?_ ?_ (.t2 0 1) (.refl _)
  · exact ⟨by rw [hI11, Words.Y6 c1] <;> rfl, by first | (simp; done) | (simp; omega)⟩
  · first | (simp; done) | (simp; omega)
 refine BX (AW (AW (Ag ?_)))
 refine AB (.t1 0) ?_
 refine AA (Gs (Gm rfl (Ga rfl (Gn (.t1 4) (Ab ?_)))))
 refine AY rfl (.tmp rfl .n) ?_
 intro w1 hS; refine ⟨?_, hS.Aj⟩; rw [hI11, Words.Y0 c1]; rfl
theorem HL (s : Aq) (hs : s.length ≤ 10000000) (w : World) : EL Tryz.prog 94 #[BQ s, BQ [32]] w fun v w' => v = BQ (Words.Ol 32 (Words.QW 32 s)) ∧ B4 w w' := by
 refine Am [] [] Tryz.func94 rfl rfl rfl (St.start w []) ?_
 refine Gs (Ga rfl (Gn (.t2 0 1) (B7 (Gm rfl (Gt (Bs rfl rfl) (Gm rfl (BU 9 rfl rfl (fun q => AE rfl) ?_)))))))
 refine BU 9 rfl rfl (fun q => Bs (cF rfl q) rfl) ?_
 refine Gt (BP rfl rfl (fun h => by rw [h]; rfl)) ?_
 refine Gn (.t3 0 1 12) ?_
 refine Gc (fun c1 => ?_) (fun c1 => ?_)
 ·
  refine Gs (Gm rfl (Ga rfl (Gn (.t1 4) (Ab (AD ?_)))))
  refine AY rfl (.tmp rfl .n) ?_
  intro w1 hS; refine ⟨?_, hS.Aj⟩; have e : s = [] := by simpa using c1
  subst e; rfl
 have c1p := kz c1
 refine Aa ?_
 refine AB (.t2 0 1) ?_
 refine AA (B7 (Gm rfl (Gt (BE rfl Tryz.underlying9 rfl) (Gt (Af rfl rfl) (Gm rfl (Bh 17 rfl rfl (fun q => AE rfl) ?_))))))
 refine Bh 17 rfl rfl (fun q => by have q1 := q; (try simp at q1); exact Bg Tryz.underlying9 (Bc rfl q) rfl (by decide) (by (try simp only [List.length_cons, List.length_nil]); omega)) ?_
 refine Bh 17 rfl rfl (fun q => A6 (Bc rfl q) rfl) (Gt (BI rfl rfl (fun h => h)) (Gn (.t3 0 1 21) ?_))
 refine GJ rfl rfl ?_
 refine Ap ?_
 refine BD (N := 8) [0, 0, 2, 7, 0, 16, 63, 127] mix (by kernel_rfl) rfl ?_
 refine Pf 0 rfl (AE rfl) (Pf 1 rfl (AE rfl) ?_)
 refine Pf 2 rfl (Bg Tryz.underlying9 rfl rfl (by decide) (by (try simp only [List.length_cons, List.length_nil]); omega)) ?_
 refine BV 3 rfl rfl (by kernel_rfl) (KQ (Jn (Dp ZE (.c rfl (.c rfl .n)) (fun w hS => Gl _ 32 hs w)))) ?_
 refine Pf 4 rfl (AE rfl) ?_
 refine Pf 5 rfl (Bg Tryz.underlying9 rfl rfl (by decide) (by (try simp only [List.length_cons, List.length_nil]); omega)) ?_
 refine BV 6 rfl rfl (by kernel_rfl) (KQ (Jn (Dp XX (.c rfl (.c rfl .n)) (fun w hS => Eh _ 32 (by have := Words.PN 32 s; omega) w)))) ?_
 refine Pf 7 rfl (Ay rfl) ?_
 refine A1 (by kernel_rfl) ?_
 refine AB (.t1 4) ?_
 refine AA (Ab (AD ?_))
 refine AY rfl (.tmp rfl .n) ?_
 intro w1 hS; refine ⟨?_, hS.Aj⟩; rfl
theorem Je (X : AH) (i : Int) (h0 : 0 ≤ i) (h9 : i < 9) (w : World) : EL Tryz.prog 68 #[.agg X.enc.toArray, .int .i64 i] w fun v w' => v = .bool (X.CX i) ∧ B4 w w' := by
 refine Am [] [] Tryz.func68 rfl rfl rfl (St.start w []) ?_
 refine Gs ?_
 refine B3 rfl rfl rfl (fun b1 => ?_)
 refine Ga rfl (Gn (.t2 1 2) (Gs (Gm rfl (Gt (Ai Ci rfl) ?_))))
 refine Gt (AQ Fi rfl rfl (by omega) (by omega)) ?_
 refine Gt (AZ rfl Lh .m0 (AH.l1.comp (AS.ar (n := 9) Ak.fl (by omega))) rfl) ?_
 refine BF rfl Jb rfl (fun b2 => ?_)
 refine AR (AJ (AS.id Ak.fl.len Ak.fl.one) rfl rfl rfl Lv rfl .h) ?_
 refine Gn (.t2 2 5) (B7 (Gt (Ai GG rfl) (Gt (AG rfl A2 .m0 Ak.l1 rfl rfl) (Gt (A6 rfl rfl) (Gm rfl (BU 15 rfl rfl (fun q => Ai GG rfl) (BU 15 rfl rfl (fun q => AG (cF rfl q) A2 .m0 Ak.l1 rfl rfl) ?_)))))))
 refine BU 15 rfl rfl (fun q => CS (cF rfl q) rfl) ?_
 refine Gt (BP rfl rfl (fun h => by rw [h]; rfl)) ?_
 refine Gm rfl (BU 20 rfl rfl (fun q => Ai GG rfl) (BU 20 rfl rfl (fun q => AG (cF rfl q) A2 .m0 Ak.l1 rfl rfl) (BU 20 rfl rfl (fun q => Af (cF rfl q) rfl) (BU 20 rfl rfl (fun q => AE (cF rfl q)) ?_))))
 refine C4 (t := 24) rfl rfl rfl (fun qc q => Ai FX rfl) ?_
 refine C4 (t := 24) rfl rfl rfl (fun qc q => AG (Bc rfl (by rw [qc, q]; rfl)) DV .m0 Ak.l4 rfl rfl) ?_
 refine BU 20 rfl rfl (fun q => BI (cF rfl q) rfl (fun h => by rw [q, h]; rfl)) ?_
 refine Gt (BP rfl rfl (fun h => by rw [h]; rfl)) ?_
 refine Gm rfl (BU 29 rfl rfl (fun q => Ai Cz rfl) (BU 29 rfl rfl (fun q => AG (cF rfl q) A2 .m0 Ak.l3 rfl rfl) (BU 29 rfl rfl (fun q => A6 (cF rfl q) rfl) ?_)))
 refine Gt (BP rfl rfl (fun h => by rw [h]; rfl)) ?_
 refine Gn (.t3 2 5 33) ?_
 refine Gc (fun c1 => ?_) (fun c1 => ?_)
 ·
  refine Gs (Ga rfl (Gn (.t1 4) (Ab (AD ?_))))
  refine AY rfl (.tmp rfl .n) ?_
  intro w1 hS; refine ⟨congrArg Value.bool ?_, hS.Aj⟩; simp only [AH.CX, c1, ↓reduceIte, Bool.false_eq_true]
 have c1p := kz c1
 refine Aa ?_
 refine AB (.t2 2 5) ?_
 refine AA (Gs (Gt (Ai GG rfl) (Gt (AG rfl A2 .m0 Ak.l1 rfl rfl) (Gt (Af rfl rfl) (Gm rfl (Bh 37 rfl rfl (fun q => Ai FX rfl) (Bh 37 rfl rfl (fun q => AG (Bc rfl q) DV .m0 Ak.l4 rfl rfl) ?_)))))))
 refine Gt (BI rfl rfl (fun h => h)) (Ga rfl (Gn (.t3 2 5 6) (B7 (Gt (Ai Ez rfl) (Gt (AG rfl A2 .m0 Ak.l2 rfl rfl) (Gn (.t4 2 5 6 42) (Ae ?_)))))))
 refine Gs (Gt (Af rfl rfl) (Ga rfl (Gn (.t5 2 5 6 42 43) ?_)))
 refine Gc (fun c2 => ?_) (fun c2 => ?_)
 ·
  refine Gs (Gt (Ai Cz rfl) (Gt (AG rfl A2 .m0 Ak.l3 rfl rfl) (Gt (A6 rfl rfl) (Gm rfl (Bh 48 rfl rfl (fun q => AE rfl) (Bh 48 rfl rfl (fun q => BS (Bc rfl q)) (Gt (BI rfl rfl (fun h => h)) ?_)))))))
  refine Ga rfl (Gn (.t1 4) (Ab (AP (AD ?_))))
  refine AY rfl (.tmp rfl .n) ?_
  intro w1 hS; refine ⟨congrArg Value.bool ?_, hS.Aj⟩; simp only [AH.CX, c1, c2, ↓reduceIte, Bool.false_eq_true]
 have c2p := kz c2
 refine Gs (Gt (Af rfl rfl) (Ga rfl (Gn (.t5 2 5 6 42 52) ?_)))
 refine Gc (fun c3 => ?_) (fun c3 => ?_)
 ·
  have c3p := kz c3
  refine Gs (Gt (Ai Cz rfl) (Gt (AG rfl A2 .m0 Ak.l3 rfl rfl) (Gt (A6 rfl rfl) (Gm rfl (Bh 57 rfl rfl (fun q => Ai Cz rfl) (Bh 57 rfl rfl (fun q => AG (Bc rfl q) A2 .m0 Ak.l3 rfl rfl) (Bh 57 rfl rfl (fun q => Ai Bi rfl) ?_)))))))
  refine Bh 57 rfl rfl (fun q => by have q1 := q; (try simp at q1); exact AQ Cr (Bc rfl q) (Bc rfl q) (by omega) (by omega)) ?_
  refine Bh 57 rfl rfl (fun q => Ai HX (Bc rfl q)) ?_
  refine Bh 57 rfl rfl (fun q => by have q1 := q; (try simp at q1); exact AG (Bc rfl q) DV .m1 ((AH.l2.comp (AS.ar (n := 6) Al.fl (by omega))).comp Al.l1) rfl rfl) ?_
  refine Gt (BI rfl rfl (fun h => h)) (Ga rfl (Gn (.t1 4) (Ab (AP (AD ?_)))))
  refine AY rfl (.tmp rfl .n) ?_
  intro w1 hS; refine ⟨congrArg Value.bool ?_, hS.Aj⟩; simp only [AH.CX, c1, c2, c3, ↓reduceIte, Bool.false_eq_true]
 have c3p := kz c3
 refine Gs (Gt (Af rfl rfl) (Ga rfl (Gn (.t4 2 5 6 65) ?_)))
 refine Gc (fun c4 => ?_) (fun c4 => ?_)
 ·
  have c4p := kz c4
  refine B7 (Gt (Ai Cz rfl) (Gt (AG rfl A2 .m0 Ak.l3 rfl rfl) (Gt (CL rfl rfl) (Gm rfl (BU 70 rfl rfl (fun q => Ai Cz rfl) (BU 70 rfl rfl (fun q => AG (cF rfl q) A2 .m0 Ak.l3 rfl rfl) (BU 70 rfl rfl (fun q => Ai Ci rfl) ?_)))))))
  refine BU 70 rfl rfl (fun q => by have q1 := q; (try simp at q1); exact AQ Fi (cF rfl q) (cF rfl q) (by omega) (by omega)) ?_
  refine BU 70 rfl rfl (fun q => Ai GG (cF rfl q)) ?_
  refine BU 70 rfl rfl (fun q => by have q1 := q; (try simp at q1); exact AG (cF rfl q) A2 .m1 ((AH.l1.comp (AS.ar (n := 9) Ak.fl (by omega))).comp Ak.l1) rfl rfl) ?_
  refine BU 70 rfl rfl (fun q => CK (cF rfl q) rfl) ?_
  refine Gt (BP rfl rfl (fun h => by rw [h]; rfl)) ?_
  refine Gm rfl (BU 79 rfl rfl (fun q => AE rfl) ?_)
  refine Gt (BP rfl rfl (fun h => by rw [h]; rfl)) ?_
  refine Gn (.t3 2 5 81) ?_
  refine Gc (fun c5 => ?_) (fun c5 => ?_)
  ·
   refine Gs (Ga rfl (Gn (.t1 4) (Ab (AD (AP (AD ?_))))))
   refine AY rfl (.tmp rfl .n) ?_
   intro w1 hS; refine ⟨congrArg Value.bool ?_, hS.Aj⟩; simp only [AH.CX, c1, c2, c3, c4, c5, ↓reduceIte, Bool.false_eq_true]
  have c5p := kz c5
  refine Aa ?_
  refine AB (.t2 2 5) ?_
  refine AA (Gs (Gm rfl (AO (AA (Ae ?_)))))
  refine Bl (.t3 82 2 5) ?_
  refine Gj (fun (k : Int) (t : Ak) => 0 ≤ k ∧ k ≤ 10 ∧ X.CX i = X.Is (10 - k).toNat t) (fun (k : Int) (t : Ak) => (10 - k).toNat) (fun (k : Int) (t : Ak) => [(82, .int .i64 k)]) (fun (k : Int) (t : Ak) => [Ad.box b2 29 (Ak.enc t)]) (0) (X.AX.at i) ?_ rfl rfl (fun k t hI1 => ?_)
  · refine ⟨Int.le_refl _, by omega, ?_⟩; simp only [AH.CX, c1, c2, c3, c4, c5, ↓reduceIte, Bool.false_eq_true]; rfl
  obtain ⟨hI11, hI12, hI13⟩ := hI1
  refine Gs (Gt (A6 rfl rfl) (AO (AA (Ap ?_))))
  refine Gc (fun c6 => ?_) (fun c6 => ?_)
  ·
   have c6p := kz c6
   rw [show (10 - k).toNat = (10 - (k + 1)).toNat + 1 from by omega, AH.Is, show decide ((10 - (k + 1)).toNat = 0) = decide (k = 9) from decide_eq_decide.2 ⟨by omega, by omega⟩] at hI13
   refine Aa ?_
   refine AB (.t3 2 5 82) ?_
   refine AA (Ap (Ae (Gs (Gm rfl (Ga rfl (Gn (.t4 2 5 7 82) (B7 ?_)))))))
   refine Gt (Ai Ez rfl) (Gt (AG rfl A2 .m0 Ak.l2 rfl rfl) (Gt (CK rfl rfl) (Gn (.t5 2 5 7 82 87) ?_)))
   refine Gc (fun c7 => ?_) (fun c7 => ?_)
   ·
    refine Gs (Ga rfl (Gn (.t1 4) (Ab (AD (AP (AD (AD ?_)))))))
    refine AP (AP (AD ?_))
    refine AY rfl (.tmp rfl .n) ?_
    intro w1 hS; refine ⟨congrArg Value.bool ?_, hS.Aj⟩; rw [hI13]; simp only [c1, c2, c3, c4, c5, c6, c7, ↓reduceIte, Bool.false_eq_true]
   have c7p := kz c7
   refine Aa ?_
   refine AB (.t4 2 5 7 82) ?_
   refine AA (B7 (Gm rfl (Gt (Af rfl rfl) (Gm rfl (BU 90 rfl rfl (fun q => Ai Cz rfl) (BU 90 rfl rfl (fun q => AG (cF rfl q) A2 .m0 Ak.l3 rfl rfl) (BU 90 rfl rfl (fun q => A6 (cF rfl q) rfl) ?_)))))))
   refine Gt (BP rfl rfl (fun h => by rw [h]; rfl)) ?_
   refine Gm rfl (BU 95 rfl rfl (fun q => Ai Cz rfl) (BU 95 rfl rfl (fun q => AG (cF rfl q) A2 .m0 Ak.l3 rfl rfl) (BU 95 rfl rfl (fun q => CL (cF rfl q) rfl) ?_)))
   refine Gt (BP rfl rfl (fun h => by rw [h]; rfl)) ?_
   refine Gn (.t4 2 5 82 99) ?_
   refine Gc (fun c8 => ?_) (fun c8 => ?_)
   ·
    refine Gs (Ga rfl (Gn (.t1 4) (Ab (AD (AP (AD (AD ?_)))))))
    refine AP (AP (AD ?_))
    refine AY rfl (.tmp rfl .n) ?_
    intro w1 hS; refine ⟨congrArg Value.bool ?_, hS.Aj⟩; rw [hI13]; simp only [c1, c2, c3, c4, c5, c6, c7, c8, ↓reduceIte, Bool.false_eq_true]
   have c8p := kz c8
   refine Aa ?_
   refine AB (.t3 2 5 82) ?_
   refine AA (AI (Gt (Ai Cz rfl) (Gt (AG rfl A2 .m0 Ak.l3 rfl rfl) (Gt (Ai Ci rfl) ?_))))
   refine Gt (AQ Fi rfl rfl (by omega) (by omega)) ?_
   refine Gt (AZ rfl Lh .m1 (AH.l1.comp (AS.ar (n := 9) Ak.fl (by omega))) rfl) ?_
   refine AR (AJ (AS.id Ak.fl.len Ak.fl.one) rfl rfl rfl Lv rfl .h) ?_
   refine AO (AB (.t3 2 5 82) ?_)
   refine AT (AA (AI ?_))
   refine Gt (As rfl rfl (IntWalk.i64_in _ (by omega))) ?_
   refine Gm rfl ?_
   refine AO (AB (.t3 2 5 82) ?_)
   refine DI (k + 1) (X.AX.at t.at_) ?_ ?_ (.t3 82 2 5) (.refl _)
   · exact ⟨by omega, by omega, by rw [hI13]; simp only [c1, c2, c3, c4, c5, c6, c7, c8, ↓reduceIte, Bool.false_eq_true]⟩
   · omega
  have c6p := kz c6
  obtain rfl : k = 10 := by omega
  refine BX (AW (AW (Ag ?_)))
  refine AB (.nil _) ?_
  refine AT (AA (Gs (Ga rfl (AO (AA (Ab ?_))))))
  refine AY rfl (.tmp rfl .n) ?_
  intro w1 hS; refine ⟨congrArg Value.bool ?_, hS.Aj⟩; rw [hI13]; rfl
 refine Aa ?_
 refine AB (.nil _) ?_
 refine AT (AA (Gs (Ga rfl (AO (AA (Ab ?_))))))
 refine AY rfl (.tmp rfl .n) ?_
 intro w1 hS; refine ⟨congrArg Value.bool ?_, hS.Aj⟩; simp only [AH.CX, c1, c2, c3, c4, ↓reduceIte, Bool.false_eq_true]
theorem Gw (X : AH) (w : World) : EL Tryz.prog 43 #[.agg X.enc.toArray] w fun v w' => v = .bool X.Bq ∧ B4 w w' := by
 refine Am [] [] Tryz.func43 rfl rfl rfl (St.start w []) ?_
 refine Gs ?_
 refine B3 rfl rfl rfl (fun b1 => ?_)
 refine Ga rfl (Gn (.t1 1) (B7 (Gt (Ai GF rfl) (Gt (AZ rfl ZY .m0 AH.l0 rfl) (Gm rfl (Gn (.t3 1 11 12) (Ae ?_)))))))
 refine Bl (.t3 12 1 11) ?_
 refine CT (fun (k : Int) => 0 ≤ k ∧ k ≤ 6 ∧ X.Bq = (B5 6 X.Kr (6 - k).toNat && (B5 6 (fun k => !AH.DQ (X.AV.at k)) 6 && B5 9 X.CX 9))) (fun (k : Int) => (6 - k).toNat) (fun (k : Int) => [(12, .int .i64 k)]) (fun (k : Int) => []) (0) ?_ rfl rfl (fun k hI1 => ?_)
 · exact ⟨Int.le_refl _, by omega, rfl⟩
 obtain ⟨hI11, hI12, hI13⟩ := hI1
 refine Gs (Gt (A6 rfl rfl) (AO (AA (Ap ?_))))
 refine Gc (fun c1 => ?_) (fun c1 => ?_)
 ·
  have c1p := kz c1
  rw [DA _ (by omega)] at hI13
  refine Aa ?_
  refine AB (.t3 1 11 12) ?_
  refine AA (Ap (Ae (Gs ?_)))
  refine Gt (FU Room.fl Tryz.underlying27 NC rfl rfl (by omega) (by omega)) ?_
  refine BF rfl NP rfl (fun b2 => ?_)
  refine AR (AJ (AS.id Room.fl.len Room.fl.one) rfl rfl rfl PF rfl .h) ?_
  refine Gn (.t4 1 4 11 12) (Gs (Gt (Ai LS rfl) (Gt (AZ rfl Xe .m0 Room.l2 rfl) (Gm rfl (Gn (.t6 1 4 11 12 16 17) (Ae ?_))))))
  refine Bl (.t6 17 1 4 11 12 16) ?_
  refine CT (fun (d : Int) => 0 ≤ d ∧ d ≤ 6 ∧ X.Kr k = B5 6 (fun d => !AH.IE (X.Bv.at k) d) (6 - d).toNat) (fun (d : Int) => (6 - d).toNat) (fun (d : Int) => [(17, .int .i64 d)]) (fun (d : Int) => []) (0) ?_ rfl rfl (fun d hI2 => ?_)
  · exact ⟨Int.le_refl _, by omega, rfl⟩
  obtain ⟨hI21, hI22, hI23⟩ := hI2
  refine Gs (Gt (A6 rfl rfl) (AO (AA (Ap ?_))))
  refine Gc (fun c2 => ?_) (fun c2 => ?_)
  ·
   have c2p := kz c2
   rw [DA _ (by omega)] at hI23
   refine Aa ?_
   refine AB (.t6 1 4 11 12 16 17) ?_
   refine AA (Ap (Ae (Gs (Gm rfl ?_))))
   refine Gt (JV Bw Tryz.underlying23 Cy A2 rfl rfl (by omega) (by omega) rfl) ?_
   refine Ga rfl (Ga rfl (Gn (.t8 1 4 5 6 11 12 16 17) (Gs (Gm rfl (Gt (A6 rfl rfl) (Gm rfl (BU 23 rfl rfl (fun q => AE rfl) ?_)))))))
   refine BU 23 rfl rfl (fun q => CS (cF rfl q) rfl) ?_
   refine Gt (BP rfl rfl (fun h => by rw [h]; rfl)) ?_
   refine Gm rfl (BU 27 rfl rfl (fun q => AE rfl) (BU 27 rfl rfl (fun q => Af (cF rfl q) rfl) (BU 27 rfl rfl (fun q => AE (cF rfl q)) ?_)))
   refine C4 (t := 30) rfl rfl rfl (fun qc q => AE rfl) ?_
   refine C4 (t := 30) rfl rfl rfl (fun qc q => Ai La rfl) ?_
   refine C4 (t := 30) rfl rfl rfl (fun qc q => by have q1 := q; have qc1 := qc; (try simp at q1 qc1); exact AQ TI (Bc rfl (by rw [qc, q]; rfl)) (Bc rfl (by rw [qc, q]; rfl)) (by omega) (by omega)) ?_
   refine C4 (t := 30) rfl rfl rfl (fun qc q => by have q1 := q; have qc1 := qc; (try simp at q1 qc1); exact AG (Bc rfl (by rw [qc, q]; rfl)) DV .m0 (Room.l3.comp (AS.ar (n := 6) Gd (by omega))) rfl rfl) ?_
   refine BU 27 rfl rfl (fun q => BI (cF rfl q) rfl (fun h => by rw [q, h]; rfl)) ?_
   refine Gt (BP rfl rfl (fun h => by rw [h]; rfl)) ?_
   refine Gn (.t7 1 4 11 12 16 17 36) ?_
   refine Gc (fun c3 => ?_) (fun c3 => ?_)
   ·
    refine Gs (Ga rfl (Gn (.t1 2) (Ab (AP (AD (AD (AP ?_)))))))
    refine AP (AD (AD (AP (AD ?_))))
    refine AY rfl (.tmp rfl .n) ?_
    intro w1 hS; refine ⟨congrArg Value.bool ?_, hS.Aj⟩; rw [hI13, hI23, AH.IE, c3]; rfl
   have c3p := kz c3
   refine Aa ?_
   refine AB (.t6 1 4 11 12 16 17) ?_
   refine AT (AA (AI ?_))
   refine Gt (As rfl rfl (IntWalk.i64_in _ (by omega))) ?_
   refine Gm rfl ?_
   refine AO (AB (.t6 1 4 11 12 16 17) ?_)
   refine B0 (d + 1) ?_ ?_ (.t6 17 1 4 11 12 16) (.refl _)
   · exact ⟨by omega, by omega, by rw [hI23, AH.IE, c3]; rfl⟩
   · omega
  have c2p := kz c2
  obtain rfl : d = 6 := by omega
  refine BX (AW (AW (Ag ?_)))
  refine AB (.t3 1 11 12) ?_
  refine AT (AA (AI ?_))
  refine Gt (As rfl rfl (IntWalk.i64_in _ (by omega))) ?_
  refine Gm rfl ?_
  refine AO (AB (.t3 1 11 12) ?_)
  refine B0 (k + 1) ?_ ?_ (.t3 12 1 11) (.cons _ (.refl _))
  · exact ⟨by omega, by omega, by rw [hI13, hI23]; rfl⟩
  · omega
 have c1p := kz c1
 obtain rfl : k = 6 := by omega
 refine BX (AW (AW (Ag ?_)))
 refine AB (.t1 1) ?_
 refine AA (B7 (Gt (Ai Bi rfl) (Gt (AZ rfl Xa .m0 AH.l2 rfl) (Gm rfl (Gn (.t3 1 40 41) (Ae ?_))))))
 refine Bl (.t3 41 1 40) ?_
 refine CT (fun (b : Int) => 0 ≤ b ∧ b ≤ 6 ∧ X.Bq = (B5 6 (fun k => !AH.DQ (X.AV.at k)) (6 - b).toNat && B5 9 X.CX 9)) (fun (b : Int) => (6 - b).toNat) (fun (b : Int) => [(41, .int .i64 b)]) (fun (b : Int) => []) (0) ?_ rfl rfl (fun b hI3 => ?_)
 · exact ⟨Int.le_refl _, by omega, hI13⟩
 obtain ⟨hI31, hI32, hI33⟩ := hI3
 refine Gs (Gt (A6 rfl rfl) (AO (AA (Ap ?_))))
 refine Gc (fun c4 => ?_) (fun c4 => ?_)
 ·
  have c4p := kz c4
  rw [DA _ (by omega)] at hI33
  refine Aa ?_
  refine AB (.t3 1 40 41) ?_
  refine AA (Ap (Ae (Gs ?_)))
  refine Gt (FU Al.fl Tryz.underlying33 E8 rfl rfl (by omega) (by omega)) ?_
  refine BF rfl Kv rfl (fun b3 => ?_)
  refine AR (AJ (AS.id Al.fl.len Al.fl.one) rfl rfl rfl Jg rfl .h) ?_
  refine Gn (.t4 1 8 40 41) (Gs (Gt (Ai Cq rfl) (Gt (AG rfl A2 .m0 Al.l3 rfl rfl) (Gt (A6 rfl rfl) (Gm rfl (BU 47 rfl rfl (fun q => Ai Cq rfl) (BU 47 rfl rfl (fun q => AG (cF rfl q) A2 .m0 Al.l3 rfl rfl) ?_)))))))
  refine BU 47 rfl rfl (fun q => CL (cF rfl q) rfl) ?_
  refine Gt (BP rfl rfl (fun h => by rw [h]; rfl)) ?_
  refine Gm rfl (BU 52 rfl rfl (fun q => Ai JA rfl) (BU 52 rfl rfl (fun q => AG (cF rfl q) A2 .m0 Al.l4 rfl rfl) (BU 52 rfl rfl (fun q => A6 (cF rfl q) rfl) ?_)))
  refine Gt (BP rfl rfl (fun h => by rw [h]; rfl)) ?_
  refine Gm rfl (BU 57 rfl rfl (fun q => Ai JA rfl) (BU 57 rfl rfl (fun q => AG (cF rfl q) A2 .m0 Al.l4 rfl rfl) (BU 57 rfl rfl (fun q => CS (cF rfl q) rfl) ?_)))
  refine Gt (BP rfl rfl (fun h => by rw [h]; rfl)) ?_
  refine Gm rfl (BU 62 rfl rfl (fun q => Ai Fb rfl) (BU 62 rfl rfl (fun q => AG (cF rfl q) A2 .m0 Al.l5 rfl rfl) (BU 62 rfl rfl (fun q => A6 (cF rfl q) rfl) ?_)))
  refine Gt (BP rfl rfl (fun h => by rw [h]; rfl)) ?_
  refine Gm rfl (BU 67 rfl rfl (fun q => Ai Fb rfl) (BU 67 rfl rfl (fun q => AG (cF rfl q) A2 .m0 Al.l5 rfl rfl) (BU 67 rfl rfl (fun q => CS (cF rfl q) rfl) ?_)))
  refine Gt (BP rfl rfl (fun h => by rw [h]; rfl)) ?_
  refine Gm rfl (BU 72 rfl rfl (fun q => Ai HX rfl) (BU 72 rfl rfl (fun q => AG (cF rfl q) DV .m0 Al.l1 rfl rfl) (BU 72 rfl rfl (fun q => BS (cF rfl q)) (BU 72 rfl rfl (fun q => AE (cF rfl q)) ?_))))
  refine C4 (t := 76) rfl rfl rfl (fun qc q => Ai Fb rfl) ?_
  refine C4 (t := 76) rfl rfl rfl (fun qc q => AG (Bc rfl (by rw [qc, q]; rfl)) A2 .m0 Al.l5 rfl rfl) ?_
  refine C4 (t := 76) rfl rfl rfl (fun qc q => CK (Bc rfl (by rw [qc, q]; rfl)) rfl) ?_
  refine BU 72 rfl rfl (fun q => BI (cF rfl q) rfl (fun h => by rw [q, h]; rfl)) ?_
  refine Gt (BP rfl rfl (fun h => by rw [h]; rfl)) ?_
  refine Gm rfl (BU 82 rfl rfl (fun q => Ai HX rfl) (BU 82 rfl rfl (fun q => AG (cF rfl q) DV .m0 Al.l1 rfl rfl) (BU 82 rfl rfl (fun q => Ai JA rfl) (BU 82 rfl rfl (fun q => AG (cF rfl q) A2 .m0 Al.l4 rfl rfl) (BU 82 rfl rfl (fun q => CS (cF rfl q) rfl) (BU 82 rfl rfl (fun q => JM Tryz.underlying4 (cF rfl q) (cF rfl q)) ?_))))))
  refine Gt (BP rfl rfl (fun h => by rw [h]; rfl)) ?_
  refine Gn (.t4 1 40 41 89) ?_
  refine Gc (fun c5 => ?_) (fun c5 => ?_)
  ·
   refine Gs (Ga rfl (Gn (.t1 2) (Ab (AP (AD (AD (AP ?_)))))))
   refine AD ?_
   refine AY rfl (.tmp rfl .n) ?_
   intro w1 hS; refine ⟨congrArg Value.bool ?_, hS.Aj⟩; rw [hI33, AH.DQ, c5]; rfl
  have c5p := kz c5
  refine Aa ?_
  refine AB (.t3 1 40 41) ?_
  refine AT (AA (AI ?_))
  refine Gt (As rfl rfl (IntWalk.i64_in _ (by omega))) ?_
  refine Gm rfl ?_
  refine AO (AB (.t3 1 40 41) ?_)
  refine B0 (b + 1) ?_ ?_ (.t3 41 1 40) (.cons _ (.refl _))
  · exact ⟨by omega, by omega, by rw [hI33, AH.DQ, c5]; rfl⟩
  · omega
 have c4p := kz c4
 obtain rfl : b = 6 := by omega
 refine BX (AW (AW (Ag ?_)))
 refine AB (.t1 1) ?_
 refine AA (B7 (Gm rfl (AO (AA (Ae ?_)))))
 refine Bl (.t2 91 1) ?_
 refine CT (fun (t : Int) => 0 ≤ t ∧ t ≤ 9 ∧ X.Bq = B5 9 X.CX (9 - t).toNat) (fun (t : Int) => (9 - t).toNat) (fun (t : Int) => [(91, .int .i64 t)]) (fun (t : Int) => []) (0) ?_ rfl rfl (fun t hI4 => ?_)
 · exact ⟨Int.le_refl _, by omega, hI33⟩
 obtain ⟨hI41, hI42, hI43⟩ := hI4
 refine Gs (Gt (A6 rfl rfl) (AO (AA (Ap ?_))))
 refine Gc (fun c6 => ?_) (fun c6 => ?_)
 ·
  have c6p := kz c6
  rw [DA _ (by omega)] at hI43
  refine Aa ?_
  refine AB (.t2 1 91) ?_
  refine AA (Ap (Ae (Gs (Gm rfl (Ga rfl (Gn (.t3 1 9 91) (Gs ?_)))))))
  refine Gt (AZ rfl BT .m0 (AS.id AH.fl.len AH.fl.one) rfl) (Gm rfl ?_)
  refine A7 rfl bG (.c rfl (.c rfl .n)) (fun w hS => Je X _ (by omega) (by omega) w) ?_
  refine Gt (BS rfl) (Gn (.t3 1 91 97) ?_)
  refine Gc (fun c7 => ?_) (fun c7 => ?_)
  ·
   refine Gs (Ga rfl (Gn (.t1 2) (Ab (AP (AD (AD (AP ?_)))))))
   refine AD ?_
   refine AY rfl (.tmp rfl .n) ?_
   intro w1 hS; refine ⟨congrArg Value.bool ?_, hS.Aj⟩; rw [hI43, show X.CX t = false by simpa using c7]; rfl
  have c7p := kz c7
  refine Aa ?_
  refine AB (.t2 1 91) ?_
  refine AT (AA (AI ?_))
  refine Gt (As rfl rfl (IntWalk.i64_in _ (by omega))) ?_
  refine Gm rfl ?_
  refine AO (AB (.t2 1 91) ?_)
  refine B0 (t + 1) ?_ ?_ (.t2 91 1) (.refl _)
  · exact ⟨by omega, by omega, by rw [hI43, show X.CX t = true by simpa using c7]; rfl⟩
  · omega
 have c6p := kz c6
 obtain rfl : t = 9 := by omega
 refine BX (AW (AW (Ag ?_)))
 refine AB (.nil _) ?_
 refine AA (Gs (Ga rfl (AO (AA (Ab ?_)))))
 refine AY rfl (.tmp rfl .n) ?_
 intro w1 hS; refine ⟨congrArg Value.bool ?_, hS.Aj⟩; rw [hI43]; rfl
theorem Lb (s : Aq) (hs : s.length ≤ 100000000) (w : World) : EL Tryz.prog 46 #[BQ s] w fun v w' => v = .bool (AF.JR s) ∧ B4 w w' := by
 refine Am [] [] Tryz.func46 rfl rfl rfl (St.start w []) ?_
 refine Gs (Ga rfl (Gn (.t1 0) (B7 (Gm rfl (Gt (BE rfl Tryz.underlying9 rfl) (Gm rfl (Gn (.t3 0 5 6) ?_)))))))
 refine Ae ?_
 refine Bl (.t3 6 0 5) ?_
 refine CT (fun (k : Int) => 0 ≤ k ∧ k ≤ (s.length : Int) ∧ AF.G4 s 0 = AF.G4 s k.toNat) (fun (k : Int) => ((s.length : Int) - k).toNat) (fun (k : Int) => [(6, .int .i64 k)]) (fun (k : Int) => []) (0) ?_ rfl rfl (fun k hI1 => ?_)
 · exact ⟨by omega, by omega, rfl⟩
 obtain ⟨hI11, hI12, hI13⟩ := hI1
 refine Gs (Gt (A6 rfl rfl) (AO (AA (Ap ?_))))
 refine Gc (fun c1 => ?_) (fun c1 => ?_)
 ·
  have c1p := kz c1
  have hst := AF.UE (s := s) hI11 (by omega)
  refine Aa ?_
  refine AB (.t3 0 5 6) ?_
  refine AA (Ap (Ae (Gs (Gm rfl (Ga rfl (Gn (.t4 0 3 5 6) (Gs ?_)))))))
  refine Gm rfl (Gm rfl ?_)
  refine Gt (Bg Tryz.underlying9 rfl rfl (by omega) (by omega)) ?_
  refine Gt (A6 rfl rfl) (Gm rfl (BU 13 rfl rfl (fun q => AE rfl) (BU 13 rfl rfl (fun q => AE rfl) ?_)))
  refine BU 13 rfl rfl (fun q => by have q1 := q; (try simp at q1); exact Bg Tryz.underlying9 (cF rfl q) (cF rfl q) (by omega) (by omega)) ?_
  refine BU 13 rfl rfl (fun q => CS (cF rfl q) rfl) ?_
  refine Gt (BP rfl rfl (fun h => by rw [h]; rfl)) ?_
  refine Gn (.t4 0 5 6 18) ?_
  refine Gc (fun c2 => ?_) (fun c2 => ?_)
  ·
   rw [show AF.low (s.getD k.toNat 0) = true from c2] at hst
   refine Gs (Ga rfl (Gn (.t1 2) (Ab (AP (AD (AD (AP ?_)))))))
   refine AD ?_
   refine AY rfl (.tmp rfl .n) ?_
   intro w1 hS; refine ⟨?_, hS.Aj⟩; exact congrArg Value.bool (by rw [AF.JR, hI13, hst]; rfl)
  have c2p := kz c2
  rw [show AF.low (s.getD k.toNat 0) = false from c2] at hst
  refine Aa ?_
  refine AB (.t3 0 5 6) ?_
  refine AT (AA (AI ?_))
  refine Gt (As rfl rfl (IntWalk.i64_in _ (by omega))) ?_
  refine Gm rfl ?_
  refine AO (AB (.t3 0 5 6) ?_)
  refine B0 (k + 1) ?_ ?_ (.t3 6 0 5) (.refl _)
  · exact ⟨by omega, by omega, by rw [hI13, hst]; rfl⟩
  · omega
 have c1p := kz c1
 obtain rfl : k = (s.length : Int) := by omega
 rw [AF.VZ] at hI13
 refine BX (AW (AW (Ag ?_)))
 refine AB (.t1 0) ?_
 refine AA (Gs (Gm rfl (Gt (BE rfl Tryz.underlying9 rfl) (Gt (CL rfl rfl) (Gm rfl (Bh 23 rfl rfl (fun q => AE rfl) (Bh 23 rfl rfl (fun q => BE rfl Tryz.underlying9 (Bc rfl q)) ?_)))))))
 refine Bh 23 rfl rfl (fun q => HS (Bc rfl q) rfl) (Gt (BI rfl rfl (fun h => h)) (Gm rfl (Bh 28 rfl rfl (fun q => AE rfl) (Bh 28 rfl rfl (fun q => Dj (Bc rfl q) rfl) (Gt (BI rfl rfl (fun h => h)) (Gm rfl (Bh 32 rfl rfl (fun q => AE rfl) ?_)))))))
 refine Bh 32 rfl rfl (fun q => Dj (Bc rfl q) rfl) (Gt (BI rfl rfl (fun h => h)) (Ga rfl (Gn (.t1 2) (Ab ?_))))
 refine AY rfl (.tmp rfl .n) ?_
 intro w1 hS; refine ⟨?_, hS.Aj⟩; exact congrArg Value.bool (by rw [AF.JR, hI13]; simp only [Bool.true_and]; rfl)
theorem Ff (X : AH) (b : Int) (w : World) : EL Tryz.prog 159 #[.agg X.enc.toArray, .int .i64 b] w fun v w' => v = .bool (X.A8 b) ∧ B4 w w' := by
 refine Am [] [] Tryz.func159 rfl rfl rfl (St.start w []) ?_
 refine Gs ?_
 refine B3 rfl rfl rfl (fun b1 => ?_)
 refine Ga rfl (Gn (.t2 1 2) (Gs (Gm rfl (Gt (CL rfl rfl) (Gm rfl (Bh 7 rfl rfl (fun q => AE rfl) (Bh 7 rfl rfl (fun q => A6 (Bc rfl q) rfl) ?_)))))))
 refine Gt (BI rfl rfl (fun h => h)) (Gm rfl (Bh 11 rfl rfl (fun q => AE rfl) (Bh 11 rfl rfl (fun q => Ai Bi rfl) ?_)))
 refine Bh 11 rfl rfl (fun q => by have q1 := q; (try simp at q1); exact AQ Cr (Bc rfl q) (Bc rfl q) (by omega) (by omega)) ?_
 refine Bh 11 rfl rfl (fun q => Ai HX (Bc rfl q)) ?_
 refine Bh 11 rfl rfl (fun q => by have q1 := q; (try simp at q1); exact AG (Bc rfl q) DV .m0 ((AH.l2.comp (AS.ar (n := 6) Al.fl (by omega))).comp Al.l1) rfl rfl) ?_
 refine Gt (BI rfl rfl (fun h => h)) (Ga rfl (Gn (.t1 4) (Ab ?_)))
 refine AY rfl (.tmp rfl .n) ?_
 intro w1 hS; refine ⟨?_, hS.Aj⟩; rfl
theorem Mt (X : AH) (i : Int) (w : World) : EL Tryz.prog 19 #[.agg X.enc.toArray, .int .i64 i] w fun v w' => v = .tuple #[.int .i64 (X.room i).1, .bool (X.room i).2] ∧ B4 w w' := by
 refine Am [] [] Tryz.func19 rfl rfl rfl (St.start w []) ?_
 refine Gs ?_
 refine B3 rfl rfl rfl (fun b1 => ?_)
 refine Ga rfl (Ga rfl (Gn (.t2 1 2) (Gs (Ga rfl (AO (AA (B7 ?_)))))))
 refine Gm rfl (AO (AA (Ae ?_)))
 refine Bl (.t4 1 6 8 2) ?_
 refine DX (fun (k : Int) (j : Int) (o : Bool) => 0 ≤ k ∧ k ≤ 10 ∧ X.room i = X.Iu (10 - k).toNat j o) (fun (k : Int) (j : Int) (o : Bool) => (10 - k).toNat) (fun (k : Int) (j : Int) (o : Bool) => [(1, .int .i64 j), (6, .bool o), (8, .int .i64 k)]) (fun (k : Int) (j : Int) (o : Bool) => []) (0) (i) (true) ?_ rfl rfl (fun k j o hI1 => ?_)
 · exact ⟨Int.le_refl _, by omega, rfl⟩
 obtain ⟨hI11, hI12, hI13⟩ := hI1
 refine Gs (Gt (A6 rfl rfl) (AO (AA (Ap ?_))))
 refine Gc (fun c1 => ?_) (fun c1 => ?_)
 ·
  have c1p := kz c1
  rw [show (10 - k).toNat = (10 - (k + 1)).toNat + 1 from by omega, AH.Iu] at hI13
  refine Aa ?_
  refine AB (.t4 1 2 6 8) ?_
  refine AA (Ap (Ae (B7 (Gm rfl (Gt (A6 rfl rfl) (Gm rfl (BU 12 rfl rfl (fun q => AE rfl) ?_)))))))
  refine BU 12 rfl rfl (fun q => CL (cF rfl q) rfl) ?_
  refine Gt (BP rfl rfl (fun h => by rw [h]; rfl)) ?_
  refine Gn (.t5 1 2 6 8 15) ?_
  refine Gc (fun c2 => ?_) (fun c2 => ?_)
  ·
   refine Gs (Ga rfl (Ga rfl (Gn (.t2 4 5) (Ab (AD (AP (AD ?_)))))))
   refine AD (AP (AD ?_))
   refine AY rfl (.tmp rfl (.tmp rfl .n)) ?_
   intro w1 hS; refine ⟨?_, hS.Aj⟩; rw [hI13]; simp only [c1, c2, ↓reduceIte, Bool.false_eq_true]; rfl
  have c2p := kz c2
  refine Aa ?_
  refine AB (.t4 1 2 6 8) ?_
  refine AA (Gs (Gm rfl (Gt (Ai Ci rfl) ?_)))
  refine Gt (AQ Fi rfl rfl (by omega) (by omega)) ?_
  refine Gt (AZ rfl Lh .m0 (AH.l1.comp (AS.ar (n := 9) Ak.fl (by omega))) rfl) ?_
  refine BF rfl Jb rfl (fun b2 => ?_)
  refine AR (AJ (AS.id Ak.fl.len Ak.fl.one) rfl rfl rfl Lv rfl .h) ?_
  refine Gn (.t4 2 6 7 8) (B7 (Gt (Ai Ez rfl) (Gt (AG rfl A2 .m0 Ak.l2 rfl rfl) (Gn (.t5 2 6 7 8 21) (Ae (Gs (Gt (Af rfl rfl) ?_)))))))
  refine Ga rfl (Gn (.t6 2 6 7 8 21 22) ?_)
  refine Gc (fun c3 => ?_) (fun c3 => ?_)
  ·
   refine Gs (Gt (Ai Cz rfl) (Gt (AG rfl A2 .m0 Ak.l3 rfl rfl) (Gm rfl (Ga rfl (Ga rfl (Gn (.t2 4 5) (Ab ?_)))))))
   refine AP (AD (AP (AD (AD (AP (AD ?_))))))
   refine AY rfl (.tmp rfl (.tmp rfl .n)) ?_
   intro w1 hS; refine ⟨?_, hS.Aj⟩; rw [hI13]; simp only [c1, c2, c3, ↓reduceIte, Bool.false_eq_true]; rfl
  have c3p := kz c3
  refine Gs (Gt (Af rfl rfl) (Ga rfl (Gn (.t6 2 6 7 8 21 27) ?_)))
  refine Gc (fun c4 => ?_) (fun c4 => ?_)
  ·
   have c4p := kz c4
   refine B7 (Gt (Ai Cz rfl) (Gt (AG rfl A2 .m0 Ak.l3 rfl rfl) (Gt (A6 rfl rfl) (Gm rfl (BU 32 rfl rfl (fun q => Ai Cz rfl) (BU 32 rfl rfl (fun q => AG (cF rfl q) A2 .m0 Ak.l3 rfl rfl) (BU 32 rfl rfl (fun q => CL (cF rfl q) rfl) ?_)))))))
   refine Gt (BP rfl rfl (fun h => by rw [h]; rfl)) ?_
   refine Gn (.t4 2 6 7 36) ?_
   refine Gc (fun c5 => ?_) (fun c5 => ?_)
   ·
    refine Gs (Ga rfl (Ga rfl (Gn (.t2 4 5) (Ab (AD (AP (AD ?_)))))))
    refine AP (AD (AD (AP (AD ?_))))
    refine AY rfl (.tmp rfl (.tmp rfl .n)) ?_
    intro w1 hS; refine ⟨?_, hS.Aj⟩; rw [hI13]; simp only [c1, c2, c3, c4, c5, ↓reduceIte, Bool.false_eq_true]; rfl
   have c5p := kz c5
   refine Aa ?_
   refine AB (.t3 2 6 7) ?_
   refine AA (Gs (Gt (Ai Cz rfl) (Gt (AG rfl A2 .m0 Ak.l3 rfl rfl) (Gt (Ai Bi rfl) ?_))))
   refine Gt (AQ Cr rfl rfl (by omega) (by omega)) ?_
   refine Gt (Ai Cq rfl) ?_
   refine Gt (AG rfl A2 .m1 ((AH.l2.comp (AS.ar (n := 6) Al.fl (by omega))).comp Al.l3) rfl rfl) ?_
   refine Gm rfl (Ga rfl (Ga rfl (Gn (.t2 4 5) (Ab (AP (AD (AP ?_)))))))
   refine AD (AD (AP (AD ?_)))
   refine AY rfl (.tmp rfl (.tmp rfl .n)) ?_
   intro w1 hS; refine ⟨?_, hS.Aj⟩; rw [hI13]; simp only [c1, c2, c3, c4, c5, ↓reduceIte, Bool.false_eq_true]; rfl
  have c4p := kz c4
  refine Gs (Gt (Af rfl rfl) (Ga rfl (Gn (.t5 2 6 7 8 44) ?_)))
  refine Gc (fun c6 => ?_) (fun c6 => ?_)
  ·
   have c6p := kz c6
   refine Aa ?_
   refine AB (.t4 2 6 7 8) ?_
   refine AT (AA (Gs (Gt (Ai Cz rfl) (Gt (AG rfl A2 .m0 Ak.l3 rfl rfl) (Ga rfl (Gn (.t4 1 2 6 8) (Gs ?_)))))))
   refine Gm rfl (Gt (CL rfl rfl) (Gm rfl (Bh 50 rfl rfl (fun q => AE rfl) (Bh 50 rfl rfl (fun q => A6 (Bc rfl q) rfl) (Gt (BI rfl rfl (fun h => h)) (Gm rfl (Bh 54 rfl rfl (fun q => AE rfl) ?_)))))))
   refine Bh 54 rfl rfl (fun q => Ai Ci rfl) ?_
   refine Bh 54 rfl rfl (fun q => by have q1 := q; (try simp at q1); exact AQ Fi (Bc rfl q) (Bc rfl q) (by omega) (by omega)) ?_
   refine Bh 54 rfl rfl (fun q => Ai FX (Bc rfl q)) ?_
   refine Bh 54 rfl rfl (fun q => by have q1 := q; (try simp at q1); exact AG (Bc rfl q) DV .m1 ((AH.l1.comp (AS.ar (n := 9) Ak.fl (by omega))).comp Ak.l4) rfl rfl) ?_
   refine Bh 54 rfl rfl (fun q => BS (Bc rfl q)) (Gt (BI rfl rfl (fun h => h)) (Gn (.t5 1 2 6 8 61) ?_))
   refine Gc (fun c7 => ?_) (fun c7 => ?_)
   ·
    have c7p := kz c7
    refine AI (Ga rfl ?_)
    refine AO (AB (.t4 1 2 6 8) ?_)
    refine AT (AA (AI ?_))
    refine Gt (As rfl rfl (IntWalk.i64_in _ (by omega))) ?_
    refine Gm rfl ?_
    refine AO (AB (.t4 1 2 6 8) ?_)
    refine Bt (k + 1) ((X.AX.at j).at_) (false) ?_ ?_ (.t4 1 6 8 2) (.cons _ (.refl _))
    · exact ⟨by omega, by omega, by rw [hI13]; simp only [c1, c2, c3, c4, c6, c7, ↓reduceIte, Bool.false_eq_true]⟩
    · omega
   have c7p := kz c7
   refine Aa ?_
   refine AB (.t4 1 2 6 8) ?_
   refine AT (AA (AI ?_))
   refine Gt (As rfl rfl (IntWalk.i64_in _ (by omega))) ?_
   refine Gm rfl ?_
   refine AO (AB (.t4 1 2 6 8) ?_)
   refine Bt (k + 1) ((X.AX.at j).at_) (o) ?_ ?_ (.t4 1 6 8 2) (.cons _ (.refl _))
   · exact ⟨by omega, by omega, by rw [hI13]; simp only [c1, c2, c3, c4, c6, c7, ↓reduceIte, Bool.false_eq_true]⟩
   · omega
  refine Gs (Ga rfl (Ga rfl (Gn (.t2 4 5) (Ab (AP (AD (AP ?_)))))))
  refine AD (AD (AP (AD ?_)))
  refine AY rfl (.tmp rfl (.tmp rfl .n)) ?_
  intro w1 hS; refine ⟨?_, hS.Aj⟩; rw [hI13]; simp only [c1, c2, c3, c4, c6, ↓reduceIte, Bool.false_eq_true]; rfl
 have c1p := kz c1
 obtain rfl : k = 10 := by omega
 refine BX (AW (AW (Ag ?_)))
 refine AB (.nil _) ?_
 refine AA (Gs (Ga rfl (Ga rfl (AO (AA (Ab ?_))))))
 refine AY rfl (.tmp rfl (.tmp rfl .n)) ?_
 intro w1 hS; refine ⟨?_, hS.Aj⟩; rw [hI13]; rfl
theorem EC (X : AH) (r : Int) (w : World) : EL Tryz.prog 129 #[.agg X.enc.toArray, .int .i64 r] w fun v w' => v = .bool (X.Gv r) ∧ B4 w w' := by
 refine Am [] [] Tryz.func129 rfl rfl rfl (St.start w []) ?_
 refine Gs ?_
 refine B3 rfl rfl rfl (fun b1 => ?_)
 refine Ga rfl (Gn (.t2 1 2) (B7 (Gm rfl (Gt (A6 rfl rfl) (Gm rfl (BU 11 rfl rfl (fun q => AE rfl) (BU 11 rfl rfl (fun q => CL (cF rfl q) rfl) ?_)))))))
 refine Gt (BP rfl rfl (fun h => by rw [h]; rfl)) ?_
 refine Gn (.t3 1 2 14) ?_
 refine Gc (fun c1 => ?_) (fun c1 => ?_)
 ·
  refine Gs (Ga rfl (Gn (.t1 4) (Ab (AD ?_))))
  refine AY rfl (.tmp rfl .n) ?_
  intro w1 hS; refine ⟨congrArg Value.bool ?_, hS.Aj⟩; rw [show X.Gv r = _ from A9 c1]
 have c1p := kz c1
 have hr : 0 ≤ r ∧ r < 6 := by simp at c1; omega
 refine Aa ?_
 refine AB (.t2 1 2) ?_
 refine AA (B7 (Gm rfl (Gt (Ai GF rfl) ?_)))
 refine Gt (AQ M8 rfl rfl (by omega) (by omega)) ?_
 refine Gt (Ai YV rfl) ?_
 refine Gt (AG rfl DV .m0 ((AH.l0.comp (AS.ar (n := 6) Room.fl (by omega))).comp Room.l1) rfl rfl) ?_
 refine Gt (BS rfl) (Gn (.t3 1 2 20) ?_)
 refine Gc (fun c2 => ?_) (fun c2 => ?_)
 ·
  refine Gs (Ga rfl (Gn (.t1 4) (Ab (AD ?_))))
  refine AY rfl (.tmp rfl .n) ?_
  intro w1 hS; refine ⟨congrArg Value.bool ?_, hS.Aj⟩; rw [show X.Gv r = _ from (AU c1).trans (A9 c2)]
 have c2p := kz c2
 refine Aa ?_
 refine AB (.t2 1 2) ?_
 refine AA (B7 (Gt (Ai Ci rfl) (Gt (AZ rfl WL .m0 AH.l1 rfl) (Gm rfl (Gn (.t4 1 2 22 23) (Ae ?_))))))
 refine Bl (.t4 23 1 2 22) ?_
 refine CT (fun (k : Int) => 0 ≤ k ∧ k ≤ 9 ∧ B5 9 (fun i => !X.lit r i) 9 = B5 9 (fun i => !X.lit r i) (9 - k).toNat) (fun (k : Int) => (9 - k).toNat) (fun (k : Int) => [(23, .int .i64 k)]) (fun (k : Int) => []) (0) ?_ rfl rfl (fun k hI1 => ?_)
 · exact ⟨by omega, by omega, rfl⟩
 obtain ⟨hI11, hI12, hI13⟩ := hI1
 refine Gs (Gt (A6 rfl rfl) (AO (AA (Ap ?_))))
 refine Gc (fun c3 => ?_) (fun c3 => ?_)
 ·
  have c3p := kz c3
  rw [DA _ (by omega)] at hI13
  refine Aa ?_
  refine AB (.t4 1 2 22 23) ?_
  refine AA (Ap (Ae (Gs (Gm rfl ?_))))
  refine Gt (FU Ak.fl Tryz.underlying30 Lh rfl rfl (by omega) (by omega)) ?_
  refine BF rfl Jb rfl (fun b2 => ?_)
  refine Ga rfl ?_
  refine AR (AJ (AS.id Ak.fl.len Ak.fl.one) rfl rfl rfl Lv rfl .h) ?_
  refine Gn (.t6 1 2 5 6 22 23) (B7 (Gt (Ai GG rfl) (Gt (AG rfl A2 .m0 Ak.l1 rfl rfl) (Gt (CK rfl rfl) (Gm rfl (BU 30 rfl rfl (fun q => Ai FX rfl) (BU 30 rfl rfl (fun q => AG (cF rfl q) DV .m0 Ak.l4 rfl rfl) ?_)))))))
  refine BU 30 rfl rfl (fun q => BS (cF rfl q)) ?_
  refine Gt (BP rfl rfl (fun h => by rw [h]; rfl)) ?_
  refine Gn (.t6 1 2 5 22 23 34) ?_
  refine Gc (fun c4 => ?_) (fun c4 => ?_)
  ·
   have c4p := kz c4
   refine BX (AW (Ag ?_))
   refine AB (.t4 1 2 22 23) ?_
   refine AA (AI ?_)
   refine Gt (As rfl rfl (IntWalk.i64_in _ (by omega))) ?_
   refine Gm rfl ?_
   refine AO (AB (.t4 1 2 22 23) ?_)
   refine B0 (k + 1) ?_ ?_ (.t4 23 1 2 22) (.cons _ (.refl _))
   · exact ⟨by omega, by omega, by rw [hI13, show X.lit r k = false from by rw [AH.lit, c4]; first | rfl | exact Bool.and_false _]; rfl⟩
   · omega
  have c4p := kz c4
  refine Aa ?_
  refine AB (.t5 1 2 5 22 23) ?_
  refine AA (Gs (Gt (AZ rfl BT .m1 (AS.id AH.fl.len AH.fl.one) rfl) (Gm rfl ?_)))
  refine A7 rfl bI (.c rfl (.c rfl .n)) (fun w hS => Mt _ _ w) ?_
  refine Gm rfl (Gt (AK rfl rfl) (Gt (AK rfl rfl) (Ga rfl (Ga rfl (Gn (.t6 1 2 7 8 22 23) (Gs (Gm rfl ?_)))))))
  refine Gm rfl (Gt (Af rfl rfl) (Gm rfl (Bh 44 rfl rfl (fun q => AE rfl) (Gt (BI rfl rfl (fun h => h)) (Gn (.t5 1 2 22 23 46) ?_)))))
  refine Gc (fun c5 => ?_) (fun c5 => ?_)
  ·
   refine Gs (Ga rfl (Gn (.t1 4) (Ab (AP (AD (AD (AP ?_)))))))
   refine AD ?_
   refine AY rfl (.tmp rfl .n) ?_
   intro w1 hS; refine ⟨congrArg Value.bool ?_, hS.Aj⟩; rw [show X.Gv r = _ from (AU c1).trans (AU c2), hI13, show X.lit r k = true from by rw [AH.lit, c4, c5]; rfl]; rfl
  have c5p := kz c5
  refine Aa ?_
  refine AB (.t4 1 2 22 23) ?_
  refine AT (AA (AI ?_))
  refine Gt (As rfl rfl (IntWalk.i64_in _ (by omega))) ?_
  refine Gm rfl ?_
  refine AO (AB (.t4 1 2 22 23) ?_)
  refine B0 (k + 1) ?_ ?_ (.t4 23 1 2 22) (.cons _ (.refl _))
  · exact ⟨by omega, by omega, by rw [hI13, show X.lit r k = false from by rw [AH.lit, c5]; first | rfl | exact Bool.and_false _]; rfl⟩
  · omega
 have c3p := kz c3
 obtain rfl : k = 9 := by omega
 refine BX (AW (AW (Ag ?_)))
 refine AB (.nil _) ?_
 refine AA (Gs (Ga rfl (AO (AA (Ab ?_)))))
 refine AY rfl (.tmp rfl .n) ?_
 intro w1 hS; refine ⟨congrArg Value.bool ?_, hS.Aj⟩; rw [show X.Gv r = _ from (AU c1).trans (AU c2), hI13]; rfl
theorem HE (X : AH) (b : Int) (w : World) : EL Tryz.prog 160 #[.agg X.enc.toArray, .int .i64 b] w fun v w' => v = .bool (X.hidden b) ∧ B4 w w' := by
 refine Am [] [] Tryz.func160 rfl rfl rfl (St.start w []) ?_
 refine Gs ?_
 refine B3 rfl rfl rfl (fun b1 => ?_)
 refine Ga rfl (Gn (.t2 1 2) (B7 (Gt (Ai Ci rfl) (Gt (AZ rfl WL .m0 AH.l1 rfl) (Gm rfl (Gn (.t3 1 8 9) (Ae ?_)))))))
 refine Bl (.t3 9 1 8) ?_
 refine CT (fun (k : Int) => 0 ≤ k ∧ k ≤ 9 ∧ B5 9 (fun i => !X.Kg b i) 9 = B5 9 (fun i => !X.Kg b i) (9 - k).toNat) (fun (k : Int) => (9 - k).toNat) (fun (k : Int) => [(9, .int .i64 k)]) (fun (k : Int) => []) (0) ?_ rfl rfl (fun k hI1 => ?_)
 · exact ⟨by omega, by omega, rfl⟩
 obtain ⟨hI11, hI12, hI13⟩ := hI1
 refine Gs (Gt (A6 rfl rfl) (AO (AA (Ap ?_))))
 refine Gc (fun c1 => ?_) (fun c1 => ?_)
 ·
  have c1p := kz c1
  rw [DA _ (by omega)] at hI13
  refine Aa ?_
  refine AB (.t3 1 8 9) ?_
  refine AA (Ap (Ae (Gs ?_)))
  refine Gt (FU Ak.fl Tryz.underlying30 Lh rfl rfl (by omega) (by omega)) ?_
  refine BF rfl Jb rfl (fun b2 => ?_)
  refine AR (AJ (AS.id Ak.fl.len Ak.fl.one) rfl rfl rfl Lv rfl .h) ?_
  refine Gn (.t4 1 6 8 9) (Gs (Gt (Ai GG rfl) (Gt (AG rfl A2 .m0 Ak.l1 rfl rfl) (Gt (Af rfl rfl) (Gm rfl (Bh 15 rfl rfl (fun q => Ai FX rfl) (Bh 15 rfl rfl (fun q => AG (Bc rfl q) DV .m0 Ak.l4 rfl rfl) ?_)))))))
  refine Gt (BI rfl rfl (fun h => h)) (Gm rfl (Bh 19 rfl rfl (fun q => Ai Ez rfl) (Bh 19 rfl rfl (fun q => AG (Bc rfl q) A2 .m0 Ak.l2 rfl rfl) (Bh 19 rfl rfl (fun q => Af (Bc rfl q) rfl) (Gt (BI rfl rfl (fun h => h)) (Gm rfl (Bh 24 rfl rfl (fun q => Ai Cz rfl) ?_)))))))
  refine Bh 24 rfl rfl (fun q => AG (Bc rfl q) A2 .m0 Ak.l3 rfl rfl) (Bh 24 rfl rfl (fun q => AE rfl) (Bh 24 rfl rfl (fun q => Af (Bc rfl q) (Bc rfl q)) (Gt (BI rfl rfl (fun h => h)) (Gn (.t4 1 8 9 29) ?_))))
  refine Gc (fun c2 => ?_) (fun c2 => ?_)
  ·
   refine Gs (Ga rfl (Gn (.t1 4) (Ab (AP (AD (AD (AP ?_)))))))
   refine AD ?_
   refine AY rfl (.tmp rfl .n) ?_
   intro w1 hS; refine ⟨congrArg Value.bool ?_, hS.Aj⟩; rw [AH.hidden, hI13, show X.Kg b k = true from c2]; rfl
  have c2p := kz c2
  refine Aa ?_
  refine AB (.t3 1 8 9) ?_
  refine AT (AA (AI ?_))
  refine Gt (As rfl rfl (IntWalk.i64_in _ (by omega))) ?_
  refine Gm rfl ?_
  refine AO (AB (.t3 1 8 9) ?_)
  refine B0 (k + 1) ?_ ?_ (.t3 9 1 8) (.cons _ (.refl _))
  · exact ⟨by omega, by omega, by rw [hI13, show X.Kg b k = false from c2]; rfl⟩
  · omega
 have c1p := kz c1
 obtain rfl : k = 9 := by omega
 refine BX (AW (AW (Ag ?_)))
 refine AB (.nil _) ?_
 refine AA (Gs (Ga rfl (AO (AA (Ab ?_)))))
 refine AY rfl (.tmp rfl .n) ?_
 intro w1 hS; refine ⟨congrArg Value.bool ?_, hS.Aj⟩; rw [AH.hidden, hI13]; rfl
theorem C5 (X : AH) (a b : Int) (w : World) : EL Tryz.prog 130 #[.agg X.enc.toArray, .int .i64 a, .int .i64 b] w fun v w' => v = .bool (X.Hw a b) ∧ B4 w w' := by
 refine Am [] [] Tryz.func130 rfl rfl rfl (St.start w []) ?_
 refine Gs ?_
 refine B3 rfl rfl rfl (fun b1 => ?_)
 refine Ga rfl (Gn (.t3 1 2 3) (B7 (Gt (AZ rfl BT .m0 (AS.id AH.fl.len AH.fl.one) rfl) (Gm rfl ?_))))
 refine A7 rfl U4 (.c rfl (.c rfl .n)) (fun w hS => Ff _ _ w) ?_
 refine Gt (BS rfl) (Gm rfl (BU 13 rfl rfl (fun q => AZ rfl BT .m0 (AS.id AH.fl.len AH.fl.one) rfl) (BU 13 rfl rfl (fun q => AE rfl) ?_)))
 refine P6 (t := 13) rfl rfl rfl (fun q => by have q1 := q; (try simp at q1); exact Dp U4 (.c (cF rfl q) (.c (cF rfl q) .n)) (fun w hS => Ff _ _ w)) ?_
 refine BU 13 rfl rfl (fun q => BS (cF rfl q)) ?_
 refine Gt (BP rfl rfl (fun h => by rw [h]; rfl)) ?_
 refine Gn (.t4 1 2 3 18) ?_
 refine Gc (fun c1 => ?_) (fun c1 => ?_)
 ·
  refine Gs (Ga rfl (Gn (.t1 6) (Ab (AD ?_))))
  refine AY rfl (.tmp rfl .n) ?_
  intro w1 hS; refine ⟨congrArg Value.bool ?_, hS.Aj⟩; rw [show X.Hw a b = _ from (A9 c1)]
 have c1p := kz c1
 have hr : (0 ≤ a ∧ a < 6) ∧ 0 ≤ b ∧ b < 6 := by simp at c1; have h1 := AH.JQ c1.1; have h2 := AH.JQ c1.2; omega
 refine Aa ?_
 refine AB (.t3 1 2 3) ?_
 refine AA (B7 (Gm rfl (Gm rfl (Gt (Af rfl rfl) (Gn (.t4 1 2 3 21) ?_)))))
 refine Gc (fun c2 => ?_) (fun c2 => ?_)
 ·
  refine Gs (Ga rfl (Gn (.t1 6) (Ab (AD ?_))))
  refine AY rfl (.tmp rfl .n) ?_
  intro w1 hS; refine ⟨congrArg Value.bool ?_, hS.Aj⟩; rw [show X.Hw a b = _ from ((AU c1).trans (A9 c2))]
 have c2p := kz c2
 refine Aa ?_
 refine AB (.t3 1 2 3) ?_
 refine AA (Ap ?_)
 refine BD (N := 12) [0, 0, 3, 7, 0, 0, 48, 112, 0, 0, 783, 2047] mix (by kernel_rfl) rfl ?_
 refine Pf 0 rfl (AE rfl) (Pf 1 rfl (Ai Bi rfl) ?_)
 refine Pf 2 rfl (AQ Cr rfl rfl (by omega) (by omega)) ?_
 refine Pf 3 rfl (AZ rfl E8 .m0 (AH.l2.comp (AS.ar (n := 6) Al.fl (by omega))) rfl) ?_
 refine Pf 4 rfl (AE rfl) (Pf 5 rfl (Ai Bi rfl) ?_)
 refine Pf 6 rfl (AQ Cr rfl rfl (by omega) (by omega)) ?_
 refine Pf 7 rfl (AZ rfl E8 .m0 (AH.l2.comp (AS.ar (n := 6) Al.fl (by omega))) rfl) ?_
 refine Io 8 9 rfl rfl (by kernel_rfl) ?_ ?_
 ·
  refine BF rfl Kv rfl (fun b2 => ?_)
  refine Bo rfl ⟨?_, ?_⟩
  · exact (Po rfl (AZ rfl E8 .m1 (AH.l2.comp (AS.ar (n := 6) Al.fl (by omega))) rfl) rfl rfl (Po rfl (AQ Cr rfl rfl (by omega) (by omega)) rfl rfl (Po rfl (Ai Bi rfl) rfl rfl (Po rfl (AE rfl) rfl rfl (Po rfl (AZ rfl E8 .m1 (AH.l2.comp (AS.ar (n := 6) Al.fl (by omega))) rfl) rfl rfl (Po rfl (AQ Cr rfl rfl (by omega) (by omega)) rfl rfl (Po rfl (Ai Bi rfl) rfl rfl (Po rfl (AE rfl) rfl rfl Ar))))))))
  refine An 9 rfl (by kernel_rfl) ?_
  refine BF rfl Kv rfl (fun b3 => ?_)
  refine Bo rfl ⟨?_, ?_⟩
  · exact (Po rfl (AZ rfl E8 .m2 (AH.l2.comp (AS.ar (n := 6) Al.fl (by omega))) rfl) rfl rfl (Po rfl (AQ Cr rfl rfl (by omega) (by omega)) rfl rfl (Po rfl (Ai Bi rfl) rfl rfl (Po rfl (AE rfl) rfl rfl (Po rfl (AZ rfl E8 .m2 (AH.l2.comp (AS.ar (n := 6) Al.fl (by omega))) rfl) rfl rfl (Po rfl (AQ Cr rfl rfl (by omega) (by omega)) rfl rfl (Po rfl (Ai Bi rfl) rfl rfl (Po rfl (AE rfl) rfl rfl Ar))))))))
  refine An 10 rfl (by kernel_rfl) ?_
  refine AR (AJ (AS.id Al.fl.len Al.fl.one) rfl rfl rfl Jg rfl (.t .h)) ?_
  refine BK rfl ⟨?_, ?_⟩
  · exact (Po rfl (AZ rfl E8 .m2 (AH.l2.comp (AS.ar (n := 6) Al.fl (by omega))) rfl) rfl rfl (Po rfl (AQ Cr rfl rfl (by omega) (by omega)) rfl rfl (Po rfl (Ai Bi rfl) rfl rfl (Po rfl (AE rfl) rfl rfl (Pk (Pk (Pk (Pk Ar))))))))
  refine An 11 rfl (by kernel_rfl) ?_
  refine AR (AJ (AS.id Al.fl.len Al.fl.one) rfl rfl rfl Jg rfl .h) ?_
  refine BK rfl ⟨?_, ?_⟩
  · exact (Pk (Pk (Pk (Pk (Pk (Pk (Pk (Pk Ar))))))))
  refine A1 (by kernel_rfl) ?_
  refine AB (.t4 2 3 7 8) ?_
  refine AA (Gs (Gt (Ai Cq rfl) (Gt (AG rfl A2 .m1 Al.l3 rfl rfl) (Gt (Ai Cq rfl) (Gt (AG rfl A2 .m0 Al.l3 rfl rfl) (Gt (Af rfl rfl) (Gm rfl ?_)))))))
  refine Bh 35 rfl rfl (fun q => AZ rfl BT .m2 (AS.id AH.fl.len AH.fl.one) rfl) (Bh 35 rfl rfl (fun q => Ai Cq rfl) (Bh 35 rfl rfl (fun q => AG (Bc rfl q) A2 .m1 Al.l3 rfl rfl) ?_))
  refine LY (t := 35) rfl rfl rfl (fun q => Dp S0 (.c (Bc rfl q) (.c (Bc rfl q) .n)) (fun w hS => EC _ _ w)) ?_
  refine Gt (BI rfl rfl (fun h => h)) (Gm rfl (Bh 41 rfl rfl (fun q => Ai Vw rfl) (Bh 41 rfl rfl (fun q => AG (Bc rfl q) DV .m1 Al.l2 rfl rfl) (Bh 41 rfl rfl (fun q => AE (Bc rfl q)) ?_))))
  refine Cp (t := 44) rfl rfl rfl (fun qc q => AZ rfl BT .m2 (AS.id AH.fl.len AH.fl.one) rfl) ?_
  refine Cp (t := 44) rfl rfl rfl (fun qc q => AE rfl) ?_
  refine SX (t := 44) rfl rfl rfl (fun qc q => by have q1 := q; have qc1 := qc; (try simp at q1 qc1); exact Dp Xs (.c (Bc rfl (by rw [qc, q]; rfl)) (.c (Bc rfl (by rw [qc, q]; rfl)) .n)) (fun w hS => HE _ _ w)) ?_
  refine Cp (t := 44) rfl rfl rfl (fun qc q => BS (Bc rfl (by rw [qc, q]; rfl))) ?_
  refine Bh 41 rfl rfl (fun q => BP (Bc rfl q) rfl (fun h => by rw [q, h]; rfl)) ?_
  refine Gt (BI rfl rfl (fun h => h)) (Ga rfl (Gn (.t1 6) (Ab ?_)))
  refine AY rfl (.tmp rfl .n) ?_
  intro w1 hS; refine ⟨congrArg Value.bool ?_, hS.Aj⟩; rw [show X.Hw a b = _ from ((AU c1).trans (AU c2))]
 ·
  refine BF rfl Kv rfl (fun b4 => ?_)
  refine Bo rfl ⟨?_, ?_⟩
  · exact (Po rfl (AZ rfl E8 .m1 (AH.l2.comp (AS.ar (n := 6) Al.fl (by omega))) rfl) rfl rfl (Po rfl (AQ Cr rfl rfl (by omega) (by omega)) rfl rfl (Po rfl (Ai Bi rfl) rfl rfl (Po rfl (AE rfl) rfl rfl (Po rfl (AZ rfl E8 .m1 (AH.l2.comp (AS.ar (n := 6) Al.fl (by omega))) rfl) rfl rfl (Po rfl (AQ Cr rfl rfl (by omega) (by omega)) rfl rfl (Po rfl (Ai Bi rfl) rfl rfl (Po rfl (AE rfl) rfl rfl Ar))))))))
  refine An 8 rfl (by kernel_rfl) ?_
  refine BF rfl Kv rfl (fun b5 => ?_)
  refine Bo rfl ⟨?_, ?_⟩
  · exact (Po rfl (AZ rfl E8 .m2 (AH.l2.comp (AS.ar (n := 6) Al.fl (by omega))) rfl) rfl rfl (Po rfl (AQ Cr rfl rfl (by omega) (by omega)) rfl rfl (Po rfl (Ai Bi rfl) rfl rfl (Po rfl (AE rfl) rfl rfl (Po rfl (AZ rfl E8 .m2 (AH.l2.comp (AS.ar (n := 6) Al.fl (by omega))) rfl) rfl rfl (Po rfl (AQ Cr rfl rfl (by omega) (by omega)) rfl rfl (Po rfl (Ai Bi rfl) rfl rfl (Po rfl (AE rfl) rfl rfl Ar))))))))
  refine An 10 rfl (by kernel_rfl) ?_
  refine AR (AJ (AS.id Al.fl.len Al.fl.one) rfl rfl rfl Jg rfl .h) ?_
  refine BK rfl ⟨?_, ?_⟩
  · exact (Po rfl (AZ rfl E8 .m2 (AH.l2.comp (AS.ar (n := 6) Al.fl (by omega))) rfl) rfl rfl (Po rfl (AQ Cr rfl rfl (by omega) (by omega)) rfl rfl (Po rfl (Ai Bi rfl) rfl rfl (Po rfl (AE rfl) rfl rfl (Pk (Pk (Pk (Pk Ar))))))))
  refine An 11 rfl (by kernel_rfl) ?_
  refine AR (AJ (AS.id Al.fl.len Al.fl.one) rfl rfl rfl Jg rfl (.t .h)) ?_
  refine BK rfl ⟨?_, ?_⟩
  · exact (Pk (Pk (Pk (Pk (Pk (Pk (Pk (Pk Ar))))))))
  refine A1 (by kernel_rfl) ?_
  refine AB (.t4 2 3 7 8) ?_
  refine AA (Gs (Gt (Ai Cq rfl) (Gt (AG rfl A2 .m0 Al.l3 rfl rfl) (Gt (Ai Cq rfl) (Gt (AG rfl A2 .m1 Al.l3 rfl rfl) (Gt (Af rfl rfl) (Gm rfl ?_)))))))
  refine Bh 35 rfl rfl (fun q => AZ rfl BT .m2 (AS.id AH.fl.len AH.fl.one) rfl) (Bh 35 rfl rfl (fun q => Ai Cq rfl) (Bh 35 rfl rfl (fun q => AG (Bc rfl q) A2 .m0 Al.l3 rfl rfl) ?_))
  refine LY (t := 35) rfl rfl rfl (fun q => Dp S0 (.c (Bc rfl q) (.c (Bc rfl q) .n)) (fun w hS => EC _ _ w)) ?_
  refine Gt (BI rfl rfl (fun h => h)) (Gm rfl (Bh 41 rfl rfl (fun q => Ai Vw rfl) (Bh 41 rfl rfl (fun q => AG (Bc rfl q) DV .m0 Al.l2 rfl rfl) (Bh 41 rfl rfl (fun q => AE (Bc rfl q)) ?_))))
  refine Cp (t := 44) rfl rfl rfl (fun qc q => AZ rfl BT .m2 (AS.id AH.fl.len AH.fl.one) rfl) ?_
  refine Cp (t := 44) rfl rfl rfl (fun qc q => AE rfl) ?_
  refine SX (t := 44) rfl rfl rfl (fun qc q => by have q1 := q; have qc1 := qc; (try simp at q1 qc1); exact Dp Xs (.c (Bc rfl (by rw [qc, q]; rfl)) (.c (Bc rfl (by rw [qc, q]; rfl)) .n)) (fun w hS => HE _ _ w)) ?_
  refine Cp (t := 44) rfl rfl rfl (fun qc q => BS (Bc rfl (by rw [qc, q]; rfl))) ?_
  refine Bh 41 rfl rfl (fun q => BP (Bc rfl q) rfl (fun h => by rw [q, h]; rfl)) ?_
  refine Gt (BI rfl rfl (fun h => h)) (Ga rfl (Gn (.t1 6) (Ab ?_)))
  refine AY rfl (.tmp rfl .n) ?_
  intro w1 hS; refine ⟨congrArg Value.bool ?_, hS.Aj⟩; rw [show X.Hw a b = _ from ((AU c1).trans (AU c2))]
theorem L1 (k : Int) (w : World) : EL Tryz.prog 173 #[.int .i64 k] w fun v w' => v = .bool (AH.Ze k) ∧ B4 w w' := by
 refine Am [] [] Tryz.func173 rfl rfl rfl (St.start w []) ?_
 refine Gs (Ga rfl (Gn (.t1 0) (Gs (Gm rfl (Gt (Af rfl rfl) (Gm rfl (BU 5 rfl rfl (fun q => AE rfl) ?_)))))))
 refine BU 5 rfl rfl (fun q => Af (cF rfl q) rfl) ?_
 refine Gt (BP rfl rfl (fun h => by rw [h]; rfl)) ?_
 refine Gm rfl (BU 9 rfl rfl (fun q => AE rfl) (BU 9 rfl rfl (fun q => Af (cF rfl q) rfl) ?_))
 refine Gt (BP rfl rfl (fun h => by rw [h]; rfl)) ?_
 refine Ga rfl (Gn (.t1 2) (Ab ?_))
 refine AY rfl (.tmp rfl .n) ?_
 intro w1 hS; refine ⟨?_, hS.Aj⟩; rfl
theorem JE (X : AH) (b : Int) (e : Ing.Event) (w : World) : EL Tryz.prog 157 #[.agg X.enc.toArray, .int .i64 b, .agg e.enc.toArray] w fun v w' => v = .int .i64 (X.DW b e) ∧ B4 w w' := by
 refine Am [] [] Tryz.func157 rfl rfl rfl (St.start w []) ?_
 refine Gs ?_
 refine B3 rfl rfl rfl (fun b1 => ?_)
 refine B3 rfl rfl rfl (fun b2 => ?_)
 refine Ga rfl (Gn (.t3 1 3 5) (Ap (Ae (Gs (Gt (AZ rfl BT .m1 (AS.id AH.fl.len AH.fl.one) rfl) (Gm rfl ?_))))))
 refine A7 rfl U4 (.c rfl (.c rfl .n)) (fun w hS => Ff _ _ w) ?_
 refine Gt (BS rfl) (Ga rfl (Gn (.t4 1 3 5 8) ?_))
 refine Gc (fun c1 => ?_) (fun c1 => ?_)
 ·
  refine Gs (Ga rfl (Gn (.t1 6) (Ab (AP (AD ?_)))))
  refine AY rfl (.tmp rfl .n) ?_
  intro w1 hS; refine ⟨?_, hS.Aj⟩; rw [show X.DW b e = _ from (A9 c1)]; rfl
 have c1p := kz c1
 have hr : 0 ≤ b ∧ b < 6 := by simp at c1; have h1 := AH.JQ c1; omega
 refine Gs (Gm rfl (Gt (Ai Ow rfl) (Gt (AG rfl A2 .m0 Ing.Event.l2 rfl rfl) (Gt (Af rfl rfl) (Ga rfl (Gn (.t4 1 3 5 13) ?_))))))
 refine Gc (fun c2 => ?_) (fun c2 => ?_)
 ·
  refine B7 (Gt (Ai GC rfl) (Gt (AG rfl A2 .m0 Ing.Event.l3 rfl rfl) (Gt (A6 rfl rfl) (Gm rfl (BU 21 rfl rfl (fun q => Ai GC rfl) (BU 21 rfl rfl (fun q => AG (cF rfl q) A2 .m0 Ing.Event.l3 rfl rfl) (BU 21 rfl rfl (fun q => CL (cF rfl q) rfl) ?_)))))))
  refine Gt (BP rfl rfl (fun h => by rw [h]; rfl)) ?_
  refine Gm rfl (BU 26 rfl rfl (fun q => AZ rfl BT .m1 (AS.id AH.fl.len AH.fl.one) rfl) (BU 26 rfl rfl (fun q => AE rfl) (BU 26 rfl rfl (fun q => Ai GC rfl) (BU 26 rfl rfl (fun q => AG (cF rfl q) A2 .m0 Ing.Event.l3 rfl rfl) ?_))))
  refine P6 (t := 26) rfl rfl rfl (fun q => by have q1 := q; (try simp at q1); exact Dp Me (.c (cF rfl q) (.c (cF rfl q) (.c (cF rfl q) .n))) (fun w hS => C5 _ _ _ w)) ?_
  refine Gt (BP rfl rfl (fun h => by rw [h]; rfl)) ?_
  refine Gn (.t1 32) ?_
  refine Gc (fun c3 => ?_) (fun c3 => ?_)
  ·
   refine Gs (Ga rfl (Gn (.t1 6) (Ab (AD (AP (AD ?_))))))
   refine AY rfl (.tmp rfl .n) ?_
   intro w1 hS; refine ⟨?_, hS.Aj⟩; rw [show X.DW b e = _ from ((AU c1).trans ((A9 c2).trans (A9 c3)))]; rfl
  refine Aa ?_
  refine AB (.nil _) ?_
  refine AA (Gs (Ga rfl (AO (AA (Ab (AP (AD ?_)))))))
  refine AY rfl (.tmp rfl .n) ?_
  intro w1 hS; refine ⟨?_, hS.Aj⟩; rw [show X.DW b e = _ from ((AU c1).trans ((A9 c2).trans (AU c3)))]; rfl
 have c2p := kz c2
 refine Ap ?_
 refine BD (N := 14) [0, 1, 3, 7, 15, 15, 63, 127, 255, 15, 527, 2047, 4095, 8191] mix (by kernel_rfl) rfl ?_
 refine Pf 0 rfl (Ai SQ rfl) (Pf 1 rfl (AG rfl A2 .m0 Ing.Event.l0 rfl rfl) (Pf 2 rfl (Af rfl rfl) (Pf 3 rfl (AE rfl) (G1 4 37 rfl rfl rfl (fun q => AE rfl) (G1 5 37 rfl rfl rfl (fun q => Ai Bi rfl) ?_)))))
 refine BV 6 rfl rfl (by kernel_rfl) (GN (t := 37) rfl rfl (fun q => by have q1 := q; (try simp at q1); exact H3 (AQ Cr (cF rfl q) (cF rfl q) (by omega) (by omega)))) ?_
 refine G1 7 37 rfl rfl rfl (fun q => Ai Cq (cF rfl q)) ?_
 refine BV 8 rfl rfl (by kernel_rfl) (GN (t := 37) rfl rfl (fun q => by have q1 := q; (try simp at q1); exact H3 (AG (cF rfl q) A2 .m1 ((AH.l2.comp (AS.ar (n := 6) Al.fl (by omega))).comp Al.l3) rfl rfl))) ?_
 refine G1 9 37 rfl rfl rfl (fun q => Ai Un rfl) (G1 10 37 rfl rfl rfl (fun q => AG (cF rfl q) A2 .m0 Ing.Event.l1 rfl rfl) (G1 11 37 rfl rfl rfl (fun q => CK (cF rfl q) (cF rfl q)) ?_))
 refine Pf 12 rfl (BP rfl rfl (fun h => by rw [h]; rfl)) ?_
 refine Pf 13 rfl (Ay rfl) ?_
 refine A1 (by kernel_rfl) ?_
 refine AB (.t4 1 3 5 33) ?_
 refine AA ?_
 refine Gc (fun c4 => ?_) (fun c4 => ?_)
 ·
  refine Gs (Ga rfl (Gn (.t1 6) (Ab (AP (AD ?_)))))
  refine AY rfl (.tmp rfl .n) ?_
  intro w1 hS; refine ⟨?_, hS.Aj⟩; rw [show X.DW b e = _ from ((AU c1).trans ((AU c2).trans (A9 c4)))]; rfl
 have c4p := kz c4
 refine Aa ?_
 refine AB (.t3 1 3 5) ?_
 refine AT (AA (Gs (Ga rfl (AO (AA (B7 (Gt (AZ rfl BT .m1 (AS.id AH.fl.len AH.fl.one) rfl) ?_)))))))
 refine Gm rfl (Gt (Ai Ow rfl) (Gt (AG rfl A2 .m0 Ing.Event.l2 rfl rfl) ?_))
 refine A7 rfl Me (.c rfl (.c rfl (.c rfl .n))) (fun w hS => C5 _ _ _ w) ?_
 refine Gt (BS rfl) (Gn (.t5 1 3 5 7 52) ?_)
 refine Gc (fun c5 => ?_) (fun c5 => ?_)
 ·
  have c5p := kz c5
  refine B7 (Gt (Ai SQ rfl) (Gt (AG rfl A2 .m0 Ing.Event.l0 rfl rfl) ?_))
  refine A7 rfl Zl (.c rfl .n) (fun w hS => L1 _ w) ?_
  refine Gt (BS rfl) (Gn (.t5 1 3 5 7 56) ?_)
  refine Gc (fun c6 => ?_) (fun c6 => ?_)
  ·
   refine Gs (Ga rfl (Gn (.t1 6) (Ab (AD (AD ?_)))))
   refine AY rfl (.tmp rfl .n) ?_
   intro w1 hS; refine ⟨?_, hS.Aj⟩; rw [show X.DW b e = _ from ((AU c1).trans ((AU c2).trans ((AU c4).trans ((A9 c5).trans (A9 c6)))))]; rfl
  have c6p := kz c6
  refine Aa ?_
  refine AB (.t4 1 3 5 7) ?_
  refine AA (AI (Gm rfl ?_))
  refine Gt (As rfl rfl (IntWalk.i64_in _ (by omega))) ?_
  refine Ga rfl (Gn (.t4 1 3 5 7) (B7 (Gt (Ai GC rfl) (Gt (AG rfl A2 .m0 Ing.Event.l3 rfl rfl) (Gt (CL rfl rfl) (Gm rfl (Bh 62 rfl rfl (fun q => Ai GC rfl) ?_)))))))
  refine Bh 62 rfl rfl (fun q => AG (Bc rfl q) A2 .m0 Ing.Event.l3 rfl rfl) (Bh 62 rfl rfl (fun q => A6 (Bc rfl q) rfl) (Gt (BI rfl rfl (fun h => h)) (Gm rfl (Bh 67 rfl rfl (fun q => AZ rfl BT .m1 (AS.id AH.fl.len AH.fl.one) rfl) (Bh 67 rfl rfl (fun q => AE rfl) (Bh 67 rfl rfl (fun q => Ai GC rfl) (Bh 67 rfl rfl (fun q => AG (Bc rfl q) A2 .m0 Ing.Event.l3 rfl rfl) ?_)))))))
  refine LY (t := 67) rfl rfl rfl (fun q => Dp Me (.c (Bc rfl q) (.c (Bc rfl q) (.c (Bc rfl q) .n))) (fun w hS => C5 _ _ _ w)) ?_
  refine Bh 67 rfl rfl (fun q => BS (Bc rfl q)) (Gt (BI rfl rfl (fun h => h)) (Gn (.t2 7 74) ?_))
  refine Gc (fun c7 => ?_) (fun c7 => ?_)
  ·
   have c7p := kz c7
   refine AI (Gm rfl ?_)
   refine Gt (As rfl rfl (IntWalk.i64_in _ (by omega))) ?_
   refine Ga rfl (Gn (.t1 7) (Gs (Gm rfl (Ga rfl (Gn (.t1 6) (Ab ?_))))))
   refine AY rfl (.tmp rfl .n) ?_
   intro w1 hS; refine ⟨?_, hS.Aj⟩; rw [show X.DW b e = _ from ((AU c1).trans ((AU c2).trans ((AU c4).trans ((A9 c5).trans ((AU c6).trans (A9 c7))))))]; rfl
  refine Aa ?_
  refine AB (.t1 7) ?_
  refine AA (Gs (Gm rfl (Ga rfl (Gn (.t1 6) (Ab ?_)))))
  refine AY rfl (.tmp rfl .n) ?_
  intro w1 hS; refine ⟨?_, hS.Aj⟩; rw [show X.DW b e = _ from ((AU c1).trans ((AU c2).trans ((AU c4).trans ((A9 c5).trans ((AU c6).trans (AU c7))))))]; rfl
 have c5p := kz c5
 refine Aa ?_
 refine AB (.t4 1 3 5 7) ?_
 refine AA (B7 (Gt (Ai GC rfl) (Gt (AG rfl A2 .m0 Ing.Event.l3 rfl rfl) (Gt (CL rfl rfl) (Gm rfl (Bh 62 rfl rfl (fun q => Ai GC rfl) (Bh 62 rfl rfl (fun q => AG (Bc rfl q) A2 .m0 Ing.Event.l3 rfl rfl) ?_)))))))
 refine Bh 62 rfl rfl (fun q => A6 (Bc rfl q) rfl) (Gt (BI rfl rfl (fun h => h)) (Gm rfl (Bh 67 rfl rfl (fun q => AZ rfl BT .m1 (AS.id AH.fl.len AH.fl.one) rfl) (Bh 67 rfl rfl (fun q => AE rfl) (Bh 67 rfl rfl (fun q => Ai GC rfl) (Bh 67 rfl rfl (fun q => AG (Bc rfl q) A2 .m0 Ing.Event.l3 rfl rfl) ?_))))))
 refine LY (t := 67) rfl rfl rfl (fun q => Dp Me (.c (Bc rfl q) (.c (Bc rfl q) (.c (Bc rfl q) .n))) (fun w hS => C5 _ _ _ w)) ?_
 refine Bh 67 rfl rfl (fun q => BS (Bc rfl q)) (Gt (BI rfl rfl (fun h => h)) (Gn (.t2 7 74) ?_))
 refine Gc (fun c8 => ?_) (fun c8 => ?_)
 ·
  have c8p := kz c8
  refine AI (Gm rfl ?_)
  refine Gt (As rfl rfl (IntWalk.i64_in _ (by omega))) ?_
  refine Ga rfl (Gn (.t1 7) (Gs (Gm rfl (Ga rfl (Gn (.t1 6) (Ab ?_))))))
  refine AY rfl (.tmp rfl .n) ?_
  intro w1 hS; refine ⟨?_, hS.Aj⟩; rw [show X.DW b e = _ from ((AU c1).trans ((AU c2).trans ((AU c4).trans ((AU c5).trans (A9 c8)))))]; rfl
 refine Aa ?_
 refine AB (.t1 7) ?_
 refine AA (Gs (Gm rfl (Ga rfl (Gn (.t1 6) (Ab ?_)))))
 refine AY rfl (.tmp rfl .n) ?_
 intro w1 hS; refine ⟨?_, hS.Aj⟩; rw [show X.DW b e = _ from ((AU c1).trans ((AU c2).trans ((AU c4).trans ((AU c5).trans (AU c8)))))]; rfl
theorem Iv (X : AH) (e : Ing.Event) (w : World) : EL Tryz.prog 123 #[.agg X.enc.toArray, .agg e.enc.toArray] w fun v w' => v = .agg (X.G7 e 6).enc.toArray ∧ B4 w w' := by
 refine Am [] [] Tryz.func123 rfl rfl rfl (St.start w []) ?_
 refine Gs ?_
 refine B3 rfl rfl rfl (fun b1 => ?_)
 refine B3 rfl rfl rfl (fun b2 => ?_)
 refine BF rfl Hk rfl (fun b3 => ?_)
 refine Gn (.t3 2 3 4) (B7 (Gm rfl (AO (AA (Ae ?_)))))
 refine Bl (.t4 6 2 3 4) ?_
 refine BZ (.t .h) ?_
 refine CT (fun (k : Int) => 0 ≤ k ∧ k ≤ 6) (fun (k : Int) => (6 - k).toNat) (fun (k : Int) => [(6, .int .i64 k)]) (fun (k : Int) => [Ad.box b2 56 (Ing.Event.enc (X.G7 e k.toNat))]) (0) ?_ rfl rfl (fun k hI1 => ?_)
 · exact ⟨Int.le_refl _, by omega⟩
 obtain ⟨hI11, hI12⟩ := hI1
 refine Gs (Gt (A6 rfl rfl) (AO (AA (Ap ?_))))
 refine Gc (fun c1 => ?_) (fun c1 => ?_)
 ·
  have c1p := kz c1
  refine Aa ?_
  refine AB (.t4 2 3 4 6) ?_
  refine AA (Ap (Ae (Gs (Gm rfl (Ga rfl (Gn (.t5 2 3 4 5 6) (AI ?_)))))))
  refine Gm rfl (Gt (AZ rfl BT .m2 (AS.id AH.fl.len AH.fl.one) rfl) (Gm rfl (Gt (AZ rfl NG .m0 (AS.id Ing.Event.fl.len Ing.Event.fl.one) rfl) ?_)))
  refine A7 rfl Yr (.c rfl (.c rfl (.c rfl .n))) (fun w hS => JE _ _ _ w) ?_
  refine Gt (Ai MK rfl) ?_
  refine Gt (AQ Qg rfl rfl (by omega) (by omega)) ?_
  refine AR (AJ (Ing.Event.l10.comp (AS.ar (n := 6) Bw (by omega))) rfl rfl rfl Cy rfl .h) ?_
  refine AO (AB (.t4 2 3 4 6) ?_)
  refine AT (AA (AI ?_))
  refine Gt (As rfl rfl (IntWalk.i64_in _ (by omega))) ?_
  refine Gm rfl ?_
  refine AO (AB (.t4 2 3 4 6) ?_)
  refine B0 (k + 1) ?_ ?_ (.t4 6 2 3 4) (by rw [AH.Ts (by omega)]; exact (.refl _))
  · exact ⟨by omega, by omega⟩
  · omega
 have c1p := kz c1
 obtain rfl : k = 6 := by omega
 refine BX (AW (AW (Ag ?_)))
 refine AB (.t2 3 4) ?_
 refine AA (Gs (Gt (AZ rfl NG .m0 (AS.id Ing.Event.fl.len Ing.Event.fl.one) rfl) ?_))
 refine AR (AJ (AS.id Ing.Event.fl.len Ing.Event.fl.one) rfl rfl rfl Mn rfl (.t .h)) ?_
 refine Gn (.t1 4) (Ab ?_)
 refine AY rfl (.cell rfl .m1 (.inl ⟨(by rw [Ing.Event.fl.len]; exact NG), rfl⟩) .n) ?_
 intro w1 hS; refine ⟨?_, hS.Aj⟩; rfl
theorem CC (b : Nat) (T : AF) (g : Hd) (e : Ing.Event) (hg : g.len = T.out.length) (hb : 0 ≤ T.b ∧ T.b < 6) (ho : e.other < 6) (hn : T.out.length ≤ 100000) : JU Tryz.prog 96 #[.pointer (some ⟨b, 0, none⟩), .agg e.enc.toArray] [Ad.box b 163 (Ac.enc ⟨T.w, T.b, g⟩), Ad.own g 56 16 (T.out.flatMap Ing.Event.enc)] (fun v B => ∃ g' : Hd, v = .tuple #[] ∧ g'.len = (T.Bj e).out.length ∧ B = [Ad.box b 163 (Ac.enc ⟨(T.Bj e).w, (T.Bj e).b, g'⟩), Ad.own g' 56 16 ((T.Bj e).out.flatMap Ing.Event.enc)]) := by
 intro w hS0
 refine Am _ _ Tryz.func96 rfl rfl rfl (hS0) ?_
 refine Gs ?_
 refine B3 rfl rfl rfl (fun b1 => ?_)
 refine Gn (.t2 0 3) (Ap ?_)
 refine BD (N := 12) [0, 0, 2, 6, 14, 1, 33, 97, 255, 511, 0, 2047] mix (by kernel_rfl) rfl ?_
 refine Pf 0 rfl (AE rfl) (Pf 1 rfl (AE rfl) (Pf 2 rfl (BR rfl) (Pf 3 rfl (Ai CE rfl) (Pf 4 rfl (AG rfl A2 .m1 Ac.l1 rfl rfl) (Pf 5 rfl (BR rfl) (Pf 6 rfl (Ai A5 rfl) (Pf 7 rfl (Ai Bi rfl) ?_)))))))
 refine Pf 8 rfl (AQ Cr rfl rfl (by (try dsimp only at *); omega) (by (try dsimp only at *); omega)) ?_
 refine Pf 9 rfl (AZ rfl E8 .m1 ((Ac.l0.comp AH.l2).comp (AS.arr (n := 6) Al.fl (by (try dsimp only at *); omega) (by (try dsimp only at *); omega))) rfl) ?_
 refine An 10 rfl (by kernel_rfl) ?_
 refine BF rfl Kv rfl (fun b2 => ?_)
 refine Bo rfl ⟨?_, ?_⟩
 · exact (Po rfl (AZ rfl E8 .m2 ((Ac.l0.comp AH.l2).comp (AS.arr (n := 6) Al.fl (by (try dsimp only at *); omega) (by (try dsimp only at *); omega))) rfl) rfl rfl (Po rfl (AQ Cr rfl rfl (by (try dsimp only at *); omega) (by (try dsimp only at *); omega)) rfl rfl (Po rfl (Ai Bi rfl) rfl rfl (Po rfl (Ai A5 rfl) rfl rfl (Po rfl (BR rfl) rfl rfl (Po rfl (AG rfl A2 .m2 Ac.l1 rfl rfl) rfl rfl (Po rfl (Ai CE rfl) rfl rfl (Po rfl (BR rfl) rfl rfl (Po rfl (AE rfl) rfl rfl (Po rfl (AE rfl) rfl rfl Ar))))))))))
 refine An 11 rfl (by kernel_rfl) ?_
 refine AR (AJ (AS.id Al.fl.len Al.fl.one) rfl rfl rfl Jg rfl .h) ?_
 refine BK rfl ⟨?_, ?_⟩
 · exact (Pk (Pk (Pk (Pk (Pk (Pk (Pk (Pk (Pk (Pk Ar))))))))))
 refine A1 (by kernel_rfl) ?_
 refine AB (.t3 0 3 4) ?_
 refine AA (Ap ?_)
 refine BD (N := 14) [0, 1, 3, 7, 0, 16, 0, 64, 15, 271, 831, 1855, 4095, 8191] mix (by kernel_rfl) rfl ?_
 refine Pf 0 rfl (AE rfl) (Pf 1 rfl (BR rfl) (Pf 2 rfl (Ai CE rfl) (Pf 3 rfl (AG rfl A2 .m2 Ac.l1 rfl rfl) (Pf 4 rfl (Ai Js rfl) (Pf 5 rfl (AG rfl CN .m0 Al.l0 rfl rfl) (Pf 6 rfl (Ai Cq rfl) (Pf 7 rfl (AG rfl A2 .m0 Al.l3 rfl rfl) ?_)))))))
 refine Pf 8 rfl (Ai Ow rfl) ?_
 refine An 9 rfl (by kernel_rfl) ?_
 refine AR (AJ Ing.Event.l2 rfl rfl rfl Cy rfl (.t .h)) ?_
 refine BK rfl ⟨?_, ?_⟩
 · exact (Pk (Po rfl (AG rfl A2 .m0 Al.l3 rfl rfl) rfl rfl (Po rfl (Ai Cq rfl) rfl rfl (Po rfl (AG rfl CN .m0 Al.l0 rfl rfl) rfl rfl (Po rfl (Ai Js rfl) rfl rfl (Pk (Pk (Pk (Pk Ar)))))))))
 refine Pf 10 rfl (Ai Vn rfl) ?_
 refine An 11 rfl (by kernel_rfl) ?_
 refine AR (AJ Ing.Event.l6 rfl rfl rfl Ei rfl (.t .h)) ?_
 refine BK rfl ⟨?_, ?_⟩
 · exact (Pk (Pk (Po rfl (AG rfl A2 .m0 Al.l3 rfl rfl) rfl rfl (Po rfl (Ai Cq rfl) rfl rfl (Pk (Pk (Pk (Pk (Pk (Pk Ar))))))))))
 refine Pf 12 rfl (Ai Un rfl) ?_
 refine An 13 rfl (by kernel_rfl) ?_
 refine AR (AJ Ing.Event.l1 rfl rfl rfl Cy rfl (.t .h)) ?_
 refine BK rfl ⟨?_, ?_⟩
 · exact (Pk (Pk (Pk (Pk (Pk (Pk (Pk (Pk (Pk (Pk (Pk Ar)))))))))))
 refine A1 (by kernel_rfl) ?_
 refine AB (.t2 0 3) ?_
 refine AA (B7 (Gt (Ai GC rfl) (Gt (AG rfl A2 .m1 Ing.Event.l3 rfl rfl) (Gt (CL rfl rfl) (Gn (.t3 0 3 28) ?_)))))
 refine Gc (fun c1 => ?_) (fun c1 => ?_)
 ·
  have c1p := kz c1
  refine BD (N := 11) [0, 0, 2, 1, 9, 25, 63, 127, 255, 511, 1023] mix (by kernel_rfl) rfl ?_
  refine Pf 0 rfl (AE rfl) (Pf 1 rfl (Ai GC rfl) (Pf 2 rfl (AG rfl A2 .m1 Ing.Event.l3 rfl rfl) (Pf 3 rfl (BR rfl) (Pf 4 rfl (Ai A5 rfl) (Pf 5 rfl (Ai Bi rfl) ?_)))))
  refine Pf 6 rfl (AQ Cr rfl rfl (by (try dsimp only at *); omega) (by (try dsimp only at *); omega)) ?_
  refine Pf 7 rfl (Ai Js rfl) ?_
  refine Pf 8 rfl (AG rfl CN .m2 (((Ac.l0.comp AH.l2).comp (AS.arr (n := 6) Al.fl (by (try dsimp only at *); omega) (by (try dsimp only at *); omega))).comp Al.l0) rfl rfl) ?_
  refine Pf 9 rfl (Ai VS rfl) ?_
  refine An 10 rfl (by kernel_rfl) ?_
  refine AR (AJ Ing.Event.l7 rfl rfl rfl Ei rfl (.t .h)) ?_
  refine BK rfl ⟨?_, ?_⟩
  · exact (Pk (Pk (Pk (Pk (Pk (Pk (Pk (Pk (Pk (Pk Ar))))))))))
  refine A1 (by kernel_rfl) ?_
  refine AB (.t2 0 3) ?_
  refine AA ?_
  refine BD (N := 16) [0, 0, 2, 6, 14, 0, 32, 96, 224, 0, 992, 2016, 4094, 8191, 16383, 32767] mix (by kernel_rfl) rfl ?_
  refine Pf 0 rfl (AE rfl) (Pf 1 rfl (AE rfl) (Pf 2 rfl (BR rfl) (Pf 3 rfl (Ai CB rfl) (Pf 4 rfl (AG rfl DT .m2 Ac.l2 rfl rfl) (Pf 5 rfl (AE rfl) (Pf 6 rfl (BR rfl) (Pf 7 rfl (Ai A5 rfl) ?_)))))))
  refine Pf 8 rfl (AZ rfl BT .m2 Ac.l0 rfl) (Pf 9 rfl (AZ rfl NG .m1 (AS.id Ing.Event.fl.len Ing.Event.fl.one) rfl) ?_)
  refine BV 10 rfl rfl (by kernel_rfl) (KQ (Jn (Dp XU (.c rfl (.c rfl .n)) (fun w hS => Iv _ _ w)))) ?_
  refine An 11 rfl (by kernel_rfl) ?_
  refine Eu Ing.Event.enc Ing.Event.fl rfl Tryz.underlying53 Mn Hk rfl (by decide) (by decide) rfl rfl (fun b3 => ?_)
  refine Bo rfl ⟨?_, ?_⟩
  · exact (Pk (Pk (Pk (Pk (Pk (Pk (Po rfl (AG rfl DT .m3 Ac.l2 rfl rfl) rfl rfl (Po rfl (Ai CB rfl) rfl rfl (Po rfl (BR rfl) rfl rfl (Po rfl (AE rfl) rfl rfl (Po rfl (AE rfl) rfl rfl Ar)))))))))))
  refine An 12 rfl (by kernel_rfl) ?_
  refine CO Ing.Event.fl rfl Tryz.underlying53 Mn Hk rfl WR (by decide) (by decide) rfl rfl (fun w hS => Src.DU Tryz.underlying53 ((Kn.own .m0) w hS)) (by (try dsimp only); omega) (fun _ => (.t (.t (.t (.t .h))))) (fun h1 h1l h1z => ?_)
  refine Bo rfl ⟨?_, ?_⟩
  · exact (Pk (Pk (Pk (Pk (Pk (Pk (Pk (Pk (Pk (Pk (Po rfl (AE rfl) rfl rfl Ar)))))))))))
  refine Pf 13 rfl (BR rfl) (Pf 14 rfl (Ai CB rfl) ?_)
  refine An 15 rfl (by kernel_rfl) ?_
  refine AR (AJ Ac.l2 rfl rfl rfl QB rfl (.t (.t (.t .h)))) ?_
  refine BK rfl ⟨?_, ?_⟩
  · exact (Pk (Pk (Pk (Pk (Pk (Pk (Pk (Pk (Pk (Pk (Pk (Pk (Pk Ar)))))))))))))
  refine A1 (by kernel_rfl) ?_
  refine Be rfl .n ?_
  intro w1 hS
  have hS := (hS.perm (Av.perm (.c (.t (.t (.t .h))) (.c (.t (.t (.t .h))) .n)))).Az
  refine ⟨_, ⟨?gqTrue, rfl, ?hlTrue, ?hBTrue⟩, hS⟩
  case hBTrue => rw [AF.Bj, show T.Dz e = _ from A9 c1]; rfl
  case hlTrue => simp only [AF.CR]; (try dsimp only at *); omega
 have c1p := kz c1
 refine Aa ?_
 refine AB (.t2 0 3) ?_
 refine AA ?_
 refine BD (N := 16) [0, 0, 2, 6, 14, 0, 32, 96, 224, 0, 992, 2016, 4094, 8191, 16383, 32767] mix (by kernel_rfl) rfl ?_
 refine Pf 0 rfl (AE rfl) (Pf 1 rfl (AE rfl) (Pf 2 rfl (BR rfl) (Pf 3 rfl (Ai CB rfl) (Pf 4 rfl (AG rfl DT .m2 Ac.l2 rfl rfl) (Pf 5 rfl (AE rfl) (Pf 6 rfl (BR rfl) (Pf 7 rfl (Ai A5 rfl) ?_)))))))
 refine Pf 8 rfl (AZ rfl BT .m2 Ac.l0 rfl) (Pf 9 rfl (AZ rfl NG .m1 (AS.id Ing.Event.fl.len Ing.Event.fl.one) rfl) ?_)
 refine BV 10 rfl rfl (by kernel_rfl) (KQ (Jn (Dp XU (.c rfl (.c rfl .n)) (fun w hS => Iv _ _ w)))) ?_
 refine An 11 rfl (by kernel_rfl) ?_
 refine Eu Ing.Event.enc Ing.Event.fl rfl Tryz.underlying53 Mn Hk rfl (by decide) (by decide) rfl rfl (fun b4 => ?_)
 refine Bo rfl ⟨?_, ?_⟩
 · exact (Pk (Pk (Pk (Pk (Pk (Pk (Po rfl (AG rfl DT .m3 Ac.l2 rfl rfl) rfl rfl (Po rfl (Ai CB rfl) rfl rfl (Po rfl (BR rfl) rfl rfl (Po rfl (AE rfl) rfl rfl (Po rfl (AE rfl) rfl rfl Ar)))))))))))
 refine An 12 rfl (by kernel_rfl) ?_
 refine CO Ing.Event.fl rfl Tryz.underlying53 Mn Hk rfl WR (by decide) (by decide) rfl rfl (fun w hS => Src.DU Tryz.underlying53 ((Kn.own .m0) w hS)) (by (try dsimp only); omega) (fun _ => (.t (.t (.t (.t .h))))) (fun h2 h2l h2z => ?_)
 refine Bo rfl ⟨?_, ?_⟩
 · exact (Pk (Pk (Pk (Pk (Pk (Pk (Pk (Pk (Pk (Pk (Po rfl (AE rfl) rfl rfl Ar)))))))))))
 refine Pf 13 rfl (BR rfl) (Pf 14 rfl (Ai CB rfl) ?_)
 refine An 15 rfl (by kernel_rfl) ?_
 refine AR (AJ Ac.l2 rfl rfl rfl QB rfl (.t (.t (.t .h)))) ?_
 refine BK rfl ⟨?_, ?_⟩
 · exact (Pk (Pk (Pk (Pk (Pk (Pk (Pk (Pk (Pk (Pk (Pk (Pk (Pk Ar)))))))))))))
 refine A1 (by kernel_rfl) ?_
 refine Be rfl .n ?_
 intro w1 hS
 have hS := (hS.perm (Av.perm (.c (.t (.t (.t .h))) (.c (.t (.t (.t .h))) .n)))).Az
 refine ⟨_, ⟨?gqFalse, rfl, ?hlFalse, ?hBFalse⟩, hS⟩
 case hBFalse => rw [AF.Bj, show T.Dz e = _ from AU c1]; rfl
 case hlFalse => simp only [AF.CR]; (try dsimp only at *); omega
theorem Fo (b : Nat) (T : AF) (g : Hd) (k : Int) (hg : g.len = T.out.length) (hb : 0 ≤ T.b ∧ T.b < 6) (hn : T.out.length ≤ 100000) : JU Tryz.prog 124 #[.pointer (some ⟨b, 0, none⟩), .int .i64 k] [Ad.box b 163 (Ac.enc ⟨T.w, T.b, g⟩), Ad.own g 56 16 (T.out.flatMap Ing.Event.enc)] (fun v B => ∃ g' : Hd, v = .tuple #[] ∧ g'.len = (T.kind k).out.length ∧ B = [Ad.box b 163 (Ac.enc ⟨(T.kind k).w, (T.kind k).b, g'⟩), Ad.own g' 56 16 ((T.kind k).out.flatMap Ing.Event.enc)]) := by
 intro w hS0
 refine Am _ _ Tryz.func124 rfl rfl rfl (hS0) ?_
 refine AI (Gm rfl (Gm rfl (Gt (BA MP Hk rfl (.cons Ing.Event.l0 rfl rfl rfl (.cons Ing.Event.l3 rfl rfl rfl .nil))) ?_)))
 refine Ah rfl Mk (.c rfl (.c rfl .n)) (.c .h (.c .h .n)) (CC _ _ _ (AF.GA k) hg hb (show (-1 : Int) < 6 by decide) hn) (fun v1 B hv => ?_)
 obtain ⟨y2, rfl, y3, rfl⟩ := hv
 refine AO ?_
 refine Be rfl .n ?_
 intro w1 hS
 have hS := (hS.perm (Av.perm (.c .h (.c .h .n)))).Az
 exact ⟨_, ⟨_, rfl, by assumption, rfl⟩, hS⟩
theorem BW (b : Nat) (T : AF) (g : Hd) (u : Aq) (hg : g.len = T.out.length) (hb : 0 ≤ T.b ∧ T.b < 6) (hn : T.out.length ≤ 100000) : JU Tryz.prog 127 #[.pointer (some ⟨b, 0, none⟩), BQ u] [Ad.box b 163 (Ac.enc ⟨T.w, T.b, g⟩), Ad.own g 56 16 (T.out.flatMap Ing.Event.enc)] (fun v B => ∃ g' : Hd, v = .tuple #[] ∧ g'.len = (T.tell u).out.length ∧ B = [Ad.box b 163 (Ac.enc ⟨(T.tell u).w, (T.tell u).b, g'⟩), Ad.own g' 56 16 ((T.tell u).out.flatMap Ing.Event.enc)]) := by
 intro w hS0
 refine Am _ _ Tryz.func127 rfl rfl rfl (hS0) ?_
 refine AI (Gm rfl (Gm rfl (Gt (BA MP Hk rfl (.cons Ing.Event.l0 rfl rfl rfl (.cons Ing.Event.l3 rfl rfl rfl (.cons Ing.Event.l9 rfl rfl rfl .nil)))) ?_)))
 refine Ah rfl Mk (.c rfl (.c rfl .n)) (.c .h (.c .h .n)) (CC _ _ _ { AF.GA 16 with text := u } hg hb (show (-1 : Int) < 6 by decide) hn) (fun v1 B hv => ?_)
 obtain ⟨y2, rfl, y3, rfl⟩ := hv
 refine AO ?_
 refine Be rfl .n ?_
 intro w1 hS
 have hS := (hS.perm (Av.perm (.c .h (.c .h .n)))).Az
 exact ⟨_, ⟨_, rfl, by assumption, rfl⟩, hS⟩
theorem HJ (d : Int) (w : World) (gl0 : GV 0 AH.C0 w) : EL Tryz.prog 52 #[.int .i64 d] w fun v w' => v = BQ (AH.called d) ∧ B4 w w' := by
 refine Am [] [] Tryz.func52 rfl rfl rfl (St.start w []) ?_
 refine Gs (Ga rfl (Gn (.t1 0) (B7 (Gm rfl (Gt (A6 rfl rfl) (Gm rfl (BU 5 rfl rfl (fun q => AE rfl) ?_)))))))
 refine BU 5 rfl rfl (fun q => CL (cF rfl q) rfl) ?_
 refine Gt (BP rfl rfl (fun h => by rw [h]; rfl)) ?_
 refine Gn (.t2 0 8) ?_
 refine Gc (fun c1 => ?_) (fun c1 => ?_)
 ·
  refine Gs (Ga rfl (Gn (.t1 2) (Ab (AD ?_))))
  refine AY rfl (.tmp rfl .n) ?_
  intro w1 hS; refine ⟨?_, hS.Aj⟩; rw [show AH.called d = _ from A9 c1]; rfl
 have c1p := kz c1
 have hr : 0 ≤ d ∧ d < 6 := by simp at c1; omega
 refine Aa ?_
 refine AB (.t1 0) ?_
 refine AA (Gs (Gm rfl ?_))
 refine Gt (AQ V0 rfl rfl (by omega) (by omega)) ?_
 refine Gt (O5 gl0 rfl CN (AH.NS hr.1 hr.2)) (Ga rfl (Gn (.t1 2) (Ab ?_)))
 refine AY rfl (.tmp rfl .n) ?_
 intro w1 hS; refine ⟨?_, hS.Aj⟩; rw [show AH.called d = _ from AU c1]; rfl
theorem En (X : AH) (Ck at_ : Int) : JU Tryz.prog 102 #[.agg X.enc.toArray, .int .i64 Ck, .int .i64 at_] [] (fun v B => ∃ h' : Hd, v = h'.val ∧ h'.len = (X.has Ck at_).length ∧ B = [Ad.own h' 3 1 ((X.has Ck at_).flatMap Au)]) := by
 intro w hS0
 refine Am _ _ Tryz.func102 rfl rfl rfl (hS0) ?_
 refine Gs ?_
 refine B3 rfl rfl rfl (fun b1 => ?_)
 refine Ga rfl (Gn (.t3 1 2 3) (Gs (Ga rfl (AO (AA (B7 (Gt (Ai Ci rfl) ?_)))))))
 refine Gt (AZ rfl WL .m0 AH.l1 rfl) (Gm rfl (Gn (.t5 1 2 7 11 12) (Ae ?_)))
 refine Bl (.t5 7 12 1 2 11) ?_
 refine EM Au 3 1 ?_
 refine DX (fun (k : Int) (xs : List Int) (g : Hd) => 0 ≤ k ∧ k ≤ 9 ∧ xs = X.Nw Ck at_ k.toNat ∧ g.len = xs.length) (fun (k : Int) (xs : List Int) (g : Hd) => (9 - k).toNat) (fun (k : Int) (xs : List Int) (g : Hd) => [(7, g.val), (12, .int .i64 k)]) (fun (k : Int) (xs : List Int) (g : Hd) => [Ad.own g 3 1 (xs.flatMap Au)]) (0) ([]) (_) ?_ rfl rfl (fun k xs g hI1 => ?_)
 · exact ⟨by omega, by omega, rfl, rfl⟩
 obtain ⟨hI11, hI12, hI13, hI14⟩ := hI1
 refine Gs (Gt (A6 rfl rfl) (AO (AA (Ap ?_))))
 refine Gc (fun c1 => ?_) (fun c1 => ?_)
 ·
  have c1p := kz c1
  have hxl := AH.Q5 X Ck at_ k.toNat
  rw [← hI13] at hxl
  refine Aa ?_
  refine AB (.t5 1 2 7 11 12) ?_
  refine AA (Ap (Ae (Gs (Gm rfl ?_))))
  refine Gt (FU Ak.fl Tryz.underlying30 Lh rfl rfl (by omega) (by omega)) ?_
  refine BF rfl Jb rfl (fun b2 => ?_)
  refine Ga rfl ?_
  refine AR (AJ (AS.id Ak.fl.len Ak.fl.one) rfl rfl rfl Lv rfl .h) ?_
  refine Gn (.t7 1 2 7 8 9 11 12) (Gs (Gt (Ai Ez rfl) (Gt (AG rfl A2 .m0 Ak.l2 rfl rfl) (Gm rfl (Gt (Af rfl rfl) (Gm rfl (Bh 20 rfl rfl (fun q => Ai Cz rfl) ?_)))))))
  refine Bh 20 rfl rfl (fun q => AG (Bc rfl q) A2 .m0 Ak.l3 rfl rfl) (Bh 20 rfl rfl (fun q => AE rfl) (Bh 20 rfl rfl (fun q => Af (Bc rfl q) (Bc rfl q)) (Gt (BI rfl rfl (fun h => h)) (Gn (.t7 1 2 7 8 11 12 25) ?_))))
  refine Gc (fun c2 => ?_) (fun c2 => ?_)
  ·
   have c2p := kz c2
   refine AI (Gm rfl (Gm rfl ?_))
   refine Eu Au Bw rfl Tryz.underlying169 Cy Yn rfl (by decide) (by decide) rfl rfl (fun b3 => ?_)
   refine CO Bw rfl Tryz.underlying169 Cy Yn rfl aD (by decide) (by decide) rfl rfl (fun w hS => Src.DU Tryz.underlying169 ((Kn.own .m0) w hS)) (by (try dsimp only); omega) (fun _ => (.t (.t .h))) (fun h1 h1l h1z => ?_)
   refine Ga rfl ?_
   refine AO (AB (.t5 1 2 7 11 12) ?_)
   refine AT (AA (AI ?_))
   refine Gt (As rfl rfl (IntWalk.i64_in _ (by omega))) ?_
   refine Gm rfl ?_
   refine AO (AB (.t5 1 2 7 11 12) ?_)
   refine Bt (k + 1) _ _ ?_ ?_ (.t5 7 12 1 2 11) (.cons _ (.cons _ (.refl _)))
   · exact ⟨by omega, by omega, by rw [AH.Yj hI11 c2, ← hI13], (by (try dsimp only at *) <;> (try simp only [List.length_append, List.length_cons, List.length_nil]) <;> omega)⟩
   · omega
  have c2p := kz c2
  refine Aa ?_
  refine AB (.t5 1 2 7 11 12) ?_
  refine AT (AA (AI ?_))
  refine Gt (As rfl rfl (IntWalk.i64_in _ (by omega))) ?_
  refine Gm rfl ?_
  refine AO (AB (.t5 1 2 7 11 12) ?_)
  refine Bt (k + 1) _ _ ?_ ?_ (.t5 7 12 1 2 11) (.cons _ (.refl _))
  · exact ⟨by omega, by omega, by rw [AH.Xz hI11 c2, ← hI13], (by (try dsimp only at *) <;> (try simp only [List.length_append, List.length_cons, List.length_nil]) <;> omega)⟩
  · omega
 have c1p := kz c1
 obtain rfl : k = 9 := by omega
 refine BX (AW (AW (Ag ?_)))
 refine AB (.t1 7) ?_
 refine AA (Gs (Gm rfl (Ga rfl (Gn (.t1 6) (Ab ?_)))))
 refine AY rfl (.tmp rfl .n) ?_
 intro w1 hS
 have hS := (hS.perm (Av.perm (.c .h .n))).Az
 exact ⟨_, ⟨_, rfl, by rw [AH.SS, ← hI13]; assumption, by rw [AH.SS, ← hI13]⟩, hS⟩
theorem Kb (b : Nat) (T : AF) (g : Hd) (u : Aq) (f : Hd) (l : List Int) (hg : g.len = T.out.length) (hb : 0 ≤ T.b ∧ T.b < 6) (hf : f.len = l.length) (hl : l.length ≤ 9) (hi : ∀ i ∈ l, 0 ≤ i ∧ i < 9) (hw : T.w.Dw) (hu : u.length ≤ 1000) (hn : T.out.length ≤ 100000) : JU Tryz.prog 101 #[.pointer (some ⟨b, 0, none⟩), BQ u, f.val] [Ad.box b 163 (Ac.enc ⟨T.w, T.b, g⟩), Ad.own g 56 16 (T.out.flatMap Ing.Event.enc), Ad.own f 3 1 (l.flatMap Au)] (fun v B => ∃ g' : Hd, v = .tuple #[] ∧ g'.len = (T.list u l).out.length ∧ B = [Ad.box b 163 (Ac.enc ⟨(T.list u l).w, (T.list u l).b, g'⟩), Ad.own g' 56 16 ((T.list u l).out.flatMap Ing.Event.enc), Ad.own f 3 1 (l.flatMap Au)]) := by
 intro w hS0
 refine Am _ _ Tryz.func101 rfl rfl rfl (hS0) ?_
 refine B7 (Gm rfl (Gt (Ao rfl Tryz.underlying169 rfl) (Gm rfl (AO (AA (Ae ?_))))))
 refine Bl (.t6 1 10 0 2 8 9) ?_
 refine Gj (fun (k : Int) (x : Aq) => 0 ≤ k ∧ k ≤ (l.length : Int) ∧ AF.HI T.w u l = AF.HI T.w x (l.drop k.toNat) ∧ x.length ≤ 1000 + k.toNat * 140737488351300) (fun (k : Int) (x : Aq) => ((l.length : Int) - k).toNat) (fun (k : Int) (x : Aq) => [(1, BQ x), (10, .int .i64 k)]) (fun (k : Int) (x : Aq) => []) (0) (u) ?_ rfl rfl (fun k x hI1 => ?_)
 · exact ⟨by omega, by omega, by simp, by simp; omega⟩
 obtain ⟨hI11, hI12, hI13, hI14⟩ := hI1
 refine Gs (Gt (A6 rfl rfl) (AO (AA (Ap ?_))))
 refine Gc (fun c1 => ?_) (fun c1 => ?_)
 ·
  have c1p := kz c1
  have hx := hi _ (Bb.Ef (xs := l) (i := k.toNat) (by omega))
  have hnl := hw.th (l.getD k.toNat 0)
  refine Aa ?_
  refine AB (.t6 0 1 2 8 9 10) ?_
  refine AA (Ap (Ae (Gs ?_)))
  refine Gt (Bm F7 (by decide) (Kn.own .m2) rfl rfl (by omega) (by omega)) ?_
  refine Gt (C1 rfl A2 (Kn.own .m2) (by omega)) ?_
  refine Ga rfl (Gn (.t7 0 1 2 7 8 9 10) (Gs (Gm rfl (Gm rfl (Gm rfl (Gt (BR rfl) (Gt (Ai A5 rfl) ?_)))))))
  refine Gt (Ai Ci rfl) ?_
  refine Gt (AQ Fi rfl rfl (by (try dsimp only at *); (try simp only [List.length_append, List.length_cons, List.length_nil]); omega) (by (try dsimp only at *); (try simp only [List.length_append, List.length_cons, List.length_nil]); omega)) ?_
  refine Gt (Ai LI rfl) ?_
  refine Gt (AG rfl CN .m0 (((Ac.l0.comp AH.l1).comp (AS.arr (n := 9) Ak.fl (by (try dsimp only at *); (try simp only [List.length_append, List.length_cons, List.length_nil]); omega) (by (try dsimp only at *); (try simp only [List.length_append, List.length_cons, List.length_nil]); omega))).comp Ak.l0) rfl rfl) ?_
  refine Gt (CM rfl rfl (by (try dsimp only at *); (try simp only [List.length_append, List.length_cons, List.length_nil]); omega)) ?_
  refine Gt (CM rfl rfl (by (try dsimp only at *); (try simp only [List.length_append, List.length_cons, List.length_nil]); omega)) ?_
  refine Ga rfl (Gn (.t7 0 1 2 7 8 9 10) (Gs (Gm rfl (Gm rfl (Gt (BR rfl) (Gt (Ai A5 rfl) (Gt (Ai Ci rfl) ?_)))))))
  refine Gt (AQ Fi rfl rfl (by (try dsimp only at *); (try simp only [List.length_append, List.length_cons, List.length_nil]); omega) (by (try dsimp only at *); (try simp only [List.length_append, List.length_cons, List.length_nil]); omega)) ?_
  refine Gt (Ai FX rfl) ?_
  refine Gt (AG rfl DV .m0 (((Ac.l0.comp AH.l1).comp (AS.arr (n := 9) Ak.fl (by (try dsimp only at *); (try simp only [List.length_append, List.length_cons, List.length_nil]); omega) (by (try dsimp only at *); (try simp only [List.length_append, List.length_cons, List.length_nil]); omega))).comp Ak.l4) rfl rfl) ?_
  refine Gn (.t7 0 1 2 8 9 10 32) ?_
  refine Gc (fun c2 => ?_) (fun c2 => ?_)
  ·
   have c2p := kz c2
   refine AI (Gm rfl ?_)
   refine Gt (CM rfl rfl (by (try dsimp only at *); (try simp only [List.length_append, List.length_cons, List.length_nil]); omega)) ?_
   refine Ga rfl ?_
   refine AO (AB (.t6 0 1 2 8 9 10) ?_)
   refine AT (AA (AI ?_))
   refine Gt (As rfl rfl (IntWalk.i64_in _ (by (try dsimp only at *); (try simp only [List.length_append, List.length_cons, List.length_nil]); omega))) ?_
   refine Gm rfl ?_
   refine AO (AB (.t6 0 1 2 8 9 10) ?_)
   refine DI (k + 1) _ ?_ ?_ (.t6 1 10 0 2 8 9) (.refl _)
   · exact ⟨by omega, by omega, by rw [hI13, AF.W2 hI11 (by omega) c2], by simp only [List.length_append, List.length_cons, List.length_nil]; omega⟩
   · omega
  have c2p := kz c2
  refine Aa ?_
  refine AB (.t6 0 1 2 8 9 10) ?_
  refine AT (AA (AI ?_))
  refine Gt (As rfl rfl (IntWalk.i64_in _ (by (try dsimp only at *); (try simp only [List.length_append, List.length_cons, List.length_nil]); omega))) ?_
  refine Gm rfl ?_
  refine AO (AB (.t6 0 1 2 8 9 10) ?_)
  refine DI (k + 1) _ ?_ ?_ (.t6 1 10 0 2 8 9) (.refl _)
  · exact ⟨by omega, by omega, by rw [hI13, AF.XD hI11 (by omega) c2], by simp only [List.length_append, List.length_cons, List.length_nil]; omega⟩
  · omega
 have c1p := kz c1
 obtain rfl : k = (l.length : Int) := by omega
 rw [show (l.length : Int).toNat = l.length by omega, List.drop_length] at hI13
 refine BX (AW (AW (Ag ?_)))
 refine AB (.t3 0 1 2) ?_
 refine AA (B7 (Gm rfl (Gt (Ao rfl Tryz.underlying169 rfl) (Gt (Af rfl rfl) (Gn (.t3 0 1 38) ?_)))))
 refine Gc (fun c3 => ?_) (fun c3 => ?_)
 ·
  have c3p := kz c3
  rw [hf] at c3
  refine AI (Gm rfl ?_)
  refine Gt (CM rfl rfl (by (try dsimp only at *); (try simp only [List.length_append, List.length_cons, List.length_nil]); omega)) ?_
  refine Ga rfl (Gn (.t2 0 1) (AI (Gm rfl (Gm rfl ?_))))
  refine Gt (CM rfl rfl (by (try dsimp only at *); (try simp only [List.length_append, List.length_cons, List.length_nil]); omega)) ?_
  refine Ah rfl Dv (.c rfl (.c rfl .n)) (.c .h (.c .h .n)) (BW _ _ _ _ hg hb hn) (fun v1 B hv => ?_)
  obtain ⟨y2, rfl, y3, rfl⟩ := hv
  refine AO ?_
  refine Be rfl .n ?_
  intro w1 hS
  have hS := (hS.perm (Av.perm (.c .h (.c .h (.c .h .n))))).Az
  refine ⟨_, ⟨?gqTrue, rfl, ?hlTrue, ?hBTrue⟩, hS⟩
  case hBTrue => rw [AF.list, show AF.Ql T.w u l = _ from A9 c3, hI13]; rfl
  case hlTrue => (try simp only [AF.B6] at *); rw [(AF.IM T u l).2.2]; assumption
 have c3p := kz c3
 rw [hf] at c3
 refine Aa ?_
 refine AB (.t2 0 1) ?_
 refine AA (AI (Gm rfl (Gm rfl ?_)))
 refine Gt (CM rfl rfl (by (try dsimp only at *); (try simp only [List.length_append, List.length_cons, List.length_nil]); omega)) ?_
 refine Ah rfl Dv (.c rfl (.c rfl .n)) (.c .h (.c .h .n)) (BW _ _ _ _ hg hb hn) (fun v4 B hv => ?_)
 obtain ⟨y5, rfl, y6, rfl⟩ := hv
 refine AO ?_
 refine Be rfl .n ?_
 intro w1 hS
 have hS := (hS.perm (Av.perm (.c .h (.c .h (.c .h .n))))).Az
 refine ⟨_, ⟨?gqFalse, rfl, ?hlFalse, ?hBFalse⟩, hS⟩
 case hBFalse => rw [AF.list, show AF.Ql T.w u l = _ from AU c3, hI13]; rfl
 case hlFalse => (try simp only [AF.B6] at *); rw [(AF.IM T u l).2.2]; assumption
end Go.Proofs.YtoidpggbbfncpaaGreatDoor
