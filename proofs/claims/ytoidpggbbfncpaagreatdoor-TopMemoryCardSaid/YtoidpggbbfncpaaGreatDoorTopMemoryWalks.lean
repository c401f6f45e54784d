/- What the functions that the law TopMemory reaches compute: walks, part 1. No condition. -/
import Derived.Test.YtoidpggbbfncpaaGreatDoorCards
import Derived.Test.YtoidpggbbfncpaaGreatDoorTie
import Derived.Deep.DeepHandedRow
import Derived.Test.YtoidpggbbfncpaaGreatDoorRows
import Derived.Test.YtoidpggbbfncpaaGreatDoorTopMemoryEc3
import Derived.Test.YtoidpggbbfncpaaGreatDoorTopMemoryRa1
import Derived.Test.YtoidpggbbfncpaaGreatDoorTopMemoryRb1
import Derived.Test.YtoidpggbbfncpaaGreatDoorTopMemoryRc1
set_option linter.unusedSimpArgs false
set_option linter.unusedVariables false
set_option maxRecDepth 100000
set_option maxHeartbeats 1000000
namespace Go.Proofs.YtoidpggbbfncpaaGreatDoor
open Go Go.Ing Go.RowKit Go.ChangeShapes Go.WideShapes Go.ChangeAt
theorem LX : ZV Tryz.prog 35 (.agg (AI.enc (default : AI)).toArray) := Ep (by kernel_rfl)
theorem C5 : Sz Tryz.prog 3 1 := Dd (by kernel_rfl)
theorem UY : ZV Tryz.prog 23 (.agg (B8 (n := 6) Ax (Vector.replicate 6 default)).toArray) := Ep (by kernel_rfl)
theorem Jt : Sz Tryz.prog 4 1 := Dd (by kernel_rfl)
theorem ae : ZV Tryz.prog 24 (.agg (B8 (n := 6) CS (Vector.replicate 6 default)).toArray) := Ep (by kernel_rfl)
theorem EM : Sz Tryz.prog 9 1 := Dd (by kernel_rfl)
theorem Wf : Sz Tryz.prog 23 6 := Dd (by kernel_rfl)
theorem Yq : Sz Tryz.prog 24 6 := Dd (by kernel_rfl)
theorem Ub : HC Tryz.prog 26 [(0, 1), (1, 1), (2, 6), (8, 6)] := ⟨_, Tryz.underlying26, fun w => by simp [EM w, Jt w, Wf w, Yq w]⟩
theorem NV : ZV Tryz.prog 26 (.agg (Room.enc (default : Room)).toArray) := Ep (by kernel_rfl)
theorem Pt : Sz Tryz.prog 26 14 := Dd (by kernel_rfl)
theorem cG : IS Tryz.prog 95 14 := Mx Tryz.underlying95 Pt
theorem MK : MM Tryz.prog 26 14 := EU Tryz.underlying26 rfl Pt
theorem aQ : Sz Tryz.prog 27 84 := Dd (by kernel_rfl)
theorem GJ : FA Tryz.prog 35 0 0 := Bq Tryz.underlying35 rfl aQ
theorem N6 : IA Tryz.prog 27 6 14 := MA Tryz.underlying27 Pt
theorem QH : HC Tryz.prog 29 [(0, 1), (1, 1), (2, 1), (3, 1), (4, 1)] := ⟨_, Tryz.underlying29, fun w => by simp [EM w, C5 w, Jt w]⟩
theorem Js : ZV Tryz.prog 29 (.agg (Ak.enc (default : Ak)).toArray) := Ep (by kernel_rfl)
theorem MQ : Sz Tryz.prog 29 5 := Dd (by kernel_rfl)
theorem bl : IS Tryz.prog 96 5 := Mx Tryz.underlying96 MQ
theorem LO : MM Tryz.prog 29 5 := EU Tryz.underlying29 rfl MQ
theorem aa : Sz Tryz.prog 30 45 := Dd (by kernel_rfl)
theorem Cq : FA Tryz.prog 35 1 84 := Bq Tryz.underlying35 rfl aa
theorem Fo : IA Tryz.prog 30 9 5 := MA Tryz.underlying30 MQ
theorem VF : HC Tryz.prog 32 [(0, 1), (1, 1), (2, 1), (3, 1), (4, 1), (5, 1)] := ⟨_, Tryz.underlying32, fun w => by simp [EM w, Jt w, C5 w]⟩
theorem K2 : ZV Tryz.prog 32 (.agg (Al.enc (default : Al)).toArray) := Ep (by kernel_rfl)
theorem ab : Sz Tryz.prog 33 36 := Dd (by kernel_rfl)
theorem Bk : FA Tryz.prog 35 2 129 := Bq Tryz.underlying35 rfl ab
theorem Jv : Sz Tryz.prog 32 6 := Dd (by kernel_rfl)
theorem Cy : IA Tryz.prog 33 6 6 := MA Tryz.underlying33 Jv
theorem Dw : Sz Tryz.prog 35 165 := Dd (by kernel_rfl)
theorem BT : MM Tryz.prog 35 165 := EU Tryz.underlying35 rfl Dw
theorem bE : CF Tryz.prog 15 := Tryz.call15
theorem aA : Sz Tryz.prog 99 88 := Dd (by kernel_rfl)
theorem RS : Sz Tryz.prog 53 1 := Dd (by kernel_rfl)
theorem aY : HC Tryz.prog 101 [(0, 165), (165, 88), (253, 1), (254, 1)] := ⟨_, Tryz.underlying101, fun w => by simp [Dw w, aA w, C5 w, RS w]⟩
theorem ZU : ZV Tryz.prog 101 (.agg (AH.enc (default : AH)).toArray) := Ep (by kernel_rfl)
theorem Qe : ZV Tryz.prog 9 (BO []) := Ep (by kernel_rfl)
theorem WS : BY Tryz.prog 9 16 := S3 (by kernel_rfl)
theorem WQ : ZV Tryz.prog 75 (.agg (A9.enc ⟨[], false, false, ⟨none, 0, 0⟩⟩).toArray) := Ep (by kernel_rfl)
theorem Lj : Sz Tryz.prog 52 1 := Dd (by kernel_rfl)
theorem D6 : FA Tryz.prog 75 3 3 := Bq Tryz.underlying75 rfl Lj
theorem Du : OZ Tryz.prog 52 := Hv Tryz.underlying52 rfl
theorem Ko : Sz Tryz.prog 75 4 := Dd (by kernel_rfl)
theorem HV : MM Tryz.prog 75 4 := EU Tryz.underlying75 rfl Ko
theorem Gu : IS Tryz.prog 52 1 := Mx Tryz.underlying52 EM
theorem CC : OZ Tryz.prog 9 := Hv Tryz.underlying9 rfl
theorem UE : CF Tryz.prog 69 := Tryz.call69
theorem Qf : ZV Tryz.prog 65 (.agg (Ar.enc ⟨⟨none, 0, 0⟩, 0, false, [], false⟩).toArray) := Ep (by kernel_rfl)
theorem Lb : FA Tryz.prog 65 2 2 := Bq Tryz.underlying65 rfl Jt
theorem JJ : FA Tryz.prog 65 1 1 := Bq Tryz.underlying65 rfl C5
theorem Ez : Sz Tryz.prog 65 5 := Dd (by kernel_rfl)
theorem Cm : MM Tryz.prog 65 5 := EU Tryz.underlying65 rfl Ez
theorem mix : Tryz.prog.follows .mixedOrders = true := by kernel_rfl
theorem aM : CF Tryz.prog 116 := Tryz.call116
theorem X4 : CF Tryz.prog 115 := Tryz.call115
theorem GS : FA Tryz.prog 29 1 1 := Bq Tryz.underlying29 rfl C5
theorem A1 : OZ Tryz.prog 3 := Hv Tryz.underlying3 rfl
theorem Fk : FA Tryz.prog 29 4 4 := Bq Tryz.underlying29 rfl Jt
theorem Ct : OZ Tryz.prog 4 := Hv Tryz.underlying4 rfl
theorem DA : FA Tryz.prog 29 3 3 := Bq Tryz.underlying29 rfl C5
theorem E6 : FA Tryz.prog 29 2 2 := Bq Tryz.underlying29 rfl C5
theorem Hp : FA Tryz.prog 32 1 1 := Bq Tryz.underlying32 rfl Jt
theorem X5 : MM Tryz.prog 27 84 := EU Tryz.underlying27 rfl aQ
theorem L5 : FA Tryz.prog 26 2 2 := Bq Tryz.underlying26 rfl Wf
theorem U5 : MM Tryz.prog 23 6 := EU Tryz.underlying23 rfl Wf
theorem L0 : FA Tryz.prog 26 3 8 := Bq Tryz.underlying26 rfl Yq
theorem Tu : IA Tryz.prog 24 6 1 := MA Tryz.underlying24 Jt
theorem Vp : MM Tryz.prog 33 36 := EU Tryz.underlying33 rfl ab
theorem FF : MM Tryz.prog 32 6 := EU Tryz.underlying32 rfl Jv
theorem Cv : FA Tryz.prog 32 3 3 := Bq Tryz.underlying32 rfl C5
theorem JV : FA Tryz.prog 32 4 4 := Bq Tryz.underlying32 rfl C5
theorem Fq : FA Tryz.prog 32 5 5 := Bq Tryz.underlying32 rfl C5
theorem bf : CF Tryz.prog 68 := Tryz.call68
theorem Yu : FA Tryz.prog 26 1 1 := Bq Tryz.underlying26 rfl Jt
theorem TX : MM Tryz.prog 30 45 := EU Tryz.underlying30 rfl aa
theorem ay : CF Tryz.prog 19 := Tryz.call19
theorem WB : CF Tryz.prog 159 := Tryz.call159
theorem S9 : CF Tryz.prog 129 := Tryz.call129
theorem VJ : FA Tryz.prog 32 2 2 := Bq Tryz.underlying32 rfl Jt
theorem YG : CF Tryz.prog 160 := Tryz.call160
theorem QM : FA Tryz.prog 56 2 2 := Bq Tryz.underlying56 rfl C5
theorem GO : FA Tryz.prog 56 3 3 := Bq Tryz.underlying56 rfl C5
theorem Mv : CF Tryz.prog 130 := Tryz.call130
theorem SP : FA Tryz.prog 56 0 0 := Bq Tryz.underlying56 rfl C5
theorem Vm : FA Tryz.prog 56 1 1 := Bq Tryz.underlying56 rfl C5
theorem Zr : CF Tryz.prog 173 := Tryz.call173
theorem Hj : ZV Tryz.prog 56 (.agg (Ing.Event.enc (default : Ing.Event)).toArray) := Ep (by kernel_rfl)
theorem MN : Sz Tryz.prog 56 16 := Dd (by kernel_rfl)
theorem Na : MM Tryz.prog 56 16 := EU Tryz.underlying56 rfl MN
theorem aS : CF Tryz.prog 157 := Tryz.call157
theorem Mm : FA Tryz.prog 56 10 10 := Bq Tryz.underlying56 rfl Wf
theorem Rg : IA Tryz.prog 23 6 1 := MA Tryz.underlying23 C5
theorem CM : FA Tryz.prog 163 1 165 := Bq Tryz.underlying163 rfl C5
theorem A6 : FA Tryz.prog 163 0 0 := Bq Tryz.underlying163 rfl Dw
theorem KX : FA Tryz.prog 32 0 0 := Bq Tryz.underlying32 rfl EM
theorem V5 : FA Tryz.prog 56 6 6 := Bq Tryz.underlying56 rfl EM
theorem Wq : FA Tryz.prog 56 7 7 := Bq Tryz.underlying56 rfl EM
theorem CH : FA Tryz.prog 163 2 166 := Bq Tryz.underlying163 rfl RS
theorem DU : OZ Tryz.prog 53 := Hv Tryz.underlying53 rfl
theorem Xx : CF Tryz.prog 123 := Tryz.call123
theorem Tp : BY Tryz.prog 56 160 := S3 (by kernel_rfl)
theorem NO : HC Tryz.prog 56 [(0, 1), (1, 1), (2, 1), (3, 1), (4, 1), (5, 1), (6, 1), (7, 1), (8, 1), (9, 1), (10, 6)] := ⟨_, Tryz.underlying56, fun w => by simp [C5 w, EM w, Wf w]⟩
theorem Nr : CF Tryz.prog 96 := Tryz.call96
theorem Wa : IA Tryz.prog 133 21 1 := MA Tryz.underlying133 EM
theorem ZI : ZV Tryz.prog 3 (.int .i64 0) := Ep (by kernel_rfl)
theorem aq : BY Tryz.prog 3 8 := S3 (by kernel_rfl)
theorem GC : IS Tryz.prog 169 1 := Mx Tryz.underlying169 C5
theorem LW : FA Tryz.prog 29 0 0 := Bq Tryz.underlying29 rfl EM
theorem D3 : CF Tryz.prog 127 := Tryz.call127
theorem Yf : FA Tryz.prog 26 0 0 := Bq Tryz.underlying26 rfl EM
theorem Zt : CF Tryz.prog 52 := Tryz.call52
theorem Qi : CF Tryz.prog 102 := Tryz.call102
theorem YI : CF Tryz.prog 101 := Tryz.call101
theorem YM : CF Tryz.prog 43 := Tryz.call43
theorem bI : CF Tryz.prog 46 := Tryz.call46
theorem TH : HC Tryz.prog 163 [(0, 165), (165, 1), (166, 1)] := ⟨_, Tryz.underlying163, fun w => by simp [Dw w, C5 w, RS w]⟩
theorem S5 : ZV Tryz.prog 163 (.agg (Ad.enc (default : Ad)).toArray) := Ep (by kernel_rfl)
theorem TK : CF Tryz.prog 124 := Tryz.call124
theorem Sr : CF Tryz.prog 100 := Tryz.call100
theorem YK : Sz Tryz.prog 104 1 := Dd (by kernel_rfl)
theorem QE : FA Tryz.prog 107 0 0 := Bq Tryz.underlying107 rfl YK
theorem Wo : OZ Tryz.prog 104 := Hv Tryz.underlying104 rfl
theorem SI : ∃ i, Tryz.prog.info? 107 = some i ∧ i.size ≠ 0 := by
  have h : (Tryz.prog.info? 107).map (·.size) = some 2 := by kernel_rfl
  obtain ⟨i, h1, h2⟩ := Option.map_eq_some_iff.1 h
  exact ⟨i, h1, by omega⟩
theorem Yz : CF Tryz.prog 71 := Tryz.call71
theorem TO : Sz Tryz.prog 105 1 := Dd (by kernel_rfl)
theorem Eo : FA Tryz.prog 107 1 1 := Bq Tryz.underlying107 rfl TO
theorem Hh : OZ Tryz.prog 105 := Hv Tryz.underlying105 rfl
theorem Us : Sz Tryz.prog 5 1 := Dd (by kernel_rfl)
theorem YT : ZV Tryz.prog 5 (.int .u8 0) := Ep (by kernel_rfl)
theorem bg : BY Tryz.prog 5 1 := S3 (by kernel_rfl)
theorem cg : Tryz.prog.cellsOf 5 = 1 := by kernel_rfl
theorem bQ : CF Tryz.prog 49 := Tryz.call49
theorem Su : ZV Tryz.prog 107 (.agg (DJ.enc ⟨none, ⟨none, 0, 0⟩⟩).toArray) := Ep (by kernel_rfl)
theorem Xf : CF Tryz.prog 50 := Tryz.call50
theorem OX : CF Tryz.prog 51 := Tryz.call51
theorem Ym : FA Tryz.prog 56 8 8 := Bq Tryz.underlying56 rfl EM
theorem YO : FA Tryz.prog 56 4 4 := Bq Tryz.underlying56 rfl C5
theorem WU : FA Tryz.prog 56 9 9 := Bq Tryz.underlying56 rfl EM
theorem Y7 : FA Tryz.prog 56 5 5 := Bq Tryz.underlying56 rfl C5
theorem bN : CF Tryz.prog 53 := Tryz.call53
theorem Xm : CF Tryz.prog 54 := Tryz.call54
theorem FO : FA Tryz.prog 65 0 0 := Bq Tryz.underlying65 rfl Lj
theorem Hs : FA Tryz.prog 65 3 3 := Bq Tryz.underlying65 rfl EM
theorem Yj : CF Tryz.prog 44 := Tryz.call44
theorem Ih : FA Tryz.prog 65 4 4 := Bq Tryz.underlying65 rfl Jt
theorem Df : FA Tryz.prog 98 4 16 := Bq Tryz.underlying98 rfl Ez
theorem bP : CF Tryz.prog 82 := Tryz.call82
theorem QO : FA Tryz.prog 98 5 21 := Bq Tryz.underlying98 rfl Lj
theorem Mq : FA Tryz.prog 101 3 254 := Bq Tryz.underlying101 rfl RS
theorem aX : IS Tryz.prog 53 16 := Mx Tryz.underlying53 MN
theorem FV : FA Tryz.prog 101 1 165 := Bq Tryz.underlying101 rfl aA
theorem Rp : Sz Tryz.prog 98 22 := Dd (by kernel_rfl)
theorem N4 : IA Tryz.prog 99 4 22 := MA Tryz.underlying99 Rp
theorem Ik : FA Tryz.prog 98 0 0 := Bq Tryz.underlying98 rfl C5
theorem Ho : FA Tryz.prog 98 1 1 := Bq Tryz.underlying98 rfl C5
theorem bD : CF Tryz.prog 23 := Tryz.call23
theorem SK : CF Tryz.prog 64 := Tryz.call64
theorem Dx : FA Tryz.prog 101 0 0 := Bq Tryz.underlying101 rfl Dw
theorem aL : CF Tryz.prog 114 := Tryz.call114
theorem Ti : CF Tryz.prog 79 := Tryz.call79
theorem Kx : ZV Tryz.prog 151 (.agg (Order.enc (default : Order)).toArray) := Ep (by kernel_rfl)
theorem Qa : HC Tryz.prog 151 [(0, 1), (1, 1), (2, 1), (3, 1), (4, 1), (5, 1)] := ⟨_, Tryz.underlying151, fun w => by simp [C5 w, Jt w, EM w]⟩
theorem Ds : Sz Tryz.prog 151 6 := Dd (by kernel_rfl)
theorem B9 : MM Tryz.prog 151 6 := EU Tryz.underlying151 rfl Ds
theorem cM : CF Tryz.prog 87 := Tryz.call87
theorem Zz : CF Tryz.prog 76 := Tryz.call76
theorem Xw : CF Tryz.prog 174 := Tryz.call174
theorem Vl : CF Tryz.prog 176 := Tryz.call176
theorem ZS : CF Tryz.prog 179 := Tryz.call179
theorem Vg : IS Tryz.prog 105 1 := Mx Tryz.underlying105 Us
theorem Zo : OZ Tryz.prog 5 := Hv Tryz.underlying5 rfl
theorem aP : CF Tryz.prog 167 := Tryz.call167
theorem ag : CF Tryz.prog 168 := Tryz.call168
theorem Xv : CF Tryz.prog 180 := Tryz.call180
theorem aC : Sz Tryz.prog 133 21 := Dd (by kernel_rfl)
theorem Yi : MM Tryz.prog 133 21 := EU Tryz.underlying133 rfl aC
theorem aI : CF Tryz.prog 169 := Tryz.call169
theorem bm : CF Tryz.prog 59 := Tryz.call59
theorem ZN : CF Tryz.prog 181 := Tryz.call181
theorem Z1 : CF Tryz.prog 170 := Tryz.call170
theorem YC : CF Tryz.prog 171 := Tryz.call171
theorem aR : CF Tryz.prog 30 := Tryz.call30
theorem Z0 : CF Tryz.prog 172 := Tryz.call172
theorem aF : CF Tryz.prog 151 := Tryz.call151
theorem Hy : CF Tryz.prog 150 := Tryz.call150
theorem X6 : CF Tryz.prog 152 := Tryz.call152
theorem Z6 : CF Tryz.prog 153 := Tryz.call153
theorem Zl : CF Tryz.prog 94 := Tryz.call94
theorem P9 : FA Tryz.prog 151 5 5 := Bq Tryz.underlying151 rfl EM
theorem FQ : FA Tryz.prog 151 3 3 := Bq Tryz.underlying151 rfl EM
theorem Fv : FA Tryz.prog 151 1 1 := Bq Tryz.underlying151 rfl C5
theorem S4 : CF Tryz.prog 154 := Tryz.call154
theorem Gi : FA Tryz.prog 151 2 2 := Bq Tryz.underlying151 rfl Jt
theorem Xy : CF Tryz.prog 155 := Tryz.call155
theorem X0 : CF Tryz.prog 156 := Tryz.call156
theorem HR : FA Tryz.prog 151 4 4 := Bq Tryz.underlying151 rfl EM
theorem YE : CF Tryz.prog 128 := Tryz.call128
theorem Sx : CF Tryz.prog 136 := Tryz.call136
theorem YF : CF Tryz.prog 125 := Tryz.call125
theorem YA : CF Tryz.prog 131 := Tryz.call131
theorem VS : CF Tryz.prog 132 := Tryz.call132
theorem Oq : CF Tryz.prog 134 := Tryz.call134
theorem aW : CF Tryz.prog 161 := Tryz.call161
theorem YB : CF Tryz.prog 133 := Tryz.call133
theorem OL : CF Tryz.prog 135 := Tryz.call135
theorem C4 : FA Tryz.prog 151 0 0 := Bq Tryz.underlying151 rfl C5
theorem Zk : CF Tryz.prog 137 := Tryz.call137
theorem Zh : CF Tryz.prog 138 := Tryz.call138
theorem aN : CF Tryz.prog 139 := Tryz.call139
theorem TJ : CF Tryz.prog 140 := Tryz.call140
theorem au : CF Tryz.prog 99 := Tryz.call99
theorem Za : CF Tryz.prog 103 := Tryz.call103
theorem ZX : CF Tryz.prog 104 := Tryz.call104
theorem Ze : CF Tryz.prog 105 := Tryz.call105
theorem ZQ : CF Tryz.prog 106 := Tryz.call106
theorem ah : CF Tryz.prog 107 := Tryz.call107
theorem XZ : CF Tryz.prog 84 := Tryz.call84
theorem Jr : Sz Tryz.prog 69 10 := Dd (by kernel_rfl)
theorem Ty : HC Tryz.prog 98 [(0, 1), (1, 1), (2, 10), (12, 4), (16, 5), (21, 1)] := ⟨_, Tryz.underlying98, fun w => by simp [C5 w, Jr w, Ko w, Ez w, Lj w]⟩
theorem Up : ZV Tryz.prog 98 (.agg (A0.enc (default : A0)).toArray) := Ep (by kernel_rfl)
theorem Zc : CF Tryz.prog 122 := Tryz.call122
theorem Ys : CF Tryz.prog 67 := Tryz.call67
theorem Kd : FA Tryz.prog 98 3 12 := Bq Tryz.underlying98 rfl Ko
theorem bW : CF Tryz.prog 91 := Tryz.call91
theorem cJ : CF Tryz.prog 92 := Tryz.call92
theorem bC : CF Tryz.prog 93 := Tryz.call93
theorem cB : CF Tryz.prog 95 := Tryz.call95
theorem cI : CF Tryz.prog 97 := Tryz.call97
theorem Zg : CF Tryz.prog 186 := Tryz.call186
theorem Zw : CF Tryz.prog 175 := Tryz.call175
theorem Zf : CF Tryz.prog 158 := Tryz.call158
theorem Zq : CF Tryz.prog 126 := Tryz.call126
theorem WG : CF Tryz.prog 62 := Tryz.call62
theorem bd : CF Tryz.prog 98 := Tryz.call98
theorem KZ : FA Tryz.prog 98 2 2 := Bq Tryz.underlying98 rfl Jr
theorem QN : FA Tryz.prog 69 5 9 := Bq Tryz.underlying69 rfl C5
theorem ax : CF Tryz.prog 83 := Tryz.call83
theorem cA : CF Tryz.prog 77 := Tryz.call77
theorem bu : CF Tryz.prog 78 := Tryz.call78
theorem Qw : CF Tryz.prog 65 := Tryz.call65
theorem Z5 : Sz Tryz.prog 67 3 := Dd (by kernel_rfl)
theorem KB : FA Tryz.prog 69 3 3 := Bq Tryz.underlying69 rfl Z5
theorem KK : IA Tryz.prog 67 3 1 := MA Tryz.underlying67 C5
theorem JU : FA Tryz.prog 69 4 6 := Bq Tryz.underlying69 rfl Z5
theorem FR : FA Tryz.prog 69 0 0 := Bq Tryz.underlying69 rfl C5
theorem KO : FA Tryz.prog 69 1 1 := Bq Tryz.underlying69 rfl C5
theorem GK : FA Tryz.prog 69 2 2 := Bq Tryz.underlying69 rfl EM
theorem Ye : ZV Tryz.prog 69 (.agg (AO.enc (default : AO)).toArray) := Ep (by kernel_rfl)
theorem Y2 : CF Tryz.prog 73 := Tryz.call73
theorem Dq : MM Tryz.prog 69 10 := EU Tryz.underlying69 rfl Jr
theorem Yk : CF Tryz.prog 55 := Tryz.call55
theorem RF : CF Tryz.prog 74 := Tryz.call74
theorem ZR : ZV Tryz.prog 145 (.agg (B8 (n := 2) Ax (Vector.replicate 2 default)).toArray) := Ep (by kernel_rfl)
theorem ba : CF Tryz.prog 80 := Tryz.call80
theorem bh : CF Tryz.prog 81 := Tryz.call81
theorem Xa : CF Tryz.prog 75 := Tryz.call75
theorem bV : CF Tryz.prog 56 := Tryz.call56
theorem Zs : CF Tryz.prog 57 := Tryz.call57
theorem bA : CF Tryz.prog 58 := Tryz.call58
theorem Hn : FA Tryz.prog 75 0 0 := Bq Tryz.underlying75 rfl EM
theorem J6 : FA Tryz.prog 75 1 1 := Bq Tryz.underlying75 rfl Jt
theorem KA : FA Tryz.prog 75 2 2 := Bq Tryz.underlying75 rfl Jt
theorem YP : CF Tryz.prog 70 := Tryz.call70
theorem cH : CF Tryz.prog 45 := Tryz.call45
theorem Jo : ZV Tryz.prog 44 (.agg (Be.enc (default : Be)).toArray) := Ep (by kernel_rfl)
theorem Pw : FA Tryz.prog 101 2 253 := Bq Tryz.underlying101 rfl C5
theorem Zu : Sz Tryz.prog 42 1 := Dd (by kernel_rfl)
theorem MW : HC Tryz.prog 44 [(0, 1), (1, 1)] := ⟨_, Tryz.underlying44, fun w => by simp [Zu w, EM w]⟩
theorem Ju : Sz Tryz.prog 44 2 := Dd (by kernel_rfl)
theorem G4 : MM Tryz.prog 44 2 := EU Tryz.underlying44 rfl Ju
theorem NP : FA Tryz.prog 41 0 0 := Bq Tryz.underlying41 rfl C5
theorem Vx : FA Tryz.prog 41 2 2 := Bq Tryz.underlying41 rfl C5
theorem bX : CF Tryz.prog 60 := Tryz.call60
theorem R3 : FA Tryz.prog 41 1 1 := Bq Tryz.underlying41 rfl C5
theorem bq : CF Tryz.prog 61 := Tryz.call61
theorem Yh : FA Tryz.prog 41 3 3 := Bq Tryz.underlying41 rfl EM
theorem bU : CF Tryz.prog 29 := Tryz.call29
theorem cC : CF Tryz.prog 63 := Tryz.call63
theorem bB : CF Tryz.prog 66 := Tryz.call66
theorem ZZ : CF Tryz.prog 26 := Tryz.call26
theorem Y9 : CF Tryz.prog 21 := Tryz.call21
theorem YS : CF Tryz.prog 28 := Tryz.call28
theorem bj : CF Tryz.prog 39 := Tryz.call39
theorem Yr : CF Tryz.prog 32 := Tryz.call32
theorem bk : CF Tryz.prog 40 := Tryz.call40
theorem ZP : CF Tryz.prog 18 := Tryz.call18
theorem an : L7 Tryz.prog 1 9 (fun s : Au => BO s) := Ww Tryz.underlying9
theorem Zy : L7 Tryz.prog 1 4 (fun b : Bool => .bool b) := Vb Tryz.underlying4
theorem YL : L7 Tryz.prog 1 3 (fun n : Int => .int .i64 n) := TQ Tryz.underlying3
theorem bJ : L7 Tryz.prog 2 23 (fun v : ON _ 6 => .agg (B8 Ax v).toArray) := Ky Bz Tryz.underlying23 (by kernel_rfl) (by kernel_rfl) (.inr ⟨A1, rfl, fun _ => rfl⟩) YL
theorem bT : L7 Tryz.prog 2 24 (fun v : ON _ 6 => .agg (B8 CS v).toArray) := Ky Gh Tryz.underlying24 (by kernel_rfl) (by kernel_rfl) (.inr ⟨Ct, rfl, fun _ => rfl⟩) Zy
theorem Zm : MM Tryz.prog 24 6 := EU Tryz.underlying24 rfl Yq
theorem bZ : L7 Tryz.prog 3 26 (fun x : Room => .agg (Room.enc x).toArray) := HB Tryz.underlying26 (by kernel_rfl) (.cons (by decide) rfl (.inr ⟨CC, rfl, fun _ => rfl⟩) Room.l0 an (by decide) (.cons (by decide) rfl (.inr ⟨Ct, rfl, fun _ => rfl⟩) Room.l1 Zy (by decide) (.cons (by decide) rfl (.inl ⟨U5, fun _ => rfl⟩) Room.l2 bJ (by decide) (.cons (by decide) rfl (.inl ⟨Zm, fun _ => rfl⟩) Room.l3 bT (by decide) .nil)))) (fun x y => by rw [Bool.eq_iff_iff]; cases x; cases y; simp)
theorem bn : L7 Tryz.prog 4 27 (fun v : ON _ 6 => .agg (B8 Room.enc v).toArray) := Ky Room.fl Tryz.underlying27 (by kernel_rfl) (by kernel_rfl) (.inl ⟨MK, fun _ => rfl⟩) bZ
theorem cL : L7 Tryz.prog 2 29 (fun x : Ak => .agg (Ak.enc x).toArray) := HB Tryz.underlying29 (by kernel_rfl) (.cons (by decide) rfl (.inr ⟨CC, rfl, fun _ => rfl⟩) Ak.l0 an (by decide) (.cons (by decide) rfl (.inr ⟨A1, rfl, fun _ => rfl⟩) Ak.l1 YL (by decide) (.cons (by decide) rfl (.inr ⟨A1, rfl, fun _ => rfl⟩) Ak.l2 YL (by decide) (.cons (by decide) rfl (.inr ⟨A1, rfl, fun _ => rfl⟩) Ak.l3 YL (by decide) (.cons (by decide) rfl (.inr ⟨Ct, rfl, fun _ => rfl⟩) Ak.l4 Zy (by decide) .nil))))) (fun x y => by rw [Bool.eq_iff_iff]; cases x; cases y; simp)
theorem bz : L7 Tryz.prog 3 30 (fun v : ON _ 9 => .agg (B8 Ak.enc v).toArray) := Ky Ak.fl Tryz.underlying30 (by kernel_rfl) (by kernel_rfl) (.inl ⟨LO, fun _ => rfl⟩) cL
theorem bY : L7 Tryz.prog 2 32 (fun x : Al => .agg (Al.enc x).toArray) := HB Tryz.underlying32 (by kernel_rfl) (.cons (by decide) rfl (.inr ⟨CC, rfl, fun _ => rfl⟩) Al.l0 an (by decide) (.cons (by decide) rfl (.inr ⟨Ct, rfl, fun _ => rfl⟩) Al.l1 Zy (by decide) (.cons (by decide) rfl (.inr ⟨Ct, rfl, fun _ => rfl⟩) Al.l2 Zy (by decide) (.cons (by decide) rfl (.inr ⟨A1, rfl, fun _ => rfl⟩) Al.l3 YL (by decide) (.cons (by decide) rfl (.inr ⟨A1, rfl, fun _ => rfl⟩) Al.l4 YL (by decide) (.cons (by decide) rfl (.inr ⟨A1, rfl, fun _ => rfl⟩) Al.l5 YL (by decide) .nil)))))) (fun x y => by rw [Bool.eq_iff_iff]; cases x; cases y; simp)
theorem aw : L7 Tryz.prog 3 33 (fun v : ON _ 6 => .agg (B8 Al.enc v).toArray) := Ky Al.fl Tryz.underlying33 (by kernel_rfl) (by kernel_rfl) (.inl ⟨FF, fun _ => rfl⟩) bY
theorem bS : L7 Tryz.prog 5 35 (fun x : AI => .agg (AI.enc x).toArray) := HB Tryz.underlying35 (by kernel_rfl) (.cons (by decide) rfl (.inl ⟨X5, fun _ => rfl⟩) AI.l0 bn (by decide) (.cons (by decide) rfl (.inl ⟨TX, fun _ => rfl⟩) AI.l1 bz (by decide) (.cons (by decide) rfl (.inl ⟨Vp, fun _ => rfl⟩) AI.l2 aw (by decide) .nil))) (fun x y => by rw [Bool.eq_iff_iff]; cases x; cases y; simp)
theorem YH : OZ Tryz.prog 37 := Hv Tryz.underlying37 rfl
theorem Z2 : Sz Tryz.prog 41 4 := Dd (by kernel_rfl)
theorem VK : MM Tryz.prog 41 4 := EU Tryz.underlying41 rfl Z2
theorem Vy : CF Tryz.prog 38 := Tryz.call38
theorem bH : L7 Tryz.prog 1 42 (fun n : Int => .int .i64 n) := TQ Tryz.underlying42
theorem Wr : OZ Tryz.prog 42 := Hv Tryz.underlying42 rfl
theorem bK : L7 Tryz.prog 2 44 (fun x : Be => .agg (Be.enc x).toArray) := HB Tryz.underlying44 (by kernel_rfl) (.cons (by decide) rfl (.inr ⟨Wr, rfl, fun _ => rfl⟩) Be.l0 bH (by decide) (.cons (by decide) rfl (.inr ⟨CC, rfl, fun _ => rfl⟩) Be.l1 an (by decide) .nil)) (fun x y => by rw [Bool.eq_iff_iff]; cases x; cases y; simp)
theorem cO : CF Tryz.prog 47 := Tryz.call47
theorem bt : CF Tryz.prog 22 := Tryz.call22
theorem aO : CF Tryz.prog 24 := Tryz.call24
theorem YV : CF Tryz.prog 37 := Tryz.call37
theorem YQ : HC Tryz.prog 41 [(0, 1), (1, 1), (2, 1), (3, 1)] := ⟨_, Tryz.underlying41, fun w => by simp [C5 w, EM w]⟩
theorem YU : ZV Tryz.prog 41 (.agg (B4.enc (default : B4)).toArray) := Ep (by kernel_rfl)
theorem Wn : FA Tryz.prog 44 0 0 := Bq Tryz.underlying44 rfl Zu
theorem cD : CF Tryz.prog 33 := Tryz.call33
theorem aG : IS Tryz.prog 22 4 := Mx Tryz.underlying22 Z2
theorem av : CF Tryz.prog 48 := Tryz.call48
theorem bM : ZV Tryz.prog 37 (.pointer none) := Ep (by kernel_rfl)
theorem cE : Sz Tryz.prog 37 1 := Dd (by kernel_rfl)
theorem bw : CF Tryz.prog 16 := Tryz.call16
theorem OV  (w : World) : EG Tryz.prog 15 #[] w fun v w' => v = .agg AI.new.enc.toArray ∧ B6 w w' := by
 refine Ai [] [] Tryz.func15 rfl rfl rfl (St.start w []) ?_
 refine Gs ?_
 refine BB rfl LX rfl (fun b1 => ?_)
 refine AM (AA (Gs ?_))
 refine BB rfl LX rfl (fun b2 => ?_)
 refine AM (AA (CB ?_))
 refine Gt (Em Tryz.underlying23 C5 UY rfl (.cons (AS.arr (n := 6) (i := 0) Bz (by decide) (by decide)) rfl rfl rfl (.cons (AS.arr (n := 6) (i := 1) Bz (by decide) (by decide)) rfl rfl rfl (.cons (AS.arr (n := 6) (i := 2) Bz (by decide) (by decide)) rfl rfl rfl (.cons (AS.arr (n := 6) (i := 3) Bz (by decide) (by decide)) rfl rfl rfl (.cons (AS.arr (n := 6) (i := 4) Bz (by decide) (by decide)) rfl rfl rfl (.cons (AS.arr (n := 6) (i := 5) Bz (by decide) (by decide)) rfl rfl rfl .nil))))))) ?_
 refine Gt (Em Tryz.underlying24 Jt ae rfl (.cons (AS.arr (n := 6) (i := 5) Gh (by decide) (by decide)) rfl rfl rfl .nil)) ?_
 refine Gt (BD Ub NV rfl (.cons Room.l0 rfl rfl rfl (.cons Room.l2 rfl rfl rfl (.cons Room.l3 rfl rfl rfl .nil)))) ?_
 refine Gt (Em Tryz.underlying23 C5 UY rfl (.cons (AS.arr (n := 6) (i := 0) Bz (by decide) (by decide)) rfl rfl rfl (.cons (AS.arr (n := 6) (i := 1) Bz (by decide) (by decide)) rfl rfl rfl (.cons (AS.arr (n := 6) (i := 2) Bz (by decide) (by decide)) rfl rfl rfl (.cons (AS.arr (n := 6) (i := 3) Bz (by decide) (by decide)) rfl rfl rfl (.cons (AS.arr (n := 6) (i := 4) Bz (by decide) (by decide)) rfl rfl rfl (.cons (AS.arr (n := 6) (i := 5) Bz (by decide) (by decide)) rfl rfl rfl .nil))))))) ?_
 refine Gt (BD Ub NV rfl (.cons Room.l0 rfl rfl rfl (.cons Room.l2 rfl rfl rfl .nil))) ?_
 refine Gt (Em Tryz.underlying23 C5 UY rfl (.cons (AS.arr (n := 6) (i := 0) Bz (by decide) (by decide)) rfl rfl rfl (.cons (AS.arr (n := 6) (i := 1) Bz (by decide) (by decide)) rfl rfl rfl (.cons (AS.arr (n := 6) (i := 2) Bz (by decide) (by decide)) rfl rfl rfl (.cons (AS.arr (n := 6) (i := 3) Bz (by decide) (by decide)) rfl rfl rfl (.cons (AS.arr (n := 6) (i := 4) Bz (by decide) (by decide)) rfl rfl rfl (.cons (AS.arr (n := 6) (i := 5) Bz (by decide) (by decide)) rfl rfl rfl .nil))))))) ?_
 refine Gt (BD Ub NV rfl (.cons Room.l0 rfl rfl rfl (.cons Room.l2 rfl rfl rfl (.cons Room.l1 rfl rfl rfl .nil)))) ?_
 refine Gt (Em Tryz.underlying23 C5 UY rfl (.cons (AS.arr (n := 6) (i := 0) Bz (by decide) (by decide)) rfl rfl rfl (.cons (AS.arr (n := 6) (i := 1) Bz (by decide) (by decide)) rfl rfl rfl (.cons (AS.arr (n := 6) (i := 2) Bz (by decide) (by decide)) rfl rfl rfl (.cons (AS.arr (n := 6) (i := 3) Bz (by decide) (by decide)) rfl rfl rfl (.cons (AS.arr (n := 6) (i := 4) Bz (by decide) (by decide)) rfl rfl rfl (.cons (AS.arr (n := 6) (i := 5) Bz (by decide) (by decide)) rfl rfl rfl .nil))))))) ?_
 refine Gt (BD Ub NV rfl (.cons Room.l0 rfl rfl rfl (.cons Room.l2 rfl rfl rfl (.cons Room.l1 rfl rfl rfl .nil)))) ?_
 refine Gt (Em Tryz.underlying23 C5 UY rfl (.cons (AS.arr (n := 6) (i := 0) Bz (by decide) (by decide)) rfl rfl rfl (.cons (AS.arr (n := 6) (i := 1) Bz (by decide) (by decide)) rfl rfl rfl (.cons (AS.arr (n := 6) (i := 2) Bz (by decide) (by decide)) rfl rfl rfl (.cons (AS.arr (n := 6) (i := 3) Bz (by decide) (by decide)) rfl rfl rfl (.cons (AS.arr (n := 6) (i := 4) Bz (by decide) (by decide)) rfl rfl rfl (.cons (AS.arr (n := 6) (i := 5) Bz (by decide) (by decide)) rfl rfl rfl .nil))))))) ?_
 refine Gt (Em Tryz.underlying24 Jt ae rfl (.cons (AS.arr (n := 6) (i := 2) Gh (by decide) (by decide)) rfl rfl rfl .nil)) ?_
 refine Gt (BD Ub NV rfl (.cons Room.l0 rfl rfl rfl (.cons Room.l2 rfl rfl rfl (.cons Room.l3 rfl rfl rfl (.cons Room.l1 rfl rfl rfl .nil))))) ?_
 refine Gt (Em Tryz.underlying23 C5 UY rfl (.cons (AS.arr (n := 6) (i := 0) Bz (by decide) (by decide)) rfl rfl rfl (.cons (AS.arr (n := 6) (i := 1) Bz (by decide) (by decide)) rfl rfl rfl (.cons (AS.arr (n := 6) (i := 2) Bz (by decide) (by decide)) rfl rfl rfl (.cons (AS.arr (n := 6) (i := 3) Bz (by decide) (by decide)) rfl rfl rfl (.cons (AS.arr (n := 6) (i := 4) Bz (by decide) (by decide)) rfl rfl rfl (.cons (AS.arr (n := 6) (i := 5) Bz (by decide) (by decide)) rfl rfl rfl .nil))))))) ?_
 refine Gt (BD Ub NV rfl (.cons Room.l0 rfl rfl rfl (.cons Room.l2 rfl rfl rfl .nil))) ?_
 refine VZ (cs := B8 (n := 6) Room.enc (Vector.replicate 6 default)) (cs' := B8 (n := 6) Room.enc AI.Rn) rfl Tryz.underlying95 Pt NV (by decide) (by decide) (by kernel_rfl) (.cons (AS.arr (n := 6) (i := 0) Room.fl (by decide) (by decide)) rfl rfl rfl (.cons (AS.arr (n := 6) (i := 1) Room.fl (by decide) (by decide)) rfl rfl rfl (.cons (AS.arr (n := 6) (i := 2) Room.fl (by decide) (by decide)) rfl rfl rfl (.cons (AS.arr (n := 6) (i := 3) Room.fl (by decide) (by decide)) rfl rfl rfl (.cons (AS.arr (n := 6) (i := 4) Room.fl (by decide) (by decide)) rfl rfl rfl (.cons (AS.arr (n := 6) (i := 5) Room.fl (by decide) (by decide)) rfl rfl rfl .nil)))))) rfl (fun b3 => ?_)
 refine Gt (Aq rfl Tryz.underlying95 rfl) (Gm rfl (Gn (.t5 0 1 20 21 22) (Ae ?_)))
 refine Bf (.t5 22 0 1 20 21) ?_
 refine BU (.t .h) ?_
 refine CJ (fun (k : Int) => 0 ≤ k ∧ k ≤ 6) (fun (k : Int) => (6 - k).toNat) (fun (k : Int) => [(22, .int .i64 k)]) (fun (k : Int) => [Ab.box b2 35 (AI.enc (AI.Rx k.toNat))]) (0) ?_ rfl rfl (fun k hI1 => ?_)
 · exact ⟨Int.le_refl _, by omega⟩
 obtain ⟨hI11, hI12⟩ := hI1
 refine Gs (Gt (A5 rfl rfl) (AM (AA (Ao ?_))))
 refine Gc (fun c1 => ?_) (fun c1 => ?_)
 ·
  have c1p := kz c1
  dsimp only at c1p
  refine Aa ?_
  refine AB (.t5 0 1 20 21 22) ?_
  refine AA (Ao (Ae (Gs (Gm rfl ?_))))
  refine Gt (Bg cG (by decide) (Kn.own .m1) rfl rfl (by omega) (by dsimp only; omega)) ?_
  refine Gt (Nd rfl MK (by decide) Room.fl (Kn.own .m1) (by simp; omega)) ?_
  refine BB rfl NV rfl (fun b4 => ?_)
  refine Ga rfl ?_
  refine AQ (AK (AS.id Room.fl.len Room.fl.one) rfl rfl rfl Pt rfl .h) ?_
  refine Gn (.t7 0 1 2 3 20 21 22) (AJ (Gm rfl (Gt (AZ rfl MK .m0 (AS.id Room.fl.len Room.fl.one) rfl) (Gt (Ah GJ rfl) ?_))))
  refine Gt (AR N6 rfl rfl (by omega) (by omega)) ?_
  refine AQ (AK (AI.l0.comp (AS.ar (n := 6) Room.fl (by omega))) rfl rfl rfl Pt rfl (.t .h)) ?_
  refine AM (AB (.t5 0 1 20 21 22) ?_)
  refine AU (AA (AJ ?_))
  refine Gt (Aw rfl rfl (IntWalk.i64_in _ (by omega))) ?_
  refine Gm rfl ?_
  refine AM (AB (.t5 0 1 20 21 22) ?_)
  refine Bx (k + 1) ?_ ?_ (.t5 22 0 1 20 21) (by rw [AI.Tx (by omega)]; exact (.cons _ (.refl _)))
  · exact ⟨by omega, by omega⟩
  · omega
 have c1p := kz c1
 dsimp only at c1p
 obtain rfl : k = 6 := by omega
 refine BV (AT (AT (Af ?_)))
 refine AB (.t2 0 1) ?_
 refine AA (CB (Gt (BD QH Js rfl (.cons Ak.l0 rfl rfl rfl (.cons Ak.l1 rfl rfl rfl .nil))) (Gt (BD QH Js rfl (.cons Ak.l0 rfl rfl rfl (.cons Ak.l1 rfl rfl rfl (.cons Ak.l3 rfl rfl rfl .nil)))) (Gt (BD QH Js rfl (.cons Ak.l0 rfl rfl rfl (.cons Ak.l1 rfl rfl rfl .nil))) (Gt (BD QH Js rfl (.cons Ak.l0 rfl rfl rfl (.cons Ak.l1 rfl rfl rfl (.cons Ak.l3 rfl rfl rfl .nil)))) (Gt (BD QH Js rfl (.cons Ak.l0 rfl rfl rfl (.cons Ak.l2 rfl rfl rfl (.cons Ak.l3 rfl rfl rfl .nil)))) (Gt (BD QH Js rfl (.cons Ak.l0 rfl rfl rfl (.cons Ak.l3 rfl rfl rfl .nil))) ?_)))))))
 refine Gt (BD QH Js rfl (.cons Ak.l0 rfl rfl rfl .nil)) (Gt (BD QH Js rfl (.cons Ak.l0 rfl rfl rfl (.cons Ak.l1 rfl rfl rfl (.cons Ak.l4 rfl rfl rfl .nil)))) (Gt (BD QH Js rfl (.cons Ak.l0 rfl rfl rfl (.cons Ak.l2 rfl rfl rfl (.cons Ak.l3 rfl rfl rfl .nil)))) ?_))
 refine VZ (cs := B8 (n := 9) Ak.enc (Vector.replicate 9 default)) (cs' := B8 (n := 9) Ak.enc AI.Pn) rfl Tryz.underlying96 MQ Js (by decide) (by decide) (by kernel_rfl) (.cons (AS.arr (n := 9) (i := 0) Ak.fl (by decide) (by decide)) rfl rfl rfl (.cons (AS.arr (n := 9) (i := 1) Ak.fl (by decide) (by decide)) rfl rfl rfl (.cons (AS.arr (n := 9) (i := 2) Ak.fl (by decide) (by decide)) rfl rfl rfl (.cons (AS.arr (n := 9) (i := 3) Ak.fl (by decide) (by decide)) rfl rfl rfl (.cons (AS.arr (n := 9) (i := 4) Ak.fl (by decide) (by decide)) rfl rfl rfl (.cons (AS.arr (n := 9) (i := 5) Ak.fl (by decide) (by decide)) rfl rfl rfl (.cons (AS.arr (n := 9) (i := 6) Ak.fl (by decide) (by decide)) rfl rfl rfl (.cons (AS.arr (n := 9) (i := 7) Ak.fl (by decide) (by decide)) rfl rfl rfl (.cons (AS.arr (n := 9) (i := 8) Ak.fl (by decide) (by decide)) rfl rfl rfl .nil))))))))) rfl (fun b5 => ?_)
 refine Gt (Aq rfl Tryz.underlying96 rfl) (Gm rfl (Gn (.t5 0 1 41 42 43) (Ae ?_)))
 refine Bf (.t5 43 0 1 41 42) ?_
 refine BU (.t .h) ?_
 refine CJ (fun (k : Int) => 0 ≤ k ∧ k ≤ 9) (fun (k : Int) => (9 - k).toNat) (fun (k : Int) => [(43, .int .i64 k)]) (fun (k : Int) => [Ab.box b2 35 (AI.enc (AI.KQ k.toNat))]) (0) ?_ rfl rfl (fun k hI2 => ?_)
 · exact ⟨Int.le_refl _, by omega⟩
 obtain ⟨hI21, hI22⟩ := hI2
 refine Gs (Gt (A5 rfl rfl) (AM (AA (Ao ?_))))
 refine Gc (fun c2 => ?_) (fun c2 => ?_)
 ·
  have c2p := kz c2
  dsimp only at c2p
  refine Aa ?_
  refine AB (.t5 0 1 41 42 43) ?_
  refine AA (Ao (Ae (Gs (Gm rfl ?_))))
  refine Gt (Bg bl (by decide) (Kn.own .m1) rfl rfl (by omega) (by dsimp only; omega)) ?_
  refine Gt (Nd rfl LO (by decide) Ak.fl (Kn.own .m1) (by simp; omega)) ?_
  refine BB rfl Js rfl (fun b6 => ?_)
  refine Ga rfl ?_
  refine AQ (AK (AS.id Ak.fl.len Ak.fl.one) rfl rfl rfl MQ rfl .h) ?_
  refine Gn (.t7 0 1 4 5 41 42 43) (AJ (Gm rfl (Gt (AZ rfl LO .m0 (AS.id Ak.fl.len Ak.fl.one) rfl) (Gt (Ah Cq rfl) ?_))))
  refine Gt (AR Fo rfl rfl (by omega) (by omega)) ?_
  refine AQ (AK (AI.l1.comp (AS.ar (n := 9) Ak.fl (by omega))) rfl rfl rfl MQ rfl (.t .h)) ?_
  refine AM (AB (.t5 0 1 41 42 43) ?_)
  refine AU (AA (AJ ?_))
  refine Gt (Aw rfl rfl (IntWalk.i64_in _ (by omega))) ?_
  refine Gm rfl ?_
  refine AM (AB (.t5 0 1 41 42 43) ?_)
  refine Bx (k + 1) ?_ ?_ (.t5 43 0 1 41 42) (by rw [AI.Tw (by omega)]; exact (.cons _ (.refl _)))
  · exact ⟨by omega, by omega⟩
  · omega
 have c2p := kz c2
 dsimp only at c2p
 obtain rfl : k = 9 := by omega
 refine BV (AT (AT (Af ?_)))
 refine AB (.t2 0 1) ?_
 refine AA (Gs (Gt (BD VF K2 rfl (.cons Al.l0 rfl rfl rfl (.cons Al.l1 rfl rfl rfl (.cons Al.l2 rfl rfl rfl (.cons Al.l4 rfl rfl rfl .nil))))) (Gt (Ah Bk rfl) ?_)))
 refine Gt (AR Cy rfl rfl (by decide) (by decide)) ?_
 refine AQ (AK (AI.l2.comp (AS.arr (n := 6) Al.fl (by decide) (by decide))) rfl rfl rfl Jv rfl .h) ?_
 refine Gn (.t2 0 1) (Gs (Gt (BD VF K2 rfl (.cons Al.l0 rfl rfl rfl (.cons Al.l1 rfl rfl rfl (.cons Al.l3 rfl rfl rfl (.cons Al.l4 rfl rfl rfl .nil))))) (Gt (Ah Bk rfl) ?_)))
 refine Gt (AR Cy rfl rfl (by decide) (by decide)) ?_
 refine AQ (AK (AI.l2.comp (AS.arr (n := 6) Al.fl (by decide) (by decide))) rfl rfl rfl Jv rfl .h) ?_
 refine Gn (.t2 0 1) (Gs (Gt (AZ rfl BT .m0 (AS.id AI.fl.len AI.fl.one) rfl) ?_))
 refine AQ (AK (AS.id AI.fl.len AI.fl.one) rfl rfl rfl Dw rfl (.t (.t (.t .h)))) ?_
 refine Gn (.t1 0) (Ac ?_)
 refine AY rfl (.cell rfl .m3 (.inl ⟨(by rw [AI.fl.len]; exact BT), rfl⟩) .n) ?_
 intro w1 hS; refine ⟨?_, hS.Am⟩; rfl
theorem G5  : Ic Tryz.prog 37 #[] [] (fun v B => ∃ (b : Nat) (V : AH) (ls : Vector BG 4) (ev : List Ing.Event), v = .pointer (some ⟨b, 0, none⟩) ∧ A2 V ls ev = AN.new ∧ B = [Ab.box b 101 (AH.enc V), Ab.C3 (Bt 9 (AH.Ap V) ls), Ab.own (AH.last V) 56 16 ((ev).flatMap Ing.Event.enc)]) := by
 intro w hS0
 refine Ai _ _ Tryz.func37 rfl rfl rfl (hS0) ?_
 refine Gs (Ga rfl (Gn (.nil _) (Gs ?_)))
 refine A8 rfl bE .n (fun w hS => OV w) ?_
 refine Gt (BD aY ZU rfl (.cons AH.l0 rfl rfl rfl .nil)) ?_
 refine Bw rfl rfl rfl (fun b1 => ?_)
 refine Ga rfl (Gn (.t1 0) (Ac ?_))
 refine AY rfl (.tmp rfl .n) ?_
 intro w1 hS
 have hS := (hS.perm (Av.perm (.c .h .n))).Ay
 have h2 := (St.XD hS (l := Bt 9 Mg Me) (fun r hr => U7 9 w1 r hr)).Cj 56 16
 refine ⟨_, ⟨b1, ⟨AI.new, Mg, 0, ⟨none, 0, 0⟩⟩, Me, [], rfl, rfl, rfl⟩, h2.perm (W4 _ _ _)⟩
theorem Bv {t0 : Nat} (h : Hd) (xs : List Au) (hb : xs.length ≤ 17592186044416) : Ev Tryz.prog 69 #[h.val] [] (fun w => Rd w h t0 1 (xs.flatMap A4)) (fun v B => ∃ h' : Hd, v = h'.val ∧ h'.len = xs.length ∧ B = [Ab.own h' 9 1 (xs.flatMap A4)]) := by
 intro w hS0 hH
 have r0 := hH
 have hl := r0.KV DB (by decide)
 refine Ai _ _ Tryz.func69 rfl rfl rfl (hS0) ?_
 refine Gs (Ga rfl (Gn (.t1 0) (CB (Gm rfl (Gt (SX Tryz.underlying52 rfl) (Gn (.t2 0 4) ?_))))))
 refine Gc (fun c1 => ?_) (fun c1 => ?_)
 ·
  refine Gs (Ga rfl (Gn (.t1 2) (Ac (AD ?_))))
  refine AY rfl (.tmp rfl .n) ?_
  intro w1 hS
  have hS := (hS.perm (Av.perm .n)).Ay
  have hx : xs = [] := by
    rcases xs with _ | ⟨x, xs⟩
    · rfl
    · exfalso
      obtain ⟨b, o, C, fz, e1, _⟩ := r0.2 (by simp [A4])
      rw [e1] at c1
      cases c1
  subst hx
  exact ⟨_, ⟨⟨none, 0, 0⟩, rfl, rfl, rfl⟩, hS.Cj _ _⟩
 have c1p := kz c1
 refine Aa ?_
 refine AB (.t1 0) ?_
 refine AA (Gs ?_)
 refine Xe A4 rfl Tryz.underlying52 EM (fun b1 => ?_)
 refine Gm rfl ?_
 refine G2 (e := A4) rfl Tryz.underlying52 EM Qe rfl WS (by decide) rfl rfl (fun w hS => Src.De Tryz.underlying52 ((Kn.Gx r0) w hS)) rfl rfl (by omega) (fun _ => .h) (fun h1 h1l => ?_)
 refine Ga rfl (Gn (.t1 2) (Ac ?_))
 refine AY rfl (.tmp rfl .n) ?_
 intro w1 hS
 have hS := (hS.perm (Av.perm (.c .h .n))).Ay
 exact ⟨_, ⟨_, rfl, by omega, rfl⟩, hS⟩
theorem Np {t0 : Nat} (l : A9) (qs : List Au) (hb : qs.length ≤ 17592186044416) : Ev Tryz.prog 91 #[.agg l.enc.toArray] [] (fun w => Rd w l.queue t0 1 (qs.flatMap A4) ∧ l.queue.len ≤ l.queue.cap) (fun v B => (qs = [] ∧ v = .tuple #[.agg l.enc.toArray, BO [], .bool false] ∧ B = []) ∨ (∃ q r, qs = q :: r ∧ ∃ h' : Hd, v = .tuple #[.agg (A9.enc ⟨l.now, l.Cd, l.ret, h'⟩).toArray, BO q, .bool true] ∧ h'.len = r.length ∧ B = [Ab.own h' 9 1 (r.flatMap A4)])) := by
 intro w hS0 hH
 obtain ⟨r0, k0⟩ := hH
 have hl0 := r0.KV DB (by decide)
 refine Ai _ _ Tryz.func91 rfl rfl rfl (hS0) ?_
 refine Gs ?_
 refine Bw rfl rfl rfl (fun b1 => ?_)
 refine BB rfl WQ rfl (fun b2 => ?_)
 refine Ga rfl (Ga rfl (Gn (.t2 1 2) (CB (Gt (Ah D6 rfl) (Gt (AF rfl Du .m1 A9.l3 rfl rfl) (Gt (Aq rfl Tryz.underlying52 rfl) (Gt (Aj rfl rfl) ?_)))))))
 refine Gn (.t3 1 2 9) ?_
 refine Gc (fun c1 => ?_) (fun c1 => ?_)
 ·
  have c1p := kz c1
  have hq : qs = [] := List.length_eq_zero_iff.1 (by omega)
  refine Gs (Gt (AZ rfl HV .m1 (AS.id A9.fl.len A9.fl.one) rfl) ?_)
  refine AQ (AK (AS.id A9.fl.len A9.fl.one) rfl rfl rfl Ko rfl .h) ?_
  refine Ga rfl (Ga rfl (Gn (.t3 2 3 4) (Ac (AD ?_))))
  refine AY rfl (.cell rfl .m0 (.inl ⟨(by rw [A9.fl.len]; exact HV), rfl⟩) (.tmp rfl (.tmp rfl .n))) ?_
  intro w1 hS
  have hS := (hS.perm (Av.perm .n)).Ay
  exact ⟨_, .inl ⟨hq, rfl, rfl⟩, hS⟩
 have c1p := kz c1
 obtain ⟨q, r, rfl⟩ := Bc.TF (qs := qs) (by omega)
 rw [List.length_cons] at hl0 hb
 refine Aa ?_
 refine AB (.t2 1 2) ?_
 refine AA (Gs (Gt (Ah D6 rfl) (Gt (AF rfl Du .m1 A9.l3 rfl rfl) ?_)))
 refine Gt (Bg Gu (by decide) (Kn.Gx r0) rfl rfl (by omega) (by omega)) ?_
 refine Gt (C9 rfl CC (Kn.Gx r0) (by simp)) ?_
 refine Ga rfl (Gn (.t3 1 2 5) (Gs (Gt (Ah D6 rfl) (Gt (AF rfl Du .m1 A9.l3 rfl rfl) ?_))))
 refine Gt (Q2 Tryz.underlying52 EM rfl rfl (by decide) (by omega)) ?_
 refine BF rfl UE (.c rfl .n) .n (Bv _ r (by omega)) (fun w hS => by have h := (Kn.cut (l := 1) (r := l.queue.len) DB (Kn.Gx r0) (by omega) (Nat.le_refl _) (Tk.of k0)) w hS; rw [show (((q :: r).take l.queue.len).drop 1) = r from by rw [List.take_of_length_le (by simp; omega)]; rfl] at h; exact h) (fun v2 B hv => ?_)
 obtain ⟨y3, rfl, y4, rfl⟩ := hv
 refine Gt (Ah D6 rfl) ?_
 refine AQ (AK A9.l3 rfl rfl rfl Lj rfl (.t (.t .h))) ?_
 refine Gn (.t3 1 2 5) (Gs (Gt (AZ rfl HV .m2 (AS.id A9.fl.len A9.fl.one) rfl) (Gm rfl ?_)))
 refine AQ (AK (AS.id A9.fl.len A9.fl.one) rfl rfl rfl Ko rfl (.t .h)) ?_
 refine Ga rfl (Ga rfl (Gn (.t3 2 3 4) (Ac ?_)))
 refine AY rfl (.cell rfl .m1 (.inl ⟨(by rw [A9.fl.len]; exact HV), rfl⟩) (.tmp rfl (.tmp rfl .n))) ?_
 intro w1 hS
 have hS := (hS.perm (Av.perm (.c .h .n))).Ay
 exact ⟨_, .inr ⟨q, r, rfl, _, rfl, by assumption, rfl⟩, hS⟩
theorem Mb (p : Ar) (w : World) : EG Tryz.prog 92 #[.agg p.enc.toArray] w fun v w' => v = .agg (Ar.enc ⟨p.wait, 0, false, p.ring, p.cut⟩).toArray ∧ B6 w w' := by
 refine Ai [] [] Tryz.func92 rfl rfl rfl (St.start w []) ?_
 refine Gs ?_
 refine Bw rfl rfl rfl (fun b1 => ?_)
 refine BB rfl Qf rfl (fun b2 => ?_)
 refine Gn (.t2 1 2) (Gs (Gt (Ah Lb rfl) ?_))
 refine AQ (AK Ar.l2 rfl rfl rfl Jt rfl (.t .h)) ?_
 refine Gt (Ah JJ rfl) ?_
 refine AQ (AK Ar.l1 rfl rfl rfl C5 rfl (.t .h)) ?_
 refine Gn (.t2 1 2) (Gs (Gt (AZ rfl Cm .m1 (AS.id Ar.fl.len Ar.fl.one) rfl) ?_))
 refine AQ (AK (AS.id Ar.fl.len Ar.fl.one) rfl rfl rfl Ez rfl .h) ?_
 refine Gn (.t1 2) (Ac ?_)
 refine AY rfl (.cell rfl .m0 (.inl ⟨(by rw [Ar.fl.len]; exact Cm), rfl⟩) .n) ?_
 intro w1 hS; refine ⟨?_, hS.Am⟩; rfl
theorem Gy (s : Au) (c : UInt8) (hs : s.length ≤ 10000000) (w : World) : EG Tryz.prog 116 #[BO s, .int .u8 (c.toNat : Int)] w fun v w' => v = BO (Words.RT c s) ∧ B6 w w' := by
 refine Ai [] [] Tryz.func116 rfl rfl rfl (St.start w []) ?_
 refine Gs (Ga rfl (Gn (.t2 0 1) (Ao (Ae ?_))))
 refine Bf (.t2 0 1) ?_
 refine CJ (fun (r : Au) => Words.RT c s = Words.RT c r ∧ r.length ≤ s.length) (fun (r : Au) => r.length) (fun (r : Au) => [(0, BO r)]) (fun (r : Au) => []) (s) ?_ rfl rfl (fun r hI1 => ?_)
 · exact ⟨rfl, Nat.le_refl _⟩
 obtain ⟨hI11, hI12⟩ := hI1
 refine CB (Gm rfl (Gt (BI rfl Tryz.underlying9 rfl) (Gt (Cf rfl rfl) (Gm rfl (Ba 8 rfl rfl (fun q => AE rfl) (Ba 8 rfl rfl (fun q => AE rfl) (Ba 8 rfl rfl (fun q => BI rfl Tryz.underlying9 (BX rfl q)) ?_)))))))
 refine Ba 8 rfl rfl (fun q => by have q1 := q; (try simp at q1); exact E8 (BX rfl q) rfl (IntWalk.i64_in _ (by omega))) ?_
 refine Ba 8 rfl rfl (fun q => by have q1 := q; (try simp at q1); exact Bi Tryz.underlying9 (BX rfl q) (BX rfl q) (by omega) (by omega)) ?_
 refine Ba 8 rfl rfl (fun q => AE rfl) (Ba 8 rfl rfl (fun q => Aj (BX rfl q) (BX rfl q)) (Gt (BH rfl rfl (fun h => h)) (Gn (.t3 0 1 16) ?_)))
 refine Gc (fun c1 => ?_) (fun c1 => ?_)
 ·
  have c1p := kz c1
  have hlt : 0 < r.length := by simp at c1; omega
  refine Aa ?_
  refine AB (.t2 0 1) ?_
  refine AA (Ae (AJ (Gm rfl (Gm rfl (Gt (BI rfl Tryz.underlying9 rfl) ?_)))))
  refine Gt (E8 rfl rfl (IntWalk.i64_in _ (by omega))) ?_
  refine Gt (IE Tryz.underlying9 rfl rfl (by omega) (by omega)) ?_
  refine Ga rfl ?_
  refine AM (AB (.t2 0 1) ?_)
  refine AU ?_
  refine Bx _ ?_ ?_ (.t2 0 1) (.refl _)
  · exact ⟨by rw [hI11, Words.aV c1] <;> rfl, by first | (simp; done) | (simp; omega)⟩
  · first | (simp; done) | (simp; omega)
 refine BV (AT (AT (Af ?_)))
 refine AB (.t1 0) ?_
 refine AA (Gs (Gm rfl (Ga rfl (Gn (.t1 4) (Ac ?_)))))
 refine AY rfl (.tmp rfl .n) ?_
 intro w1 hS; refine ⟨?_, hS.Am⟩; rw [hI11, Words.Zj c1]; rfl
theorem Er (s : Au) (c : UInt8) (hs : s.length ≤ 10000000) (w : World) : EG Tryz.prog 115 #[BO s, .int .u8 (c.toNat : Int)] w fun v w' => v = BO (Words.PM c s) ∧ B6 w w' := by
 refine Ai [] [] Tryz.func115 rfl rfl rfl (St.start w []) ?_
 refine Gs (Ga rfl (Gn (.t2 0 1) (Ao (Ae ?_))))
 refine Bf (.t2 0 1) ?_
 refine CJ (fun (r : Au) => Words.PM c s = Words.PM c r ∧ r.length ≤ s.length) (fun (r : Au) => r.length) (fun (r : Au) => [(0, BO r)]) (fun (r : Au) => []) (s) ?_ rfl rfl (fun r hI1 => ?_)
 · exact ⟨rfl, Nat.le_refl _⟩
 obtain ⟨hI11, hI12⟩ := hI1
 refine CB (Gm rfl (Gt (BI rfl Tryz.underlying9 rfl) (Gt (Cf rfl rfl) (Gm rfl (Ba 8 rfl rfl (fun q => AE rfl) ?_)))))
 refine Ba 8 rfl rfl (fun q => by have q1 := q; (try simp at q1); exact Bi Tryz.underlying9 (BX rfl q) rfl (by decide) (by omega)) ?_
 refine Ba 8 rfl rfl (fun q => AE rfl) (Ba 8 rfl rfl (fun q => Aj (BX rfl q) (BX rfl q)) (Gt (BH rfl rfl (fun h => h)) (Gn (.t3 0 1 13) ?_)))
 refine Gc (fun c1 => ?_) (fun c1 => ?_)
 ·
  have c1p := kz c1
  have hlt : 0 < r.length := by simp at c1; omega
  refine Aa ?_
  refine AB (.t2 0 1) ?_
  refine AA (Ae (AJ (Gm rfl ?_)))
  refine Gt (GG Tryz.underlying9 rfl rfl (by decide) (by omega)) ?_
  refine Ga rfl ?_
  refine AM (AB (.t2 0 1) ?_)
  refine AU ?_
  refine Bx _ ?_ ?_ (.t2 0 1) (.refl _)
  · exact ⟨by rw [hI11, Words.Z9 c1] <;> rfl, by first | (simp; done) | (simp; omega)⟩
  · first | (simp; done) | (simp; omega)
 refine BV (AT (AT (Af ?_)))
 refine AB (.t1 0) ?_
 refine AA (Gs (Gm rfl (Ga rfl (Gn (.t1 4) (Ac ?_)))))
 refine AY rfl (.tmp rfl .n) ?_
 intro w1 hS; refine ⟨?_, hS.Am⟩; rw [hI11, Words.ZM c1]; rfl
theorem HX (s : Au) (hs : s.length ≤ 10000000) (w : World) : EG Tryz.prog 94 #[BO s, BO [32]] w fun v w' => v = BO (Words.PM 32 (Words.RT 32 s)) ∧ B6 w w' := by
 refine Ai [] [] Tryz.func94 rfl rfl rfl (St.start w []) ?_
 refine Gs (Ga rfl (Gn (.t2 0 1) (CB (Gm rfl (Gt (Bo rfl rfl) (Gm rfl (BZ 9 rfl rfl (fun q => AE rfl) ?_)))))))
 refine BZ 9 rfl rfl (fun q => Bo (cF rfl q) rfl) ?_
 refine Gt (BR rfl rfl (fun h => by rw [h]; rfl)) ?_
 refine Gn (.t3 0 1 12) ?_
 refine Gc (fun c1 => ?_) (fun c1 => ?_)
 ·
  refine Gs (Gm rfl (Ga rfl (Gn (.t1 4) (Ac (AD ?_)))))
  refine AY rfl (.tmp rfl .n) ?_
  intro w1 hS; refine ⟨?_, hS.Am⟩; have e : s = [] := by simpa using c1
  subst e; rfl
 have c1p := kz c1
 refine Aa ?_
 refine AB (.t2 0 1) ?_
 refine AA (CB (Gm rfl (Gt (BI rfl Tryz.underlying9 rfl) (Gt (Aj rfl rfl) (Gm rfl (Ba 17 rfl rfl (fun q => AE rfl) ?_))))))
 refine Ba 17 rfl rfl (fun q => by have q1 := q; (try simp at q1); exact Bi Tryz.underlying9 (BX rfl q) rfl (by decide) (by (try simp only [List.length_cons, List.length_nil]); omega)) ?_
 refine Ba 17 rfl rfl (fun q => A5 (BX rfl q) rfl) (Gt (BH rfl rfl (fun h => h)) (Gn (.t3 0 1 21) ?_))
 refine FL rfl rfl ?_
 refine Ao ?_
 refine BE (N := 8) [0, 0, 2, 7, 0, 16, 63, 127] mix (by kernel_rfl) rfl ?_
 refine Pf 0 rfl (AE rfl) (Pf 1 rfl (AE rfl) ?_)
 refine Pf 2 rfl (Bi Tryz.underlying9 rfl rfl (by decide) (by (try simp only [List.length_cons, List.length_nil]); omega)) ?_
 refine BW 3 rfl rfl (by kernel_rfl) (LH (Ka (Dv aM (.c rfl (.c rfl .n)) (fun w hS => Gy _ 32 hs w)))) ?_
 refine Pf 4 rfl (AE rfl) ?_
 refine Pf 5 rfl (Bi Tryz.underlying9 rfl rfl (by decide) (by (try simp only [List.length_cons, List.length_nil]); omega)) ?_
 refine BW 6 rfl rfl (by kernel_rfl) (LH (Ka (Dv X4 (.c rfl (.c rfl .n)) (fun w hS => Er _ 32 (by have := Words.QA 32 s; omega) w)))) ?_
 refine Pf 7 rfl (Az rfl) ?_
 refine A3 (by kernel_rfl) ?_
 refine AB (.t1 4) ?_
 refine AA (Ac (AD ?_))
 refine AY rfl (.tmp rfl .n) ?_
 intro w1 hS; refine ⟨?_, hS.Am⟩; rfl
theorem Jx (X : AI) (i : Int) (h0 : 0 ≤ i) (h9 : i < 9) (w : World) : EG Tryz.prog 68 #[.agg X.enc.toArray, .int .i64 i] w fun v w' => v = .bool (X.Ca i) ∧ B6 w w' := by
 refine Ai [] [] Tryz.func68 rfl rfl rfl (St.start w []) ?_
 refine Gs ?_
 refine Bw rfl rfl rfl (fun b1 => ?_)
 refine Ga rfl (Gn (.t2 1 2) (Gs (Gm rfl (Gt (Ah Cq rfl) ?_))))
 refine Gt (AR Fo rfl rfl (by omega) (by omega)) ?_
 refine Gt (AZ rfl LO .m0 (AI.l1.comp (AS.ar (n := 9) Ak.fl (by omega))) rfl) ?_
 refine BB rfl Js rfl (fun b2 => ?_)
 refine AQ (AK (AS.id Ak.fl.len Ak.fl.one) rfl rfl rfl MQ rfl .h) ?_
 refine Gn (.t2 2 5) (CB (Gt (Ah GS rfl) (Gt (AF rfl A1 .m0 Ak.l1 rfl rfl) (Gt (A5 rfl rfl) (Gm rfl (BZ 15 rfl rfl (fun q => Ah GS rfl) (BZ 15 rfl rfl (fun q => AF (cF rfl q) A1 .m0 Ak.l1 rfl rfl) ?_)))))))
 refine BZ 15 rfl rfl (fun q => Cf (cF rfl q) rfl) ?_
 refine Gt (BR rfl rfl (fun h => by rw [h]; rfl)) ?_
 refine Gm rfl (BZ 20 rfl rfl (fun q => Ah GS rfl) (BZ 20 rfl rfl (fun q => AF (cF rfl q) A1 .m0 Ak.l1 rfl rfl) (BZ 20 rfl rfl (fun q => Aj (cF rfl q) rfl) (BZ 20 rfl rfl (fun q => AE (cF rfl q)) ?_))))
 refine DE (t := 24) rfl rfl rfl (fun qc q => Ah Fk rfl) ?_
 refine DE (t := 24) rfl rfl rfl (fun qc q => AF (BX rfl (by rw [qc, q]; rfl)) Ct .m0 Ak.l4 rfl rfl) ?_
 refine BZ 20 rfl rfl (fun q => BH (cF rfl q) rfl (fun h => by rw [q, h]; rfl)) ?_
 refine Gt (BR rfl rfl (fun h => by rw [h]; rfl)) ?_
 refine Gm rfl (BZ 29 rfl rfl (fun q => Ah DA rfl) (BZ 29 rfl rfl (fun q => AF (cF rfl q) A1 .m0 Ak.l3 rfl rfl) (BZ 29 rfl rfl (fun q => A5 (cF rfl q) rfl) ?_)))
 refine Gt (BR rfl rfl (fun h => by rw [h]; rfl)) ?_
 refine Gn (.t3 2 5 33) ?_
 refine Gc (fun c1 => ?_) (fun c1 => ?_)
 ·
  refine Gs (Ga rfl (Gn (.t1 4) (Ac (AD ?_))))
  refine AY rfl (.tmp rfl .n) ?_
  intro w1 hS; refine ⟨congrArg Value.bool ?_, hS.Am⟩; simp only [AI.Ca, c1, ↓reduceIte, Bool.false_eq_true]
 have c1p := kz c1
 refine Aa ?_
 refine AB (.t2 2 5) ?_
 refine AA (Gs (Gt (Ah GS rfl) (Gt (AF rfl A1 .m0 Ak.l1 rfl rfl) (Gt (Aj rfl rfl) (Gm rfl (Ba 37 rfl rfl (fun q => Ah Fk rfl) (Ba 37 rfl rfl (fun q => AF (BX rfl q) Ct .m0 Ak.l4 rfl rfl) ?_)))))))
 refine Gt (BH rfl rfl (fun h => h)) (Ga rfl (Gn (.t3 2 5 6) (CB (Gt (Ah E6 rfl) (Gt (AF rfl A1 .m0 Ak.l2 rfl rfl) (Gn (.t4 2 5 6 42) (Ae ?_)))))))
 refine Gs (Gt (Aj rfl rfl) (Ga rfl (Gn (.t5 2 5 6 42 43) ?_)))
 refine Gc (fun c2 => ?_) (fun c2 => ?_)
 ·
  refine Gs (Gt (Ah DA rfl) (Gt (AF rfl A1 .m0 Ak.l3 rfl rfl) (Gt (A5 rfl rfl) (Gm rfl (Ba 48 rfl rfl (fun q => AE rfl) (Ba 48 rfl rfl (fun q => BQ (BX rfl q)) (Gt (BH rfl rfl (fun h => h)) ?_)))))))
  refine Ga rfl (Gn (.t1 4) (Ac (AP (AD ?_))))
  refine AY rfl (.tmp rfl .n) ?_
  intro w1 hS; refine ⟨congrArg Value.bool ?_, hS.Am⟩; simp only [AI.Ca, c1, c2, ↓reduceIte, Bool.false_eq_true]
 have c2p := kz c2
 refine Gs (Gt (Aj rfl rfl) (Ga rfl (Gn (.t5 2 5 6 42 52) ?_)))
 refine Gc (fun c3 => ?_) (fun c3 => ?_)
 ·
  have c3p := kz c3
  refine Gs (Gt (Ah DA rfl) (Gt (AF rfl A1 .m0 Ak.l3 rfl rfl) (Gt (A5 rfl rfl) (Gm rfl (Ba 57 rfl rfl (fun q => Ah DA rfl) (Ba 57 rfl rfl (fun q => AF (BX rfl q) A1 .m0 Ak.l3 rfl rfl) (Ba 57 rfl rfl (fun q => Ah Bk rfl) ?_)))))))
  refine Ba 57 rfl rfl (fun q => by have q1 := q; (try simp at q1); exact AR Cy (BX rfl q) (BX rfl q) (by omega) (by omega)) ?_
  refine Ba 57 rfl rfl (fun q => Ah Hp (BX rfl q)) ?_
  refine Ba 57 rfl rfl (fun q => by have q1 := q; (try simp at q1); exact AF (BX rfl q) Ct .m1 ((AI.l2.comp (AS.ar (n := 6) Al.fl (by omega))).comp Al.l1) rfl rfl) ?_
  refine Gt (BH rfl rfl (fun h => h)) (Ga rfl (Gn (.t1 4) (Ac (AP (AD ?_)))))
  refine AY rfl (.tmp rfl .n) ?_
  intro w1 hS; refine ⟨congrArg Value.bool ?_, hS.Am⟩; simp only [AI.Ca, c1, c2, c3, ↓reduceIte, Bool.false_eq_true]
 have c3p := kz c3
 refine Gs (Gt (Aj rfl rfl) (Ga rfl (Gn (.t4 2 5 6 65) ?_)))
 refine Gc (fun c4 => ?_) (fun c4 => ?_)
 ·
  have c4p := kz c4
  refine CB (Gt (Ah DA rfl) (Gt (AF rfl A1 .m0 Ak.l3 rfl rfl) (Gt (CI rfl rfl) (Gm rfl (BZ 70 rfl rfl (fun q => Ah DA rfl) (BZ 70 rfl rfl (fun q => AF (cF rfl q) A1 .m0 Ak.l3 rfl rfl) (BZ 70 rfl rfl (fun q => Ah Cq rfl) ?_)))))))
  refine BZ 70 rfl rfl (fun q => by have q1 := q; (try simp at q1); exact AR Fo (cF rfl q) (cF rfl q) (by omega) (by omega)) ?_
  refine BZ 70 rfl rfl (fun q => Ah GS (cF rfl q)) ?_
  refine BZ 70 rfl rfl (fun q => by have q1 := q; (try simp at q1); exact AF (cF rfl q) A1 .m1 ((AI.l1.comp (AS.ar (n := 9) Ak.fl (by omega))).comp Ak.l1) rfl rfl) ?_
  refine BZ 70 rfl rfl (fun q => CT (cF rfl q) rfl) ?_
  refine Gt (BR rfl rfl (fun h => by rw [h]; rfl)) ?_
  refine Gm rfl (BZ 79 rfl rfl (fun q => AE rfl) ?_)
  refine Gt (BR rfl rfl (fun h => by rw [h]; rfl)) ?_
  refine Gn (.t3 2 5 81) ?_
  refine Gc (fun c5 => ?_) (fun c5 => ?_)
  ·
   refine Gs (Ga rfl (Gn (.t1 4) (Ac (AD (AP (AD ?_))))))
   refine AY rfl (.tmp rfl .n) ?_
   intro w1 hS; refine ⟨congrArg Value.bool ?_, hS.Am⟩; simp only [AI.Ca, c1, c2, c3, c4, c5, ↓reduceIte, Bool.false_eq_true]
  have c5p := kz c5
  refine Aa ?_
  refine AB (.t2 2 5) ?_
  refine AA (Gs (Gm rfl (AM (AA (Ae ?_)))))
  refine Bf (.t3 82 2 5) ?_
  refine ET (fun (k : Int) (t : Ak) => 0 ≤ k ∧ k ≤ 10 ∧ X.Ca i = X.JF (10 - k).toNat t) (fun (k : Int) (t : Ak) => (10 - k).toNat) (fun (k : Int) (t : Ak) => [(82, .int .i64 k)]) (fun (k : Int) (t : Ak) => [Ab.box b2 29 (Ak.enc t)]) (0) (X.AX.at i) ?_ rfl rfl (fun k t hI1 => ?_)
  · refine ⟨Int.le_refl _, by omega, ?_⟩; simp only [AI.Ca, c1, c2, c3, c4, c5, ↓reduceIte, Bool.false_eq_true]; rfl
  obtain ⟨hI11, hI12, hI13⟩ := hI1
  refine Gs (Gt (A5 rfl rfl) (AM (AA (Ao ?_))))
  refine Gc (fun c6 => ?_) (fun c6 => ?_)
  ·
   have c6p := kz c6
   rw [show (10 - k).toNat = (10 - (k + 1)).toNat + 1 from by omega, AI.JF, show decide ((10 - (k + 1)).toNat = 0) = decide (k = 9) from decide_eq_decide.2 ⟨by omega, by omega⟩] at hI13
   refine Aa ?_
   refine AB (.t3 2 5 82) ?_
   refine AA (Ao (Ae (Gs (Gm rfl (Ga rfl (Gn (.t4 2 5 7 82) (CB ?_)))))))
   refine Gt (Ah E6 rfl) (Gt (AF rfl A1 .m0 Ak.l2 rfl rfl) (Gt (CT rfl rfl) (Gn (.t5 2 5 7 82 87) ?_)))
   refine Gc (fun c7 => ?_) (fun c7 => ?_)
   ·
    refine Gs (Ga rfl (Gn (.t1 4) (Ac (AD (AP (AD (AD ?_)))))))
    refine AP (AP (AD ?_))
    refine AY rfl (.tmp rfl .n) ?_
    intro w1 hS; refine ⟨congrArg Value.bool ?_, hS.Am⟩; rw [hI13]; simp only [c1, c2, c3, c4, c5, c6, c7, ↓reduceIte, Bool.false_eq_true]
   have c7p := kz c7
   refine Aa ?_
   refine AB (.t4 2 5 7 82) ?_
   refine AA (CB (Gm rfl (Gt (Aj rfl rfl) (Gm rfl (BZ 90 rfl rfl (fun q => Ah DA rfl) (BZ 90 rfl rfl (fun q => AF (cF rfl q) A1 .m0 Ak.l3 rfl rfl) (BZ 90 rfl rfl (fun q => A5 (cF rfl q) rfl) ?_)))))))
   refine Gt (BR rfl rfl (fun h => by rw [h]; rfl)) ?_
   refine Gm rfl (BZ 95 rfl rfl (fun q => Ah DA rfl) (BZ 95 rfl rfl (fun q => AF (cF rfl q) A1 .m0 Ak.l3 rfl rfl) (BZ 95 rfl rfl (fun q => CI (cF rfl q) rfl) ?_)))
   refine Gt (BR rfl rfl (fun h => by rw [h]; rfl)) ?_
   refine Gn (.t4 2 5 82 99) ?_
   refine Gc (fun c8 => ?_) (fun c8 => ?_)
   ·
    refine Gs (Ga rfl (Gn (.t1 4) (Ac (AD (AP (AD (AD ?_)))))))
    refine AP (AP (AD ?_))
    refine AY rfl (.tmp rfl .n) ?_
    intro w1 hS; refine ⟨congrArg Value.bool ?_, hS.Am⟩; rw [hI13]; simp only [c1, c2, c3, c4, c5, c6, c7, c8, ↓reduceIte, Bool.false_eq_true]
   have c8p := kz c8
   refine Aa ?_
   refine AB (.t3 2 5 82) ?_
   refine AA (AJ (Gt (Ah DA rfl) (Gt (AF rfl A1 .m0 Ak.l3 rfl rfl) (Gt (Ah Cq rfl) ?_))))
   refine Gt (AR Fo rfl rfl (by omega) (by omega)) ?_
   refine Gt (AZ rfl LO .m1 (AI.l1.comp (AS.ar (n := 9) Ak.fl (by omega))) rfl) ?_
   refine AQ (AK (AS.id Ak.fl.len Ak.fl.one) rfl rfl rfl MQ rfl .h) ?_
   refine AM (AB (.t3 2 5 82) ?_)
   refine AU (AA (AJ ?_))
   refine Gt (Aw rfl rfl (IntWalk.i64_in _ (by omega))) ?_
   refine Gm rfl ?_
   refine AM (AB (.t3 2 5 82) ?_)
   refine Cn (k + 1) (X.AX.at t.at_) ?_ ?_ (.t3 82 2 5) (.refl _)
   · exact ⟨by omega, by omega, by rw [hI13]; simp only [c1, c2, c3, c4, c5, c6, c7, c8, ↓reduceIte, Bool.false_eq_true]⟩
   · omega
  have c6p := kz c6
  obtain rfl : k = 10 := by omega
  refine BV (AT (AT (Af ?_)))
  refine AB (.nil _) ?_
  refine AU (AA (Gs (Ga rfl (AM (AA (Ac ?_))))))
  refine AY rfl (.tmp rfl .n) ?_
  intro w1 hS; refine ⟨congrArg Value.bool ?_, hS.Am⟩; rw [hI13]; rfl
 refine Aa ?_
 refine AB (.nil _) ?_
 refine AU (AA (Gs (Ga rfl (AM (AA (Ac ?_))))))
 refine AY rfl (.tmp rfl .n) ?_
 intro w1 hS; refine ⟨congrArg Value.bool ?_, hS.Am⟩; simp only [AI.Ca, c1, c2, c3, c4, ↓reduceIte, Bool.false_eq_true]
theorem Gv (X : AI) (w : World) : EG Tryz.prog 43 #[.agg X.enc.toArray] w fun v w' => v = .bool X.Br ∧ B6 w w' := by
 refine Ai [] [] Tryz.func43 rfl rfl rfl (St.start w []) ?_
 refine Gs ?_
 refine Bw rfl rfl rfl (fun b1 => ?_)
 refine Ga rfl (Gn (.t1 1) (CB (Gt (Ah GJ rfl) (Gt (AZ rfl X5 .m0 AI.l0 rfl) (Gm rfl (Gn (.t3 1 11 12) (Ae ?_)))))))
 refine Bf (.t3 12 1 11) ?_
 refine CJ (fun (k : Int) => 0 ≤ k ∧ k ≤ 6 ∧ X.Br = (CA 6 X.K5 (6 - k).toNat && (CA 6 (fun k => !AI.DT (X.AW.at k)) 6 && CA 9 X.Ca 9))) (fun (k : Int) => (6 - k).toNat) (fun (k : Int) => [(12, .int .i64 k)]) (fun (k : Int) => []) (0) ?_ rfl rfl (fun k hI1 => ?_)
 · exact ⟨Int.le_refl _, by omega, rfl⟩
 obtain ⟨hI11, hI12, hI13⟩ := hI1
 refine Gs (Gt (A5 rfl rfl) (AM (AA (Ao ?_))))
 refine Gc (fun c1 => ?_) (fun c1 => ?_)
 ·
  have c1p := kz c1
  rw [C6 _ (by omega)] at hI13
  refine Aa ?_
  refine AB (.t3 1 11 12) ?_
  refine AA (Ao (Ae (Gs ?_)))
  refine Gt (Fm Room.fl Tryz.underlying27 MK rfl rfl (by omega) (by omega)) ?_
  refine BB rfl NV rfl (fun b2 => ?_)
  refine AQ (AK (AS.id Room.fl.len Room.fl.one) rfl rfl rfl Pt rfl .h) ?_
  refine Gn (.t4 1 4 11 12) (Gs (Gt (Ah L5 rfl) (Gt (AZ rfl U5 .m0 Room.l2 rfl) (Gm rfl (Gn (.t6 1 4 11 12 16 17) (Ae ?_))))))
  refine Bf (.t6 17 1 4 11 12 16) ?_
  refine CJ (fun (d : Int) => 0 ≤ d ∧ d ≤ 6 ∧ X.K5 k = CA 6 (fun d => !AI.IV (X.By.at k) d) (6 - d).toNat) (fun (d : Int) => (6 - d).toNat) (fun (d : Int) => [(17, .int .i64 d)]) (fun (d : Int) => []) (0) ?_ rfl rfl (fun d hI2 => ?_)
  · exact ⟨Int.le_refl _, by omega, rfl⟩
  obtain ⟨hI21, hI22, hI23⟩ := hI2
  refine Gs (Gt (A5 rfl rfl) (AM (AA (Ao ?_))))
  refine Gc (fun c2 => ?_) (fun c2 => ?_)
  ·
   have c2p := kz c2
   rw [C6 _ (by omega)] at hI23
   refine Aa ?_
   refine AB (.t6 1 4 11 12 16 17) ?_
   refine AA (Ao (Ae (Gs (Gm rfl ?_))))
   refine Gt (JY Bz Tryz.underlying23 C5 A1 rfl rfl (by omega) (by omega) rfl) ?_
   refine Ga rfl (Ga rfl (Gn (.t8 1 4 5 6 11 12 16 17) (Gs (Gm rfl (Gt (A5 rfl rfl) (Gm rfl (BZ 23 rfl rfl (fun q => AE rfl) ?_)))))))
   refine BZ 23 rfl rfl (fun q => Cf (cF rfl q) rfl) ?_
   refine Gt (BR rfl rfl (fun h => by rw [h]; rfl)) ?_
   refine Gm rfl (BZ 27 rfl rfl (fun q => AE rfl) (BZ 27 rfl rfl (fun q => Aj (cF rfl q) rfl) (BZ 27 rfl rfl (fun q => AE (cF rfl q)) ?_)))
   refine DE (t := 30) rfl rfl rfl (fun qc q => AE rfl) ?_
   refine DE (t := 30) rfl rfl rfl (fun qc q => Ah L0 rfl) ?_
   refine DE (t := 30) rfl rfl rfl (fun qc q => by have q1 := q; have qc1 := qc; (try simp at q1 qc1); exact AR Tu (BX rfl (by rw [qc, q]; rfl)) (BX rfl (by rw [qc, q]; rfl)) (by omega) (by omega)) ?_
   refine DE (t := 30) rfl rfl rfl (fun qc q => by have q1 := q; have qc1 := qc; (try simp at q1 qc1); exact AF (BX rfl (by rw [qc, q]; rfl)) Ct .m0 (Room.l3.comp (AS.ar (n := 6) Gh (by omega))) rfl rfl) ?_
   refine BZ 27 rfl rfl (fun q => BH (cF rfl q) rfl (fun h => by rw [q, h]; rfl)) ?_
   refine Gt (BR rfl rfl (fun h => by rw [h]; rfl)) ?_
   refine Gn (.t7 1 4 11 12 16 17 36) ?_
   refine Gc (fun c3 => ?_) (fun c3 => ?_)
   ·
    refine Gs (Ga rfl (Gn (.t1 2) (Ac (AP (AD (AD (AP ?_)))))))
    refine AP (AD (AD (AP (AD ?_))))
    refine AY rfl (.tmp rfl .n) ?_
    intro w1 hS; refine ⟨congrArg Value.bool ?_, hS.Am⟩; rw [hI13, hI23, AI.IV, c3]; rfl
   have c3p := kz c3
   refine Aa ?_
   refine AB (.t6 1 4 11 12 16 17) ?_
   refine AU (AA (AJ ?_))
   refine Gt (Aw rfl rfl (IntWalk.i64_in _ (by omega))) ?_
   refine Gm rfl ?_
   refine AM (AB (.t6 1 4 11 12 16 17) ?_)
   refine Bx (d + 1) ?_ ?_ (.t6 17 1 4 11 12 16) (.refl _)
   · exact ⟨by omega, by omega, by rw [hI23, AI.IV, c3]; rfl⟩
   · omega
  have c2p := kz c2
  obtain rfl : d = 6 := by omega
  refine BV (AT (AT (Af ?_)))
  refine AB (.t3 1 11 12) ?_
  refine AU (AA (AJ ?_))
  refine Gt (Aw rfl rfl (IntWalk.i64_in _ (by omega))) ?_
  refine Gm rfl ?_
  refine AM (AB (.t3 1 11 12) ?_)
  refine Bx (k + 1) ?_ ?_ (.t3 12 1 11) (.cons _ (.refl _))
  · exact ⟨by omega, by omega, by rw [hI13, hI23]; rfl⟩
  · omega
 have c1p := kz c1
 obtain rfl : k = 6 := by omega
 refine BV (AT (AT (Af ?_)))
 refine AB (.t1 1) ?_
 refine AA (CB (Gt (Ah Bk rfl) (Gt (AZ rfl Vp .m0 AI.l2 rfl) (Gm rfl (Gn (.t3 1 40 41) (Ae ?_))))))
 refine Bf (.t3 41 1 40) ?_
 refine CJ (fun (b : Int) => 0 ≤ b ∧ b ≤ 6 ∧ X.Br = (CA 6 (fun k => !AI.DT (X.AW.at k)) (6 - b).toNat && CA 9 X.Ca 9)) (fun (b : Int) => (6 - b).toNat) (fun (b : Int) => [(41, .int .i64 b)]) (fun (b : Int) => []) (0) ?_ rfl rfl (fun b hI3 => ?_)
 · exact ⟨Int.le_refl _, by omega, hI13⟩
 obtain ⟨hI31, hI32, hI33⟩ := hI3
 refine Gs (Gt (A5 rfl rfl) (AM (AA (Ao ?_))))
 refine Gc (fun c4 => ?_) (fun c4 => ?_)
 ·
  have c4p := kz c4
  rw [C6 _ (by omega)] at hI33
  refine Aa ?_
  refine AB (.t3 1 40 41) ?_
  refine AA (Ao (Ae (Gs ?_)))
  refine Gt (Fm Al.fl Tryz.underlying33 FF rfl rfl (by omega) (by omega)) ?_
  refine BB rfl K2 rfl (fun b3 => ?_)
  refine AQ (AK (AS.id Al.fl.len Al.fl.one) rfl rfl rfl Jv rfl .h) ?_
  refine Gn (.t4 1 8 40 41) (Gs (Gt (Ah Cv rfl) (Gt (AF rfl A1 .m0 Al.l3 rfl rfl) (Gt (A5 rfl rfl) (Gm rfl (BZ 47 rfl rfl (fun q => Ah Cv rfl) (BZ 47 rfl rfl (fun q => AF (cF rfl q) A1 .m0 Al.l3 rfl rfl) ?_)))))))
  refine BZ 47 rfl rfl (fun q => CI (cF rfl q) rfl) ?_
  refine Gt (BR rfl rfl (fun h => by rw [h]; rfl)) ?_
  refine Gm rfl (BZ 52 rfl rfl (fun q => Ah JV rfl) (BZ 52 rfl rfl (fun q => AF (cF rfl q) A1 .m0 Al.l4 rfl rfl) (BZ 52 rfl rfl (fun q => A5 (cF rfl q) rfl) ?_)))
  refine Gt (BR rfl rfl (fun h => by rw [h]; rfl)) ?_
  refine Gm rfl (BZ 57 rfl rfl (fun q => Ah JV rfl) (BZ 57 rfl rfl (fun q => AF (cF rfl q) A1 .m0 Al.l4 rfl rfl) (BZ 57 rfl rfl (fun q => Cf (cF rfl q) rfl) ?_)))
  refine Gt (BR rfl rfl (fun h => by rw [h]; rfl)) ?_
  refine Gm rfl (BZ 62 rfl rfl (fun q => Ah Fq rfl) (BZ 62 rfl rfl (fun q => AF (cF rfl q) A1 .m0 Al.l5 rfl rfl) (BZ 62 rfl rfl (fun q => A5 (cF rfl q) rfl) ?_)))
  refine Gt (BR rfl rfl (fun h => by rw [h]; rfl)) ?_
  refine Gm rfl (BZ 67 rfl rfl (fun q => Ah Fq rfl) (BZ 67 rfl rfl (fun q => AF (cF rfl q) A1 .m0 Al.l5 rfl rfl) (BZ 67 rfl rfl (fun q => Cf (cF rfl q) rfl) ?_)))
  refine Gt (BR rfl rfl (fun h => by rw [h]; rfl)) ?_
  refine Gm rfl (BZ 72 rfl rfl (fun q => Ah Hp rfl) (BZ 72 rfl rfl (fun q => AF (cF rfl q) Ct .m0 Al.l1 rfl rfl) (BZ 72 rfl rfl (fun q => BQ (cF rfl q)) (BZ 72 rfl rfl (fun q => AE (cF rfl q)) ?_))))
  refine DE (t := 76) rfl rfl rfl (fun qc q => Ah Fq rfl) ?_
  refine DE (t := 76) rfl rfl rfl (fun qc q => AF (BX rfl (by rw [qc, q]; rfl)) A1 .m0 Al.l5 rfl rfl) ?_
  refine DE (t := 76) rfl rfl rfl (fun qc q => CT (BX rfl (by rw [qc, q]; rfl)) rfl) ?_
  refine BZ 72 rfl rfl (fun q => BH (cF rfl q) rfl (fun h => by rw [q, h]; rfl)) ?_
  refine Gt (BR rfl rfl (fun h => by rw [h]; rfl)) ?_
  refine Gm rfl (BZ 82 rfl rfl (fun q => Ah Hp rfl) (BZ 82 rfl rfl (fun q => AF (cF rfl q) Ct .m0 Al.l1 rfl rfl) (BZ 82 rfl rfl (fun q => Ah JV rfl) (BZ 82 rfl rfl (fun q => AF (cF rfl q) A1 .m0 Al.l4 rfl rfl) (BZ 82 rfl rfl (fun q => Cf (cF rfl q) rfl) (BZ 82 rfl rfl (fun q => JR Tryz.underlying4 (cF rfl q) (cF rfl q)) ?_))))))
  refine Gt (BR rfl rfl (fun h => by rw [h]; rfl)) ?_
  refine Gn (.t4 1 40 41 89) ?_
  refine Gc (fun c5 => ?_) (fun c5 => ?_)
  ·
   refine Gs (Ga rfl (Gn (.t1 2) (Ac (AP (AD (AD (AP ?_)))))))
   refine AD ?_
   refine AY rfl (.tmp rfl .n) ?_
   intro w1 hS; refine ⟨congrArg Value.bool ?_, hS.Am⟩; rw [hI33, AI.DT, c5]; rfl
  have c5p := kz c5
  refine Aa ?_
  refine AB (.t3 1 40 41) ?_
  refine AU (AA (AJ ?_))
  refine Gt (Aw rfl rfl (IntWalk.i64_in _ (by omega))) ?_
  refine Gm rfl ?_
  refine AM (AB (.t3 1 40 41) ?_)
  refine Bx (b + 1) ?_ ?_ (.t3 41 1 40) (.cons _ (.refl _))
  · exact ⟨by omega, by omega, by rw [hI33, AI.DT, c5]; rfl⟩
  · omega
 have c4p := kz c4
 obtain rfl : b = 6 := by omega
 refine BV (AT (AT (Af ?_)))
 refine AB (.t1 1) ?_
 refine AA (CB (Gm rfl (AM (AA (Ae ?_)))))
 refine Bf (.t2 91 1) ?_
 refine CJ (fun (t : Int) => 0 ≤ t ∧ t ≤ 9 ∧ X.Br = CA 9 X.Ca (9 - t).toNat) (fun (t : Int) => (9 - t).toNat) (fun (t : Int) => [(91, .int .i64 t)]) (fun (t : Int) => []) (0) ?_ rfl rfl (fun t hI4 => ?_)
 · exact ⟨Int.le_refl _, by omega, hI33⟩
 obtain ⟨hI41, hI42, hI43⟩ := hI4
 refine Gs (Gt (A5 rfl rfl) (AM (AA (Ao ?_))))
 refine Gc (fun c6 => ?_) (fun c6 => ?_)
 ·
  have c6p := kz c6
  rw [C6 _ (by omega)] at hI43
  refine Aa ?_
  refine AB (.t2 1 91) ?_
  refine AA (Ao (Ae (Gs (Gm rfl (Ga rfl (Gn (.t3 1 9 91) (Gs ?_)))))))
  refine Gt (AZ rfl BT .m0 (AS.id AI.fl.len AI.fl.one) rfl) (Gm rfl ?_)
  refine A8 rfl bf (.c rfl (.c rfl .n)) (fun w hS => Jx X _ (by omega) (by omega) w) ?_
  refine Gt (BQ rfl) (Gn (.t3 1 91 97) ?_)
  refine Gc (fun c7 => ?_) (fun c7 => ?_)
  ·
   refine Gs (Ga rfl (Gn (.t1 2) (Ac (AP (AD (AD (AP ?_)))))))
   refine AD ?_
   refine AY rfl (.tmp rfl .n) ?_
   intro w1 hS; refine ⟨congrArg Value.bool ?_, hS.Am⟩; rw [hI43, show X.Ca t = false by simpa using c7]; rfl
  have c7p := kz c7
  refine Aa ?_
  refine AB (.t2 1 91) ?_
  refine AU (AA (AJ ?_))
  refine Gt (Aw rfl rfl (IntWalk.i64_in _ (by omega))) ?_
  refine Gm rfl ?_
  refine AM (AB (.t2 1 91) ?_)
  refine Bx (t + 1) ?_ ?_ (.t2 91 1) (.refl _)
  · exact ⟨by omega, by omega, by rw [hI43, show X.Ca t = true by simpa using c7]; rfl⟩
  · omega
 have c6p := kz c6
 obtain rfl : t = 9 := by omega
 refine BV (AT (AT (Af ?_)))
 refine AB (.nil _) ?_
 refine AA (Gs (Ga rfl (AM (AA (Ac ?_)))))
 refine AY rfl (.tmp rfl .n) ?_
 intro w1 hS; refine ⟨congrArg Value.bool ?_, hS.Am⟩; rw [hI43]; rfl
theorem L2 (s : Au) (hs : s.length ≤ 100000000) (w : World) : EG Tryz.prog 46 #[BO s] w fun v w' => v = .bool (AG.Je s) ∧ B6 w w' := by
 refine Ai [] [] Tryz.func46 rfl rfl rfl (St.start w []) ?_
 refine Gs (Ga rfl (Gn (.t1 0) (CB (Gm rfl (Gt (BI rfl Tryz.underlying9 rfl) (Gm rfl (Gn (.t3 0 5 6) ?_)))))))
 refine Ae ?_
 refine Bf (.t3 6 0 5) ?_
 refine CJ (fun (k : Int) => 0 ≤ k ∧ k ≤ (s.length : Int) ∧ AG.HL s 0 = AG.HL s k.toNat) (fun (k : Int) => ((s.length : Int) - k).toNat) (fun (k : Int) => [(6, .int .i64 k)]) (fun (k : Int) => []) (0) ?_ rfl rfl (fun k hI1 => ?_)
 · exact ⟨by omega, by omega, rfl⟩
 obtain ⟨hI11, hI12, hI13⟩ := hI1
 refine Gs (Gt (A5 rfl rfl) (AM (AA (Ao ?_))))
 refine Gc (fun c1 => ?_) (fun c1 => ?_)
 ·
  have c1p := kz c1
  have hst := AG.Uw (s := s) hI11 (by omega)
  refine Aa ?_
  refine AB (.t3 0 5 6) ?_
  refine AA (Ao (Ae (Gs (Gm rfl (Ga rfl (Gn (.t4 0 3 5 6) (Gs ?_)))))))
  refine Gm rfl (Gm rfl ?_)
  refine Gt (Bi Tryz.underlying9 rfl rfl (by omega) (by omega)) ?_
  refine Gt (A5 rfl rfl) (Gm rfl (BZ 13 rfl rfl (fun q => AE rfl) (BZ 13 rfl rfl (fun q => AE rfl) ?_)))
  refine BZ 13 rfl rfl (fun q => by have q1 := q; (try simp at q1); exact Bi Tryz.underlying9 (cF rfl q) (cF rfl q) (by omega) (by omega)) ?_
  refine BZ 13 rfl rfl (fun q => Cf (cF rfl q) rfl) ?_
  refine Gt (BR rfl rfl (fun h => by rw [h]; rfl)) ?_
  refine Gn (.t4 0 5 6 18) ?_
  refine Gc (fun c2 => ?_) (fun c2 => ?_)
  ·
   rw [show AG.low (s.getD k.toNat 0) = true from c2] at hst
   refine Gs (Ga rfl (Gn (.t1 2) (Ac (AP (AD (AD (AP ?_)))))))
   refine AD ?_
   refine AY rfl (.tmp rfl .n) ?_
   intro w1 hS; refine ⟨?_, hS.Am⟩; exact congrArg Value.bool (by rw [AG.Je, hI13, hst]; rfl)
  have c2p := kz c2
  rw [show AG.low (s.getD k.toNat 0) = false from c2] at hst
  refine Aa ?_
  refine AB (.t3 0 5 6) ?_
  refine AU (AA (AJ ?_))
  refine Gt (Aw rfl rfl (IntWalk.i64_in _ (by omega))) ?_
  refine Gm rfl ?_
  refine AM (AB (.t3 0 5 6) ?_)
  refine Bx (k + 1) ?_ ?_ (.t3 6 0 5) (.refl _)
  · exact ⟨by omega, by omega, by rw [hI13, hst]; rfl⟩
  · omega
 have c1p := kz c1
 obtain rfl : k = (s.length : Int) := by omega
 rw [AG.VL] at hI13
 refine BV (AT (AT (Af ?_)))
 refine AB (.t1 0) ?_
 refine AA (Gs (Gm rfl (Gt (BI rfl Tryz.underlying9 rfl) (Gt (CI rfl rfl) (Gm rfl (Ba 23 rfl rfl (fun q => AE rfl) (Ba 23 rfl rfl (fun q => BI rfl Tryz.underlying9 (BX rfl q)) ?_)))))))
 refine Ba 23 rfl rfl (fun q => Hr (BX rfl q) rfl) (Gt (BH rfl rfl (fun h => h)) (Gm rfl (Ba 28 rfl rfl (fun q => AE rfl) (Ba 28 rfl rfl (fun q => DZ (BX rfl q) rfl) (Gt (BH rfl rfl (fun h => h)) (Gm rfl (Ba 32 rfl rfl (fun q => AE rfl) ?_)))))))
 refine Ba 32 rfl rfl (fun q => DZ (BX rfl q) rfl) (Gt (BH rfl rfl (fun h => h)) (Ga rfl (Gn (.t1 2) (Ac ?_))))
 refine AY rfl (.tmp rfl .n) ?_
 intro w1 hS; refine ⟨?_, hS.Am⟩; exact congrArg Value.bool (by rw [AG.Je, hI13]; simp only [Bool.true_and]; rfl)
theorem Fl (X : AI) (b : Int) (w : World) : EG Tryz.prog 159 #[.agg X.enc.toArray, .int .i64 b] w fun v w' => v = .bool (X.A7 b) ∧ B6 w w' := by
 refine Ai [] [] Tryz.func159 rfl rfl rfl (St.start w []) ?_
 refine Gs ?_
 refine Bw rfl rfl rfl (fun b1 => ?_)
 refine Ga rfl (Gn (.t2 1 2) (Gs (Gm rfl (Gt (CI rfl rfl) (Gm rfl (Ba 7 rfl rfl (fun q => AE rfl) (Ba 7 rfl rfl (fun q => A5 (BX rfl q) rfl) ?_)))))))
 refine Gt (BH rfl rfl (fun h => h)) (Gm rfl (Ba 11 rfl rfl (fun q => AE rfl) (Ba 11 rfl rfl (fun q => Ah Bk rfl) ?_)))
 refine Ba 11 rfl rfl (fun q => by have q1 := q; (try simp at q1); exact AR Cy (BX rfl q) (BX rfl q) (by omega) (by omega)) ?_
 refine Ba 11 rfl rfl (fun q => Ah Hp (BX rfl q)) ?_
 refine Ba 11 rfl rfl (fun q => by have q1 := q; (try simp at q1); exact AF (BX rfl q) Ct .m0 ((AI.l2.comp (AS.ar (n := 6) Al.fl (by omega))).comp Al.l1) rfl rfl) ?_
 refine Gt (BH rfl rfl (fun h => h)) (Ga rfl (Gn (.t1 4) (Ac ?_)))
 refine AY rfl (.tmp rfl .n) ?_
 intro w1 hS; refine ⟨?_, hS.Am⟩; rfl
theorem Nv (X : AI) (i : Int) (w : World) : EG Tryz.prog 19 #[.agg X.enc.toArray, .int .i64 i] w fun v w' => v = .tuple #[.int .i64 (X.room i).1, .bool (X.room i).2] ∧ B6 w w' := by
 refine Ai [] [] Tryz.func19 rfl rfl rfl (St.start w []) ?_
 refine Gs ?_
 refine Bw rfl rfl rfl (fun b1 => ?_)
 refine Ga rfl (Ga rfl (Gn (.t2 1 2) (Gs (Ga rfl (AM (AA (CB ?_)))))))
 refine Gm rfl (AM (AA (Ae ?_)))
 refine Bf (.t4 1 6 8 2) ?_
 refine Dh (fun (k : Int) (j : Int) (o : Bool) => 0 ≤ k ∧ k ≤ 10 ∧ X.room i = X.JQ (10 - k).toNat j o) (fun (k : Int) (j : Int) (o : Bool) => (10 - k).toNat) (fun (k : Int) (j : Int) (o : Bool) => [(1, .int .i64 j), (6, .bool o), (8, .int .i64 k)]) (fun (k : Int) (j : Int) (o : Bool) => []) (0) (i) (true) ?_ rfl rfl (fun k j o hI1 => ?_)
 · exact ⟨Int.le_refl _, by omega, rfl⟩
 obtain ⟨hI11, hI12, hI13⟩ := hI1
 refine Gs (Gt (A5 rfl rfl) (AM (AA (Ao ?_))))
 refine Gc (fun c1 => ?_) (fun c1 => ?_)
 ·
  have c1p := kz c1
  rw [show (10 - k).toNat = (10 - (k + 1)).toNat + 1 from by omega, AI.JQ] at hI13
  refine Aa ?_
  refine AB (.t4 1 2 6 8) ?_
  refine AA (Ao (Ae (CB (Gm rfl (Gt (A5 rfl rfl) (Gm rfl (BZ 12 rfl rfl (fun q => AE rfl) ?_)))))))
  refine BZ 12 rfl rfl (fun q => CI (cF rfl q) rfl) ?_
  refine Gt (BR rfl rfl (fun h => by rw [h]; rfl)) ?_
  refine Gn (.t5 1 2 6 8 15) ?_
  refine Gc (fun c2 => ?_) (fun c2 => ?_)
  ·
   refine Gs (Ga rfl (Ga rfl (Gn (.t2 4 5) (Ac (AD (AP (AD ?_)))))))
   refine AD (AP (AD ?_))
   refine AY rfl (.tmp rfl (.tmp rfl .n)) ?_
   intro w1 hS; refine ⟨?_, hS.Am⟩; rw [hI13]; simp only [c1, c2, ↓reduceIte, Bool.false_eq_true]; rfl
  have c2p := kz c2
  refine Aa ?_
  refine AB (.t4 1 2 6 8) ?_
  refine AA (Gs (Gm rfl (Gt (Ah Cq rfl) ?_)))
  refine Gt (AR Fo rfl rfl (by omega) (by omega)) ?_
  refine Gt (AZ rfl LO .m0 (AI.l1.comp (AS.ar (n := 9) Ak.fl (by omega))) rfl) ?_
  refine BB rfl Js rfl (fun b2 => ?_)
  refine AQ (AK (AS.id Ak.fl.len Ak.fl.one) rfl rfl rfl MQ rfl .h) ?_
  refine Gn (.t4 2 6 7 8) (CB (Gt (Ah E6 rfl) (Gt (AF rfl A1 .m0 Ak.l2 rfl rfl) (Gn (.t5 2 6 7 8 21) (Ae (Gs (Gt (Aj rfl rfl) ?_)))))))
  refine Ga rfl (Gn (.t6 2 6 7 8 21 22) ?_)
  refine Gc (fun c3 => ?_) (fun c3 => ?_)
  ·
   refine Gs (Gt (Ah DA rfl) (Gt (AF rfl A1 .m0 Ak.l3 rfl rfl) (Gm rfl (Ga rfl (Ga rfl (Gn (.t2 4 5) (Ac ?_)))))))
   refine AP (AD (AP (AD (AD (AP (AD ?_))))))
   refine AY rfl (.tmp rfl (.tmp rfl .n)) ?_
   intro w1 hS; refine ⟨?_, hS.Am⟩; rw [hI13]; simp only [c1, c2, c3, ↓reduceIte, Bool.false_eq_true]; rfl
  have c3p := kz c3
  refine Gs (Gt (Aj rfl rfl) (Ga rfl (Gn (.t6 2 6 7 8 21 27) ?_)))
  refine Gc (fun c4 => ?_) (fun c4 => ?_)
  ·
   have c4p := kz c4
   refine CB (Gt (Ah DA rfl) (Gt (AF rfl A1 .m0 Ak.l3 rfl rfl) (Gt (A5 rfl rfl) (Gm rfl (BZ 32 rfl rfl (fun q => Ah DA rfl) (BZ 32 rfl rfl (fun q => AF (cF rfl q) A1 .m0 Ak.l3 rfl rfl) (BZ 32 rfl rfl (fun q => CI (cF rfl q) rfl) ?_)))))))
   refine Gt (BR rfl rfl (fun h => by rw [h]; rfl)) ?_
   refine Gn (.t4 2 6 7 36) ?_
   refine Gc (fun c5 => ?_) (fun c5 => ?_)
   ·
    refine Gs (Ga rfl (Ga rfl (Gn (.t2 4 5) (Ac (AD (AP (AD ?_)))))))
    refine AP (AD (AD (AP (AD ?_))))
    refine AY rfl (.tmp rfl (.tmp rfl .n)) ?_
    intro w1 hS; refine ⟨?_, hS.Am⟩; rw [hI13]; simp only [c1, c2, c3, c4, c5, ↓reduceIte, Bool.false_eq_true]; rfl
   have c5p := kz c5
   refine Aa ?_
   refine AB (.t3 2 6 7) ?_
   refine AA (Gs (Gt (Ah DA rfl) (Gt (AF rfl A1 .m0 Ak.l3 rfl rfl) (Gt (Ah Bk rfl) ?_))))
   refine Gt (AR Cy rfl rfl (by omega) (by omega)) ?_
   refine Gt (Ah Cv rfl) ?_
   refine Gt (AF rfl A1 .m1 ((AI.l2.comp (AS.ar (n := 6) Al.fl (by omega))).comp Al.l3) rfl rfl) ?_
   refine Gm rfl (Ga rfl (Ga rfl (Gn (.t2 4 5) (Ac (AP (AD (AP ?_)))))))
   refine AD (AD (AP (AD ?_)))
   refine AY rfl (.tmp rfl (.tmp rfl .n)) ?_
   intro w1 hS; refine ⟨?_, hS.Am⟩; rw [hI13]; simp only [c1, c2, c3, c4, c5, ↓reduceIte, Bool.false_eq_true]; rfl
  have c4p := kz c4
  refine Gs (Gt (Aj rfl rfl) (Ga rfl (Gn (.t5 2 6 7 8 44) ?_)))
  refine Gc (fun c6 => ?_) (fun c6 => ?_)
  ·
   have c6p := kz c6
   refine Aa ?_
   refine AB (.t4 2 6 7 8) ?_
   refine AU (AA (Gs (Gt (Ah DA rfl) (Gt (AF rfl A1 .m0 Ak.l3 rfl rfl) (Ga rfl (Gn (.t4 1 2 6 8) (Gs ?_)))))))
   refine Gm rfl (Gt (CI rfl rfl) (Gm rfl (Ba 50 rfl rfl (fun q => AE rfl) (Ba 50 rfl rfl (fun q => A5 (BX rfl q) rfl) (Gt (BH rfl rfl (fun h => h)) (Gm rfl (Ba 54 rfl rfl (fun q => AE rfl) ?_)))))))
   refine Ba 54 rfl rfl (fun q => Ah Cq rfl) ?_
   refine Ba 54 rfl rfl (fun q => by have q1 := q; (try simp at q1); exact AR Fo (BX rfl q) (BX rfl q) (by omega) (by omega)) ?_
   refine Ba 54 rfl rfl (fun q => Ah Fk (BX rfl q)) ?_
   refine Ba 54 rfl rfl (fun q => by have q1 := q; (try simp at q1); exact AF (BX rfl q) Ct .m1 ((AI.l1.comp (AS.ar (n := 9) Ak.fl (by omega))).comp Ak.l4) rfl rfl) ?_
   refine Ba 54 rfl rfl (fun q => BQ (BX rfl q)) (Gt (BH rfl rfl (fun h => h)) (Gn (.t5 1 2 6 8 61) ?_))
   refine Gc (fun c7 => ?_) (fun c7 => ?_)
   ·
    have c7p := kz c7
    refine AJ (Ga rfl ?_)
    refine AM (AB (.t4 1 2 6 8) ?_)
    refine AU (AA (AJ ?_))
    refine Gt (Aw rfl rfl (IntWalk.i64_in _ (by omega))) ?_
    refine Gm rfl ?_
    refine AM (AB (.t4 1 2 6 8) ?_)
    refine Bu (k + 1) ((X.AX.at j).at_) (false) ?_ ?_ (.t4 1 6 8 2) (.cons _ (.refl _))
    · exact ⟨by omega, by omega, by rw [hI13]; simp only [c1, c2, c3, c4, c6, c7, ↓reduceIte, Bool.false_eq_true]⟩
    · omega
   have c7p := kz c7
   refine Aa ?_
   refine AB (.t4 1 2 6 8) ?_
   refine AU (AA (AJ ?_))
   refine Gt (Aw rfl rfl (IntWalk.i64_in _ (by omega))) ?_
   refine Gm rfl ?_
   refine AM (AB (.t4 1 2 6 8) ?_)
   refine Bu (k + 1) ((X.AX.at j).at_) (o) ?_ ?_ (.t4 1 6 8 2) (.cons _ (.refl _))
   · exact ⟨by omega, by omega, by rw [hI13]; simp only [c1, c2, c3, c4, c6, c7, ↓reduceIte, Bool.false_eq_true]⟩
   · omega
  refine Gs (Ga rfl (Ga rfl (Gn (.t2 4 5) (Ac (AP (AD (AP ?_)))))))
  refine AD (AD (AP (AD ?_)))
  refine AY rfl (.tmp rfl (.tmp rfl .n)) ?_
  intro w1 hS; refine ⟨?_, hS.Am⟩; rw [hI13]; simp only [c1, c2, c3, c4, c6, ↓reduceIte, Bool.false_eq_true]; rfl
 have c1p := kz c1
 obtain rfl : k = 10 := by omega
 refine BV (AT (AT (Af ?_)))
 refine AB (.nil _) ?_
 refine AA (Gs (Ga rfl (Ga rfl (AM (AA (Ac ?_))))))
 refine AY rfl (.tmp rfl (.tmp rfl .n)) ?_
 intro w1 hS; refine ⟨?_, hS.Am⟩; rw [hI13]; rfl
theorem EL (X : AI) (r : Int) (w : World) : EG Tryz.prog 129 #[.agg X.enc.toArray, .int .i64 r] w fun v w' => v = .bool (X.G9 r) ∧ B6 w w' := by
 refine Ai [] [] Tryz.func129 rfl rfl rfl (St.start w []) ?_
 refine Gs ?_
 refine Bw rfl rfl rfl (fun b1 => ?_)
 refine Ga rfl (Gn (.t2 1 2) (CB (Gm rfl (Gt (A5 rfl rfl) (Gm rfl (BZ 11 rfl rfl (fun q => AE rfl) (BZ 11 rfl rfl (fun q => CI (cF rfl q) rfl) ?_)))))))
 refine Gt (BR rfl rfl (fun h => by rw [h]; rfl)) ?_
 refine Gn (.t3 1 2 14) ?_
 refine Gc (fun c1 => ?_) (fun c1 => ?_)
 ·
  refine Gs (Ga rfl (Gn (.t1 4) (Ac (AD ?_))))
  refine AY rfl (.tmp rfl .n) ?_
  intro w1 hS; refine ⟨congrArg Value.bool ?_, hS.Am⟩; rw [show X.G9 r = _ from BC c1]
 have c1p := kz c1
 have hr : 0 ≤ r ∧ r < 6 := by simp at c1; omega
 refine Aa ?_
 refine AB (.t2 1 2) ?_
 refine AA (CB (Gm rfl (Gt (Ah GJ rfl) ?_)))
 refine Gt (AR N6 rfl rfl (by omega) (by omega)) ?_
 refine Gt (Ah Yu rfl) ?_
 refine Gt (AF rfl Ct .m0 ((AI.l0.comp (AS.ar (n := 6) Room.fl (by omega))).comp Room.l1) rfl rfl) ?_
 refine Gt (BQ rfl) (Gn (.t3 1 2 20) ?_)
 refine Gc (fun c2 => ?_) (fun c2 => ?_)
 ·
  refine Gs (Ga rfl (Gn (.t1 4) (Ac (AD ?_))))
  refine AY rfl (.tmp rfl .n) ?_
  intro w1 hS; refine ⟨congrArg Value.bool ?_, hS.Am⟩; rw [show X.G9 r = _ from (AV c1).trans (BC c2)]
 have c2p := kz c2
 refine Aa ?_
 refine AB (.t2 1 2) ?_
 refine AA (CB (Gt (Ah Cq rfl) (Gt (AZ rfl TX .m0 AI.l1 rfl) (Gm rfl (Gn (.t4 1 2 22 23) (Ae ?_))))))
 refine Bf (.t4 23 1 2 22) ?_
 refine CJ (fun (k : Int) => 0 ≤ k ∧ k ≤ 9 ∧ CA 9 (fun i => !X.lit r i) 9 = CA 9 (fun i => !X.lit r i) (9 - k).toNat) (fun (k : Int) => (9 - k).toNat) (fun (k : Int) => [(23, .int .i64 k)]) (fun (k : Int) => []) (0) ?_ rfl rfl (fun k hI1 => ?_)
 · exact ⟨by omega, by omega, rfl⟩
 obtain ⟨hI11, hI12, hI13⟩ := hI1
 refine Gs (Gt (A5 rfl rfl) (AM (AA (Ao ?_))))
 refine Gc (fun c3 => ?_) (fun c3 => ?_)
 ·
  have c3p := kz c3
  rw [C6 _ (by omega)] at hI13
  refine Aa ?_
  refine AB (.t4 1 2 22 23) ?_
  refine AA (Ao (Ae (Gs (Gm rfl ?_))))
  refine Gt (Fm Ak.fl Tryz.underlying30 LO rfl rfl (by omega) (by omega)) ?_
  refine BB rfl Js rfl (fun b2 => ?_)
  refine Ga rfl ?_
  refine AQ (AK (AS.id Ak.fl.len Ak.fl.one) rfl rfl rfl MQ rfl .h) ?_
  refine Gn (.t6 1 2 5 6 22 23) (CB (Gt (Ah GS rfl) (Gt (AF rfl A1 .m0 Ak.l1 rfl rfl) (Gt (CT rfl rfl) (Gm rfl (BZ 30 rfl rfl (fun q => Ah Fk rfl) (BZ 30 rfl rfl (fun q => AF (cF rfl q) Ct .m0 Ak.l4 rfl rfl) ?_)))))))
  refine BZ 30 rfl rfl (fun q => BQ (cF rfl q)) ?_
  refine Gt (BR rfl rfl (fun h => by rw [h]; rfl)) ?_
  refine Gn (.t6 1 2 5 22 23 34) ?_
  refine Gc (fun c4 => ?_) (fun c4 => ?_)
  ·
   have c4p := kz c4
   refine BV (AT (Af ?_))
   refine AB (.t4 1 2 22 23) ?_
   refine AA (AJ ?_)
   refine Gt (Aw rfl rfl (IntWalk.i64_in _ (by omega))) ?_
   refine Gm rfl ?_
   refine AM (AB (.t4 1 2 22 23) ?_)
   refine Bx (k + 1) ?_ ?_ (.t4 23 1 2 22) (.cons _ (.refl _))
   · exact ⟨by omega, by omega, by rw [hI13, show X.lit r k = false from by rw [AI.lit, c4]; first | rfl | exact Bool.and_false _]; rfl⟩
   · omega
  have c4p := kz c4
  refine Aa ?_
  refine AB (.t5 1 2 5 22 23) ?_
  refine AA (Gs (Gt (AZ rfl BT .m1 (AS.id AI.fl.len AI.fl.one) rfl) (Gm rfl ?_)))
  refine A8 rfl ay (.c rfl (.c rfl .n)) (fun w hS => Nv _ _ w) ?_
  refine Gm rfl (Gt (AL rfl rfl) (Gt (AL rfl rfl) (Ga rfl (Ga rfl (Gn (.t6 1 2 7 8 22 23) (Gs (Gm rfl ?_)))))))
  refine Gm rfl (Gt (Aj rfl rfl) (Gm rfl (Ba 44 rfl rfl (fun q => AE rfl) (Gt (BH rfl rfl (fun h => h)) (Gn (.t5 1 2 22 23 46) ?_)))))
  refine Gc (fun c5 => ?_) (fun c5 => ?_)
  ·
   refine Gs (Ga rfl (Gn (.t1 4) (Ac (AP (AD (AD (AP ?_)))))))
   refine AD ?_
   refine AY rfl (.tmp rfl .n) ?_
   intro w1 hS; refine ⟨congrArg Value.bool ?_, hS.Am⟩; rw [show X.G9 r = _ from (AV c1).trans (AV c2), hI13, show X.lit r k = true from by rw [AI.lit, c4, c5]; rfl]; rfl
  have c5p := kz c5
  refine Aa ?_
  refine AB (.t4 1 2 22 23) ?_
  refine AU (AA (AJ ?_))
  refine Gt (Aw rfl rfl (IntWalk.i64_in _ (by omega))) ?_
  refine Gm rfl ?_
  refine AM (AB (.t4 1 2 22 23) ?_)
  refine Bx (k + 1) ?_ ?_ (.t4 23 1 2 22) (.cons _ (.refl _))
  · exact ⟨by omega, by omega, by rw [hI13, show X.lit r k = false from by rw [AI.lit, c5]; first | rfl | exact Bool.and_false _]; rfl⟩
  · omega
 have c3p := kz c3
 obtain rfl : k = 9 := by omega
 refine BV (AT (AT (Af ?_)))
 refine AB (.nil _) ?_
 refine AA (Gs (Ga rfl (AM (AA (Ac ?_)))))
 refine AY rfl (.tmp rfl .n) ?_
 intro w1 hS; refine ⟨congrArg Value.bool ?_, hS.Am⟩; rw [show X.G9 r = _ from (AV c1).trans (AV c2), hI13]; rfl
theorem HW (X : AI) (b : Int) (w : World) : EG Tryz.prog 160 #[.agg X.enc.toArray, .int .i64 b] w fun v w' => v = .bool (X.hidden b) ∧ B6 w w' := by
 refine Ai [] [] Tryz.func160 rfl rfl rfl (St.start w []) ?_
 refine Gs ?_
 refine Bw rfl rfl rfl (fun b1 => ?_)
 refine Ga rfl (Gn (.t2 1 2) (CB (Gt (Ah Cq rfl) (Gt (AZ rfl TX .m0 AI.l1 rfl) (Gm rfl (Gn (.t3 1 8 9) (Ae ?_)))))))
 refine Bf (.t3 9 1 8) ?_
 refine CJ (fun (k : Int) => 0 ≤ k ∧ k ≤ 9 ∧ CA 9 (fun i => !X.Kh b i) 9 = CA 9 (fun i => !X.Kh b i) (9 - k).toNat) (fun (k : Int) => (9 - k).toNat) (fun (k : Int) => [(9, .int .i64 k)]) (fun (k : Int) => []) (0) ?_ rfl rfl (fun k hI1 => ?_)
 · exact ⟨by omega, by omega, rfl⟩
 obtain ⟨hI11, hI12, hI13⟩ := hI1
 refine Gs (Gt (A5 rfl rfl) (AM (AA (Ao ?_))))
 refine Gc (fun c1 => ?_) (fun c1 => ?_)
 ·
  have c1p := kz c1
  rw [C6 _ (by omega)] at hI13
  refine Aa ?_
  refine AB (.t3 1 8 9) ?_
  refine AA (Ao (Ae (Gs ?_)))
  refine Gt (Fm Ak.fl Tryz.underlying30 LO rfl rfl (by omega) (by omega)) ?_
  refine BB rfl Js rfl (fun b2 => ?_)
  refine AQ (AK (AS.id Ak.fl.len Ak.fl.one) rfl rfl rfl MQ rfl .h) ?_
  refine Gn (.t4 1 6 8 9) (Gs (Gt (Ah GS rfl) (Gt (AF rfl A1 .m0 Ak.l1 rfl rfl) (Gt (Aj rfl rfl) (Gm rfl (Ba 15 rfl rfl (fun q => Ah Fk rfl) (Ba 15 rfl rfl (fun q => AF (BX rfl q) Ct .m0 Ak.l4 rfl rfl) ?_)))))))
  refine Gt (BH rfl rfl (fun h => h)) (Gm rfl (Ba 19 rfl rfl (fun q => Ah E6 rfl) (Ba 19 rfl rfl (fun q => AF (BX rfl q) A1 .m0 Ak.l2 rfl rfl) (Ba 19 rfl rfl (fun q => Aj (BX rfl q) rfl) (Gt (BH rfl rfl (fun h => h)) (Gm rfl (Ba 24 rfl rfl (fun q => Ah DA rfl) ?_)))))))
  refine Ba 24 rfl rfl (fun q => AF (BX rfl q) A1 .m0 Ak.l3 rfl rfl) (Ba 24 rfl rfl (fun q => AE rfl) (Ba 24 rfl rfl (fun q => Aj (BX rfl q) (BX rfl q)) (Gt (BH rfl rfl (fun h => h)) (Gn (.t4 1 8 9 29) ?_))))
  refine Gc (fun c2 => ?_) (fun c2 => ?_)
  ·
   refine Gs (Ga rfl (Gn (.t1 4) (Ac (AP (AD (AD (AP ?_)))))))
   refine AD ?_
   refine AY rfl (.tmp rfl .n) ?_
   intro w1 hS; refine ⟨congrArg Value.bool ?_, hS.Am⟩; rw [AI.hidden, hI13, show X.Kh b k = true from c2]; rfl
  have c2p := kz c2
  refine Aa ?_
  refine AB (.t3 1 8 9) ?_
  refine AU (AA (AJ ?_))
  refine Gt (Aw rfl rfl (IntWalk.i64_in _ (by omega))) ?_
  refine Gm rfl ?_
  refine AM (AB (.t3 1 8 9) ?_)
  refine Bx (k + 1) ?_ ?_ (.t3 9 1 8) (.cons _ (.refl _))
  · exact ⟨by omega, by omega, by rw [hI13, show X.Kh b k = false from c2]; rfl⟩
  · omega
 have c1p := kz c1
 obtain rfl : k = 9 := by omega
 refine BV (AT (AT (Af ?_)))
 refine AB (.nil _) ?_
 refine AA (Gs (Ga rfl (AM (AA (Ac ?_)))))
 refine AY rfl (.tmp rfl .n) ?_
 intro w1 hS; refine ⟨congrArg Value.bool ?_, hS.Am⟩; rw [AI.hidden, hI13]; rfl
theorem DF (X : AI) (a b : Int) (w : World) : EG Tryz.prog 130 #[.agg X.enc.toArray, .int .i64 a, .int .i64 b] w fun v w' => v = .bool (X.H5 a b) ∧ B6 w w' := by
 refine Ai [] [] Tryz.func130 rfl rfl rfl (St.start w []) ?_
 refine Gs ?_
 refine Bw rfl rfl rfl (fun b1 => ?_)
 refine Ga rfl (Gn (.t3 1 2 3) (CB (Gt (AZ rfl BT .m0 (AS.id AI.fl.len AI.fl.one) rfl) (Gm rfl ?_))))
 refine A8 rfl WB (.c rfl (.c rfl .n)) (fun w hS => Fl _ _ w) ?_
 refine Gt (BQ rfl) (Gm rfl (BZ 13 rfl rfl (fun q => AZ rfl BT .m0 (AS.id AI.fl.len AI.fl.one) rfl) (BZ 13 rfl rfl (fun q => AE rfl) ?_)))
 refine P0 (t := 13) rfl rfl rfl (fun q => by have q1 := q; (try simp at q1); exact Dv WB (.c (cF rfl q) (.c (cF rfl q) .n)) (fun w hS => Fl _ _ w)) ?_
 refine BZ 13 rfl rfl (fun q => BQ (cF rfl q)) ?_
 refine Gt (BR rfl rfl (fun h => by rw [h]; rfl)) ?_
 refine Gn (.t4 1 2 3 18) ?_
 refine Gc (fun c1 => ?_) (fun c1 => ?_)
 ·
  refine Gs (Ga rfl (Gn (.t1 6) (Ac (AD ?_))))
  refine AY rfl (.tmp rfl .n) ?_
  intro w1 hS; refine ⟨congrArg Value.bool ?_, hS.Am⟩; rw [show X.H5 a b = _ from (BC c1)]
 have c1p := kz c1
 have hr : (0 ≤ a ∧ a < 6) ∧ 0 ≤ b ∧ b < 6 := by simp at c1; have h1 := AI.JX c1.1; have h2 := AI.JX c1.2; omega
 refine Aa ?_
 refine AB (.t3 1 2 3) ?_
 refine AA (CB (Gm rfl (Gm rfl (Gt (Aj rfl rfl) (Gn (.t4 1 2 3 21) ?_)))))
 refine Gc (fun c2 => ?_) (fun c2 => ?_)
 ·
  refine Gs (Ga rfl (Gn (.t1 6) (Ac (AD ?_))))
  refine AY rfl (.tmp rfl .n) ?_
  intro w1 hS; refine ⟨congrArg Value.bool ?_, hS.Am⟩; rw [show X.H5 a b = _ from ((AV c1).trans (BC c2))]
 have c2p := kz c2
 refine Aa ?_
 refine AB (.t3 1 2 3) ?_
 refine AA (Ao ?_)
 refine BE (N := 12) [0, 0, 3, 7, 0, 0, 48, 112, 0, 0, 783, 2047] mix (by kernel_rfl) rfl ?_
 refine Pf 0 rfl (AE rfl) (Pf 1 rfl (Ah Bk rfl) ?_)
 refine Pf 2 rfl (AR Cy rfl rfl (by omega) (by omega)) ?_
 refine Pf 3 rfl (AZ rfl FF .m0 (AI.l2.comp (AS.ar (n := 6) Al.fl (by omega))) rfl) ?_
 refine Pf 4 rfl (AE rfl) (Pf 5 rfl (Ah Bk rfl) ?_)
 refine Pf 6 rfl (AR Cy rfl rfl (by omega) (by omega)) ?_
 refine Pf 7 rfl (AZ rfl FF .m0 (AI.l2.comp (AS.ar (n := 6) Al.fl (by omega))) rfl) ?_
 refine JO 8 9 rfl rfl (by kernel_rfl) ?_ ?_
 ·
  refine BB rfl K2 rfl (fun b2 => ?_)
  refine Bm rfl ⟨?_, ?_⟩
  · exact (Po rfl (AZ rfl FF .m1 (AI.l2.comp (AS.ar (n := 6) Al.fl (by omega))) rfl) rfl rfl (Po rfl (AR Cy rfl rfl (by omega) (by omega)) rfl rfl (Po rfl (Ah Bk rfl) rfl rfl (Po rfl (AE rfl) rfl rfl (Po rfl (AZ rfl FF .m1 (AI.l2.comp (AS.ar (n := 6) Al.fl (by omega))) rfl) rfl rfl (Po rfl (AR Cy rfl rfl (by omega) (by omega)) rfl rfl (Po rfl (Ah Bk rfl) rfl rfl (Po rfl (AE rfl) rfl rfl As))))))))
  refine An 9 rfl (by kernel_rfl) ?_
  refine BB rfl K2 rfl (fun b3 => ?_)
  refine Bm rfl ⟨?_, ?_⟩
  · exact (Po rfl (AZ rfl FF .m2 (AI.l2.comp (AS.ar (n := 6) Al.fl (by omega))) rfl) rfl rfl (Po rfl (AR Cy rfl rfl (by omega) (by omega)) rfl rfl (Po rfl (Ah Bk rfl) rfl rfl (Po rfl (AE rfl) rfl rfl (Po rfl (AZ rfl FF .m2 (AI.l2.comp (AS.ar (n := 6) Al.fl (by omega))) rfl) rfl rfl (Po rfl (AR Cy rfl rfl (by omega) (by omega)) rfl rfl (Po rfl (Ah Bk rfl) rfl rfl (Po rfl (AE rfl) rfl rfl As))))))))
  refine An 10 rfl (by kernel_rfl) ?_
  refine AQ (AK (AS.id Al.fl.len Al.fl.one) rfl rfl rfl Jv rfl (.t .h)) ?_
  refine BK rfl ⟨?_, ?_⟩
  · exact (Po rfl (AZ rfl FF .m2 (AI.l2.comp (AS.ar (n := 6) Al.fl (by omega))) rfl) rfl rfl (Po rfl (AR Cy rfl rfl (by omega) (by omega)) rfl rfl (Po rfl (Ah Bk rfl) rfl rfl (Po rfl (AE rfl) rfl rfl (Pk (Pk (Pk (Pk As))))))))
  refine An 11 rfl (by kernel_rfl) ?_
  refine AQ (AK (AS.id Al.fl.len Al.fl.one) rfl rfl rfl Jv rfl .h) ?_
  refine BK rfl ⟨?_, ?_⟩
  · exact (Pk (Pk (Pk (Pk (Pk (Pk (Pk (Pk As))))))))
  refine A3 (by kernel_rfl) ?_
  refine AB (.t4 2 3 7 8) ?_
  refine AA (Gs (Gt (Ah Cv rfl) (Gt (AF rfl A1 .m1 Al.l3 rfl rfl) (Gt (Ah Cv rfl) (Gt (AF rfl A1 .m0 Al.l3 rfl rfl) (Gt (Aj rfl rfl) (Gm rfl ?_)))))))
  refine Ba 35 rfl rfl (fun q => AZ rfl BT .m2 (AS.id AI.fl.len AI.fl.one) rfl) (Ba 35 rfl rfl (fun q => Ah Cv rfl) (Ba 35 rfl rfl (fun q => AF (BX rfl q) A1 .m1 Al.l3 rfl rfl) ?_))
  refine KE (t := 35) rfl rfl rfl (fun q => Dv S9 (.c (BX rfl q) (.c (BX rfl q) .n)) (fun w hS => EL _ _ w)) ?_
  refine Gt (BH rfl rfl (fun h => h)) (Gm rfl (Ba 41 rfl rfl (fun q => Ah VJ rfl) (Ba 41 rfl rfl (fun q => AF (BX rfl q) Ct .m1 Al.l2 rfl rfl) (Ba 41 rfl rfl (fun q => AE (BX rfl q)) ?_))))
  refine Cw (t := 44) rfl rfl rfl (fun qc q => AZ rfl BT .m2 (AS.id AI.fl.len AI.fl.one) rfl) ?_
  refine Cw (t := 44) rfl rfl rfl (fun qc q => AE rfl) ?_
  refine TP (t := 44) rfl rfl rfl (fun qc q => by have q1 := q; have qc1 := qc; (try simp at q1 qc1); exact Dv YG (.c (BX rfl (by rw [qc, q]; rfl)) (.c (BX rfl (by rw [qc, q]; rfl)) .n)) (fun w hS => HW _ _ w)) ?_
  refine Cw (t := 44) rfl rfl rfl (fun qc q => BQ (BX rfl (by rw [qc, q]; rfl))) ?_
  refine Ba 41 rfl rfl (fun q => BR (BX rfl q) rfl (fun h => by rw [q, h]; rfl)) ?_
  refine Gt (BH rfl rfl (fun h => h)) (Ga rfl (Gn (.t1 6) (Ac ?_)))
  refine AY rfl (.tmp rfl .n) ?_
  intro w1 hS; refine ⟨congrArg Value.bool ?_, hS.Am⟩; rw [show X.H5 a b = _ from ((AV c1).trans (AV c2))]
 ·
  refine BB rfl K2 rfl (fun b4 => ?_)
  refine Bm rfl ⟨?_, ?_⟩
  · exact (Po rfl (AZ rfl FF .m1 (AI.l2.comp (AS.ar (n := 6) Al.fl (by omega))) rfl) rfl rfl (Po rfl (AR Cy rfl rfl (by omega) (by omega)) rfl rfl (Po rfl (Ah Bk rfl) rfl rfl (Po rfl (AE rfl) rfl rfl (Po rfl (AZ rfl FF .m1 (AI.l2.comp (AS.ar (n := 6) Al.fl (by omega))) rfl) rfl rfl (Po rfl (AR Cy rfl rfl (by omega) (by omega)) rfl rfl (Po rfl (Ah Bk rfl) rfl rfl (Po rfl (AE rfl) rfl rfl As))))))))
  refine An 8 rfl (by kernel_rfl) ?_
  refine BB rfl K2 rfl (fun b5 => ?_)
  refine Bm rfl ⟨?_, ?_⟩
  · exact (Po rfl (AZ rfl FF .m2 (AI.l2.comp (AS.ar (n := 6) Al.fl (by omega))) rfl) rfl rfl (Po rfl (AR Cy rfl rfl (by omega) (by omega)) rfl rfl (Po rfl (Ah Bk rfl) rfl rfl (Po rfl (AE rfl) rfl rfl (Po rfl (AZ rfl FF .m2 (AI.l2.comp (AS.ar (n := 6) Al.fl (by omega))) rfl) rfl rfl (Po rfl (AR Cy rfl rfl (by omega) (by omega)) rfl rfl (Po rfl (Ah Bk rfl) rfl rfl (Po rfl (AE rfl) rfl rfl As))))))))
  refine An 10 rfl (by kernel_rfl) ?_
  refine AQ (AK (AS.id Al.fl.len Al.fl.one) rfl rfl rfl Jv rfl .h) ?_
  refine BK rfl ⟨?_, ?_⟩
  · exact (Po rfl (AZ rfl FF .m2 (AI.l2.comp (AS.ar (n := 6) Al.fl (by omega))) rfl) rfl rfl (Po rfl (AR Cy rfl rfl (by omega) (by omega)) rfl rfl (Po rfl (Ah Bk rfl) rfl rfl (Po rfl (AE rfl) rfl rfl (Pk (Pk (Pk (Pk As))))))))
  refine An 11 rfl (by kernel_rfl) ?_
  refine AQ (AK (AS.id Al.fl.len Al.fl.one) rfl rfl rfl Jv rfl (.t .h)) ?_
  refine BK rfl ⟨?_, ?_⟩
  · exact (Pk (Pk (Pk (Pk (Pk (Pk (Pk (Pk As))))))))
  refine A3 (by kernel_rfl) ?_
  refine AB (.t4 2 3 7 8) ?_
  refine AA (Gs (Gt (Ah Cv rfl) (Gt (AF rfl A1 .m0 Al.l3 rfl rfl) (Gt (Ah Cv rfl) (Gt (AF rfl A1 .m1 Al.l3 rfl rfl) (Gt (Aj rfl rfl) (Gm rfl ?_)))))))
  refine Ba 35 rfl rfl (fun q => AZ rfl BT .m2 (AS.id AI.fl.len AI.fl.one) rfl) (Ba 35 rfl rfl (fun q => Ah Cv rfl) (Ba 35 rfl rfl (fun q => AF (BX rfl q) A1 .m0 Al.l3 rfl rfl) ?_))
  refine KE (t := 35) rfl rfl rfl (fun q => Dv S9 (.c (BX rfl q) (.c (BX rfl q) .n)) (fun w hS => EL _ _ w)) ?_
  refine Gt (BH rfl rfl (fun h => h)) (Gm rfl (Ba 41 rfl rfl (fun q => Ah VJ rfl) (Ba 41 rfl rfl (fun q => AF (BX rfl q) Ct .m0 Al.l2 rfl rfl) (Ba 41 rfl rfl (fun q => AE (BX rfl q)) ?_))))
  refine Cw (t := 44) rfl rfl rfl (fun qc q => AZ rfl BT .m2 (AS.id AI.fl.len AI.fl.one) rfl) ?_
  refine Cw (t := 44) rfl rfl rfl (fun qc q => AE rfl) ?_
  refine TP (t := 44) rfl rfl rfl (fun qc q => by have q1 := q; have qc1 := qc; (try simp at q1 qc1); exact Dv YG (.c (BX rfl (by rw [qc, q]; rfl)) (.c (BX rfl (by rw [qc, q]; rfl)) .n)) (fun w hS => HW _ _ w)) ?_
  refine Cw (t := 44) rfl rfl rfl (fun qc q => BQ (BX rfl (by rw [qc, q]; rfl))) ?_
  refine Ba 41 rfl rfl (fun q => BR (BX rfl q) rfl (fun h => by rw [q, h]; rfl)) ?_
  refine Gt (BH rfl rfl (fun h => h)) (Ga rfl (Gn (.t1 6) (Ac ?_)))
  refine AY rfl (.tmp rfl .n) ?_
  intro w1 hS; refine ⟨congrArg Value.bool ?_, hS.Am⟩; rw [show X.H5 a b = _ from ((AV c1).trans (AV c2))]
theorem MY (k : Int) (w : World) : EG Tryz.prog 173 #[.int .i64 k] w fun v w' => v = .bool (AI.aT k) ∧ B6 w w' := by
 refine Ai [] [] Tryz.func173 rfl rfl rfl (St.start w []) ?_
 refine Gs (Ga rfl (Gn (.t1 0) (Gs (Gm rfl (Gt (Aj rfl rfl) (Gm rfl (BZ 5 rfl rfl (fun q => AE rfl) ?_)))))))
 refine BZ 5 rfl rfl (fun q => Aj (cF rfl q) rfl) ?_
 refine Gt (BR rfl rfl (fun h => by rw [h]; rfl)) ?_
 refine Gm rfl (BZ 9 rfl rfl (fun q => AE rfl) (BZ 9 rfl rfl (fun q => Aj (cF rfl q) rfl) ?_))
 refine Gt (BR rfl rfl (fun h => by rw [h]; rfl)) ?_
 refine Ga rfl (Gn (.t1 2) (Ac ?_))
 refine AY rfl (.tmp rfl .n) ?_
 intro w1 hS; refine ⟨?_, hS.Am⟩; rfl
theorem JN (X : AI) (b : Int) (e : Ing.Event) (w : World) : EG Tryz.prog 157 #[.agg X.enc.toArray, .int .i64 b, .agg e.enc.toArray] w fun v w' => v = .int .i64 (X.Dg b e) ∧ B6 w w' := by
 refine Ai [] [] Tryz.func157 rfl rfl rfl (St.start w []) ?_
 refine Gs ?_
 refine Bw rfl rfl rfl (fun b1 => ?_)
 refine Bw rfl rfl rfl (fun b2 => ?_)
 refine Ga rfl (Gn (.t3 1 3 5) (Ao (Ae (Gs (Gt (AZ rfl BT .m1 (AS.id AI.fl.len AI.fl.one) rfl) (Gm rfl ?_))))))
 refine A8 rfl WB (.c rfl (.c rfl .n)) (fun w hS => Fl _ _ w) ?_
 refine Gt (BQ rfl) (Ga rfl (Gn (.t4 1 3 5 8) ?_))
 refine Gc (fun c1 => ?_) (fun c1 => ?_)
 ·
  refine Gs (Ga rfl (Gn (.t1 6) (Ac (AP (AD ?_)))))
  refine AY rfl (.tmp rfl .n) ?_
  intro w1 hS; refine ⟨?_, hS.Am⟩; rw [show X.Dg b e = _ from (BC c1)]; rfl
 have c1p := kz c1
 have hr : 0 ≤ b ∧ b < 6 := by simp at c1; have h1 := AI.JX c1; omega
 refine Gs (Gm rfl (Gt (Ah QM rfl) (Gt (AF rfl A1 .m0 Ing.Event.l2 rfl rfl) (Gt (Aj rfl rfl) (Ga rfl (Gn (.t4 1 3 5 13) ?_))))))
 refine Gc (fun c2 => ?_) (fun c2 => ?_)
 ·
  refine CB (Gt (Ah GO rfl) (Gt (AF rfl A1 .m0 Ing.Event.l3 rfl rfl) (Gt (A5 rfl rfl) (Gm rfl (BZ 21 rfl rfl (fun q => Ah GO rfl) (BZ 21 rfl rfl (fun q => AF (cF rfl q) A1 .m0 Ing.Event.l3 rfl rfl) (BZ 21 rfl rfl (fun q => CI (cF rfl q) rfl) ?_)))))))
  refine Gt (BR rfl rfl (fun h => by rw [h]; rfl)) ?_
  refine Gm rfl (BZ 26 rfl rfl (fun q => AZ rfl BT .m1 (AS.id AI.fl.len AI.fl.one) rfl) (BZ 26 rfl rfl (fun q => AE rfl) (BZ 26 rfl rfl (fun q => Ah GO rfl) (BZ 26 rfl rfl (fun q => AF (cF rfl q) A1 .m0 Ing.Event.l3 rfl rfl) ?_))))
  refine P0 (t := 26) rfl rfl rfl (fun q => by have q1 := q; (try simp at q1); exact Dv Mv (.c (cF rfl q) (.c (cF rfl q) (.c (cF rfl q) .n))) (fun w hS => DF _ _ _ w)) ?_
  refine Gt (BR rfl rfl (fun h => by rw [h]; rfl)) ?_
  refine Gn (.t1 32) ?_
  refine Gc (fun c3 => ?_) (fun c3 => ?_)
  ·
   refine Gs (Ga rfl (Gn (.t1 6) (Ac (AD (AP (AD ?_))))))
   refine AY rfl (.tmp rfl .n) ?_
   intro w1 hS; refine ⟨?_, hS.Am⟩; rw [show X.Dg b e = _ from ((AV c1).trans ((BC c2).trans (BC c3)))]; rfl
  refine Aa ?_
  refine AB (.nil _) ?_
  refine AA (Gs (Ga rfl (AM (AA (Ac (AP (AD ?_)))))))
  refine AY rfl (.tmp rfl .n) ?_
  intro w1 hS; refine ⟨?_, hS.Am⟩; rw [show X.Dg b e = _ from ((AV c1).trans ((BC c2).trans (AV c3)))]; rfl
 have c2p := kz c2
 refine Ao ?_
 refine BE (N := 14) [0, 1, 3, 7, 15, 15, 63, 127, 255, 15, 527, 2047, 4095, 8191] mix (by kernel_rfl) rfl ?_
 refine Pf 0 rfl (Ah SP rfl) (Pf 1 rfl (AF rfl A1 .m0 Ing.Event.l0 rfl rfl) (Pf 2 rfl (Aj rfl rfl) (Pf 3 rfl (AE rfl) (Gp 4 37 rfl rfl rfl (fun q => AE rfl) (Gp 5 37 rfl rfl rfl (fun q => Ah Bk rfl) ?_)))))
 refine BW 6 rfl rfl (by kernel_rfl) (GX (t := 37) rfl rfl (fun q => by have q1 := q; (try simp at q1); exact Hw (AR Cy (cF rfl q) (cF rfl q) (by omega) (by omega)))) ?_
 refine Gp 7 37 rfl rfl rfl (fun q => Ah Cv (cF rfl q)) ?_
 refine BW 8 rfl rfl (by kernel_rfl) (GX (t := 37) rfl rfl (fun q => by have q1 := q; (try simp at q1); exact Hw (AF (cF rfl q) A1 .m1 ((AI.l2.comp (AS.ar (n := 6) Al.fl (by omega))).comp Al.l3) rfl rfl))) ?_
 refine Gp 9 37 rfl rfl rfl (fun q => Ah Vm rfl) (Gp 10 37 rfl rfl rfl (fun q => AF (cF rfl q) A1 .m0 Ing.Event.l1 rfl rfl) (Gp 11 37 rfl rfl rfl (fun q => CT (cF rfl q) (cF rfl q)) ?_))
 refine Pf 12 rfl (BR rfl rfl (fun h => by rw [h]; rfl)) ?_
 refine Pf 13 rfl (Az rfl) ?_
 refine A3 (by kernel_rfl) ?_
 refine AB (.t4 1 3 5 33) ?_
 refine AA ?_
 refine Gc (fun c4 => ?_) (fun c4 => ?_)
 ·
  refine Gs (Ga rfl (Gn (.t1 6) (Ac (AP (AD ?_)))))
  refine AY rfl (.tmp rfl .n) ?_
  intro w1 hS; refine ⟨?_, hS.Am⟩; rw [show X.Dg b e = _ from ((AV c1).trans ((AV c2).trans (BC c4)))]; rfl
 have c4p := kz c4
 refine Aa ?_
 refine AB (.t3 1 3 5) ?_
 refine AU (AA (Gs (Ga rfl (AM (AA (CB (Gt (AZ rfl BT .m1 (AS.id AI.fl.len AI.fl.one) rfl) ?_)))))))
 refine Gm rfl (Gt (Ah QM rfl) (Gt (AF rfl A1 .m0 Ing.Event.l2 rfl rfl) ?_))
 refine A8 rfl Mv (.c rfl (.c rfl (.c rfl .n))) (fun w hS => DF _ _ _ w) ?_
 refine Gt (BQ rfl) (Gn (.t5 1 3 5 7 52) ?_)
 refine Gc (fun c5 => ?_) (fun c5 => ?_)
 ·
  have c5p := kz c5
  refine CB (Gt (Ah SP rfl) (Gt (AF rfl A1 .m0 Ing.Event.l0 rfl rfl) ?_))
  refine A8 rfl Zr (.c rfl .n) (fun w hS => MY _ w) ?_
  refine Gt (BQ rfl) (Gn (.t5 1 3 5 7 56) ?_)
  refine Gc (fun c6 => ?_) (fun c6 => ?_)
  ·
   refine Gs (Ga rfl (Gn (.t1 6) (Ac (AD (AD ?_)))))
   refine AY rfl (.tmp rfl .n) ?_
   intro w1 hS; refine ⟨?_, hS.Am⟩; rw [show X.Dg b e = _ from ((AV c1).trans ((AV c2).trans ((AV c4).trans ((BC c5).trans (BC c6)))))]; rfl
  have c6p := kz c6
  refine Aa ?_
  refine AB (.t4 1 3 5 7) ?_
  refine AA (AJ (Gm rfl ?_))
  refine Gt (Aw rfl rfl (IntWalk.i64_in _ (by omega))) ?_
  refine Ga rfl (Gn (.t4 1 3 5 7) (CB (Gt (Ah GO rfl) (Gt (AF rfl A1 .m0 Ing.Event.l3 rfl rfl) (Gt (CI rfl rfl) (Gm rfl (Ba 62 rfl rfl (fun q => Ah GO rfl) ?_)))))))
  refine Ba 62 rfl rfl (fun q => AF (BX rfl q) A1 .m0 Ing.Event.l3 rfl rfl) (Ba 62 rfl rfl (fun q => A5 (BX rfl q) rfl) (Gt (BH rfl rfl (fun h => h)) (Gm rfl (Ba 67 rfl rfl (fun q => AZ rfl BT .m1 (AS.id AI.fl.len AI.fl.one) rfl) (Ba 67 rfl rfl (fun q => AE rfl) (Ba 67 rfl rfl (fun q => Ah GO rfl) (Ba 67 rfl rfl (fun q => AF (BX rfl q) A1 .m0 Ing.Event.l3 rfl rfl) ?_)))))))
  refine KE (t := 67) rfl rfl rfl (fun q => Dv Mv (.c (BX rfl q) (.c (BX rfl q) (.c (BX rfl q) .n))) (fun w hS => DF _ _ _ w)) ?_
  refine Ba 67 rfl rfl (fun q => BQ (BX rfl q)) (Gt (BH rfl rfl (fun h => h)) (Gn (.t2 7 74) ?_))
  refine Gc (fun c7 => ?_) (fun c7 => ?_)
  ·
   have c7p := kz c7
   refine AJ (Gm rfl ?_)
   refine Gt (Aw rfl rfl (IntWalk.i64_in _ (by omega))) ?_
   refine Ga rfl (Gn (.t1 7) (Gs (Gm rfl (Ga rfl (Gn (.t1 6) (Ac ?_))))))
   refine AY rfl (.tmp rfl .n) ?_
   intro w1 hS; refine ⟨?_, hS.Am⟩; rw [show X.Dg b e = _ from ((AV c1).trans ((AV c2).trans ((AV c4).trans ((BC c5).trans ((AV c6).trans (BC c7))))))]; rfl
  refine Aa ?_
  refine AB (.t1 7) ?_
  refine AA (Gs (Gm rfl (Ga rfl (Gn (.t1 6) (Ac ?_)))))
  refine AY rfl (.tmp rfl .n) ?_
  intro w1 hS; refine ⟨?_, hS.Am⟩; rw [show X.Dg b e = _ from ((AV c1).trans ((AV c2).trans ((AV c4).trans ((BC c5).trans ((AV c6).trans (AV c7))))))]; rfl
 have c5p := kz c5
 refine Aa ?_
 refine AB (.t4 1 3 5 7) ?_
 refine AA (CB (Gt (Ah GO rfl) (Gt (AF rfl A1 .m0 Ing.Event.l3 rfl rfl) (Gt (CI rfl rfl) (Gm rfl (Ba 62 rfl rfl (fun q => Ah GO rfl) (Ba 62 rfl rfl (fun q => AF (BX rfl q) A1 .m0 Ing.Event.l3 rfl rfl) ?_)))))))
 refine Ba 62 rfl rfl (fun q => A5 (BX rfl q) rfl) (Gt (BH rfl rfl (fun h => h)) (Gm rfl (Ba 67 rfl rfl (fun q => AZ rfl BT .m1 (AS.id AI.fl.len AI.fl.one) rfl) (Ba 67 rfl rfl (fun q => AE rfl) (Ba 67 rfl rfl (fun q => Ah GO rfl) (Ba 67 rfl rfl (fun q => AF (BX rfl q) A1 .m0 Ing.Event.l3 rfl rfl) ?_))))))
 refine KE (t := 67) rfl rfl rfl (fun q => Dv Mv (.c (BX rfl q) (.c (BX rfl q) (.c (BX rfl q) .n))) (fun w hS => DF _ _ _ w)) ?_
 refine Ba 67 rfl rfl (fun q => BQ (BX rfl q)) (Gt (BH rfl rfl (fun h => h)) (Gn (.t2 7 74) ?_))
 refine Gc (fun c8 => ?_) (fun c8 => ?_)
 ·
  have c8p := kz c8
  refine AJ (Gm rfl ?_)
  refine Gt (Aw rfl rfl (IntWalk.i64_in _ (by omega))) ?_
  refine Ga rfl (Gn (.t1 7) (Gs (Gm rfl (Ga rfl (Gn (.t1 6) (Ac ?_))))))
  refine AY rfl (.tmp rfl .n) ?_
  intro w1 hS; refine ⟨?_, hS.Am⟩; rw [show X.Dg b e = _ from ((AV c1).trans ((AV c2).trans ((AV c4).trans ((AV c5).trans (BC c8)))))]; rfl
 refine Aa ?_
 refine AB (.t1 7) ?_
 refine AA (Gs (Gm rfl (Ga rfl (Gn (.t1 6) (Ac ?_)))))
 refine AY rfl (.tmp rfl .n) ?_
 intro w1 hS; refine ⟨?_, hS.Am⟩; rw [show X.Dg b e = _ from ((AV c1).trans ((AV c2).trans ((AV c4).trans ((AV c5).trans (AV c8)))))]; rfl
theorem JL (X : AI) (e : Ing.Event) (w : World) : EG Tryz.prog 123 #[.agg X.enc.toArray, .agg e.enc.toArray] w fun v w' => v = .agg (X.HK e 6).enc.toArray ∧ B6 w w' := by
 refine Ai [] [] Tryz.func123 rfl rfl rfl (St.start w []) ?_
 refine Gs ?_
 refine Bw rfl rfl rfl (fun b1 => ?_)
 refine Bw rfl rfl rfl (fun b2 => ?_)
 refine BB rfl Hj rfl (fun b3 => ?_)
 refine Gn (.t3 2 3 4) (CB (Gm rfl (AM (AA (Ae ?_)))))
 refine Bf (.t4 6 2 3 4) ?_
 refine BU (.t .h) ?_
 refine CJ (fun (k : Int) => 0 ≤ k ∧ k ≤ 6) (fun (k : Int) => (6 - k).toNat) (fun (k : Int) => [(6, .int .i64 k)]) (fun (k : Int) => [Ab.box b2 56 (Ing.Event.enc (X.HK e k.toNat))]) (0) ?_ rfl rfl (fun k hI1 => ?_)
 · exact ⟨Int.le_refl _, by omega⟩
 obtain ⟨hI11, hI12⟩ := hI1
 refine Gs (Gt (A5 rfl rfl) (AM (AA (Ao ?_))))
 refine Gc (fun c1 => ?_) (fun c1 => ?_)
 ·
  have c1p := kz c1
  refine Aa ?_
  refine AB (.t4 2 3 4 6) ?_
  refine AA (Ao (Ae (Gs (Gm rfl (Ga rfl (Gn (.t5 2 3 4 5 6) (AJ ?_)))))))
  refine Gm rfl (Gt (AZ rfl BT .m2 (AS.id AI.fl.len AI.fl.one) rfl) (Gm rfl (Gt (AZ rfl Na .m0 (AS.id Ing.Event.fl.len Ing.Event.fl.one) rfl) ?_)))
  refine A8 rfl aS (.c rfl (.c rfl (.c rfl .n))) (fun w hS => JN _ _ _ w) ?_
  refine Gt (Ah Mm rfl) ?_
  refine Gt (AR Rg rfl rfl (by omega) (by omega)) ?_
  refine AQ (AK (Ing.Event.l10.comp (AS.ar (n := 6) Bz (by omega))) rfl rfl rfl C5 rfl .h) ?_
  refine AM (AB (.t4 2 3 4 6) ?_)
  refine AU (AA (AJ ?_))
  refine Gt (Aw rfl rfl (IntWalk.i64_in _ (by omega))) ?_
  refine Gm rfl ?_
  refine AM (AB (.t4 2 3 4 6) ?_)
  refine Bx (k + 1) ?_ ?_ (.t4 6 2 3 4) (by rw [AI.Uu (by omega)]; exact (.refl _))
  · exact ⟨by omega, by omega⟩
  · omega
 have c1p := kz c1
 obtain rfl : k = 6 := by omega
 refine BV (AT (AT (Af ?_)))
 refine AB (.t2 3 4) ?_
 refine AA (Gs (Gt (AZ rfl Na .m0 (AS.id Ing.Event.fl.len Ing.Event.fl.one) rfl) ?_))
 refine AQ (AK (AS.id Ing.Event.fl.len Ing.Event.fl.one) rfl rfl rfl MN rfl (.t .h)) ?_
 refine Gn (.t1 4) (Ac ?_)
 refine AY rfl (.cell rfl .m1 (.inl ⟨(by rw [Ing.Event.fl.len]; exact Na), rfl⟩) .n) ?_
 intro w1 hS; refine ⟨?_, hS.Am⟩; rfl
theorem CL (b : Nat) (T : AG) (g : Hd) (e : Ing.Event) (hg : g.len = T.out.length) (hb : 0 ≤ T.b ∧ T.b < 6) (ho : e.other < 6) (hn : T.out.length ≤ 100000) : Ic Tryz.prog 96 #[.pointer (some ⟨b, 0, none⟩), .agg e.enc.toArray] [Ab.box b 163 (Ad.enc ⟨T.w, T.b, g⟩), Ab.own g 56 16 (T.out.flatMap Ing.Event.enc)] (fun v B => ∃ g' : Hd, v = .tuple #[] ∧ g'.len = (T.Bl e).out.length ∧ B = [Ab.box b 163 (Ad.enc ⟨(T.Bl e).w, (T.Bl e).b, g'⟩), Ab.own g' 56 16 ((T.Bl e).out.flatMap Ing.Event.enc)]) := by
 intro w hS0
 refine Ai _ _ Tryz.func96 rfl rfl rfl (hS0) ?_
 refine Gs ?_
 refine Bw rfl rfl rfl (fun b1 => ?_)
 refine Gn (.t2 0 3) (Ao ?_)
 refine BE (N := 12) [0, 0, 2, 6, 14, 1, 33, 97, 255, 511, 0, 2047] mix (by kernel_rfl) rfl ?_
 refine Pf 0 rfl (AE rfl) (Pf 1 rfl (AE rfl) (Pf 2 rfl (BS rfl) (Pf 3 rfl (Ah CM rfl) (Pf 4 rfl (AF rfl A1 .m1 Ad.l1 rfl rfl) (Pf 5 rfl (BS rfl) (Pf 6 rfl (Ah A6 rfl) (Pf 7 rfl (Ah Bk rfl) ?_)))))))
 refine Pf 8 rfl (AR Cy rfl rfl (by (try dsimp only at *); omega) (by (try dsimp only at *); omega)) ?_
 refine Pf 9 rfl (AZ rfl FF .m1 ((Ad.l0.comp AI.l2).comp (AS.arr (n := 6) Al.fl (by (try dsimp only at *); omega) (by (try dsimp only at *); omega))) rfl) ?_
 refine An 10 rfl (by kernel_rfl) ?_
 refine BB rfl K2 rfl (fun b2 => ?_)
 refine Bm rfl ⟨?_, ?_⟩
 · exact (Po rfl (AZ rfl FF .m2 ((Ad.l0.comp AI.l2).comp (AS.arr (n := 6) Al.fl (by (try dsimp only at *); omega) (by (try dsimp only at *); omega))) rfl) rfl rfl (Po rfl (AR Cy rfl rfl (by (try dsimp only at *); omega) (by (try dsimp only at *); omega)) rfl rfl (Po rfl (Ah Bk rfl) rfl rfl (Po rfl (Ah A6 rfl) rfl rfl (Po rfl (BS rfl) rfl rfl (Po rfl (AF rfl A1 .m2 Ad.l1 rfl rfl) rfl rfl (Po rfl (Ah CM rfl) rfl rfl (Po rfl (BS rfl) rfl rfl (Po rfl (AE rfl) rfl rfl (Po rfl (AE rfl) rfl rfl As))))))))))
 refine An 11 rfl (by kernel_rfl) ?_
 refine AQ (AK (AS.id Al.fl.len Al.fl.one) rfl rfl rfl Jv rfl .h) ?_
 refine BK rfl ⟨?_, ?_⟩
 · exact (Pk (Pk (Pk (Pk (Pk (Pk (Pk (Pk (Pk (Pk As))))))))))
 refine A3 (by kernel_rfl) ?_
 refine AB (.t3 0 3 4) ?_
 refine AA (Ao ?_)
 refine BE (N := 14) [0, 1, 3, 7, 0, 16, 0, 64, 15, 271, 831, 1855, 4095, 8191] mix (by kernel_rfl) rfl ?_
 refine Pf 0 rfl (AE rfl) (Pf 1 rfl (BS rfl) (Pf 2 rfl (Ah CM rfl) (Pf 3 rfl (AF rfl A1 .m2 Ad.l1 rfl rfl) (Pf 4 rfl (Ah KX rfl) (Pf 5 rfl (AF rfl CC .m0 Al.l0 rfl rfl) (Pf 6 rfl (Ah Cv rfl) (Pf 7 rfl (AF rfl A1 .m0 Al.l3 rfl rfl) ?_)))))))
 refine Pf 8 rfl (Ah QM rfl) ?_
 refine An 9 rfl (by kernel_rfl) ?_
 refine AQ (AK Ing.Event.l2 rfl rfl rfl C5 rfl (.t .h)) ?_
 refine BK rfl ⟨?_, ?_⟩
 · exact (Pk (Po rfl (AF rfl A1 .m0 Al.l3 rfl rfl) rfl rfl (Po rfl (Ah Cv rfl) rfl rfl (Po rfl (AF rfl CC .m0 Al.l0 rfl rfl) rfl rfl (Po rfl (Ah KX rfl) rfl rfl (Pk (Pk (Pk (Pk As)))))))))
 refine Pf 10 rfl (Ah V5 rfl) ?_
 refine An 11 rfl (by kernel_rfl) ?_
 refine AQ (AK Ing.Event.l6 rfl rfl rfl EM rfl (.t .h)) ?_
 refine BK rfl ⟨?_, ?_⟩
 · exact (Pk (Pk (Po rfl (AF rfl A1 .m0 Al.l3 rfl rfl) rfl rfl (Po rfl (Ah Cv rfl) rfl rfl (Pk (Pk (Pk (Pk (Pk (Pk As))))))))))
 refine Pf 12 rfl (Ah Vm rfl) ?_
 refine An 13 rfl (by kernel_rfl) ?_
 refine AQ (AK Ing.Event.l1 rfl rfl rfl C5 rfl (.t .h)) ?_
 refine BK rfl ⟨?_, ?_⟩
 · exact (Pk (Pk (Pk (Pk (Pk (Pk (Pk (Pk (Pk (Pk (Pk As)))))))))))
 refine A3 (by kernel_rfl) ?_
 refine AB (.t2 0 3) ?_
 refine AA (CB (Gt (Ah GO rfl) (Gt (AF rfl A1 .m1 Ing.Event.l3 rfl rfl) (Gt (CI rfl rfl) (Gn (.t3 0 3 28) ?_)))))
 refine Gc (fun c1 => ?_) (fun c1 => ?_)
 ·
  have c1p := kz c1
  refine BE (N := 11) [0, 0, 2, 1, 9, 25, 63, 127, 255, 511, 1023] mix (by kernel_rfl) rfl ?_
  refine Pf 0 rfl (AE rfl) (Pf 1 rfl (Ah GO rfl) (Pf 2 rfl (AF rfl A1 .m1 Ing.Event.l3 rfl rfl) (Pf 3 rfl (BS rfl) (Pf 4 rfl (Ah A6 rfl) (Pf 5 rfl (Ah Bk rfl) ?_)))))
  refine Pf 6 rfl (AR Cy rfl rfl (by (try dsimp only at *); omega) (by (try dsimp only at *); omega)) ?_
  refine Pf 7 rfl (Ah KX rfl) ?_
  refine Pf 8 rfl (AF rfl CC .m2 (((Ad.l0.comp AI.l2).comp (AS.arr (n := 6) Al.fl (by (try dsimp only at *); omega) (by (try dsimp only at *); omega))).comp Al.l0) rfl rfl) ?_
  refine Pf 9 rfl (Ah Wq rfl) ?_
  refine An 10 rfl (by kernel_rfl) ?_
  refine AQ (AK Ing.Event.l7 rfl rfl rfl EM rfl (.t .h)) ?_
  refine BK rfl ⟨?_, ?_⟩
  · exact (Pk (Pk (Pk (Pk (Pk (Pk (Pk (Pk (Pk (Pk As))))))))))
  refine A3 (by kernel_rfl) ?_
  refine AB (.t2 0 3) ?_
  refine AA ?_
  refine BE (N := 16) [0, 0, 2, 6, 14, 0, 32, 96, 224, 0, 992, 2016, 4094, 8191, 16383, 32767] mix (by kernel_rfl) rfl ?_
  refine Pf 0 rfl (AE rfl) (Pf 1 rfl (AE rfl) (Pf 2 rfl (BS rfl) (Pf 3 rfl (Ah CH rfl) (Pf 4 rfl (AF rfl DU .m2 Ad.l2 rfl rfl) (Pf 5 rfl (AE rfl) (Pf 6 rfl (BS rfl) (Pf 7 rfl (Ah A6 rfl) ?_)))))))
  refine Pf 8 rfl (AZ rfl BT .m2 Ad.l0 rfl) (Pf 9 rfl (AZ rfl Na .m1 (AS.id Ing.Event.fl.len Ing.Event.fl.one) rfl) ?_)
  refine BW 10 rfl rfl (by kernel_rfl) (LH (Ka (Dv Xx (.c rfl (.c rfl .n)) (fun w hS => JL _ _ w)))) ?_
  refine An 11 rfl (by kernel_rfl) ?_
  refine FP Ing.Event.enc Ing.Event.fl rfl Tryz.underlying53 MN Hj rfl (by decide) (by decide) rfl rfl (fun b3 => ?_)
  refine Bm rfl ⟨?_, ?_⟩
  · exact (Pk (Pk (Pk (Pk (Pk (Pk (Po rfl (AF rfl DU .m3 Ad.l2 rfl rfl) rfl rfl (Po rfl (Ah CH rfl) rfl rfl (Po rfl (BS rfl) rfl rfl (Po rfl (AE rfl) rfl rfl (Po rfl (AE rfl) rfl rfl As)))))))))))
  refine An 12 rfl (by kernel_rfl) ?_
  refine CW Ing.Event.fl rfl Tryz.underlying53 MN Hj rfl Tp (by decide) (by decide) rfl rfl (fun w hS => Src.De Tryz.underlying53 ((Kn.own .m0) w hS)) (by (try dsimp only); omega) (fun _ => (.t (.t (.t (.t .h))))) (fun h1 h1l h1z => ?_)
  refine Bm rfl ⟨?_, ?_⟩
  · exact (Pk (Pk (Pk (Pk (Pk (Pk (Pk (Pk (Pk (Pk (Po rfl (AE rfl) rfl rfl As)))))))))))
  refine Pf 13 rfl (BS rfl) (Pf 14 rfl (Ah CH rfl) ?_)
  refine An 15 rfl (by kernel_rfl) ?_
  refine AQ (AK Ad.l2 rfl rfl rfl RS rfl (.t (.t (.t .h)))) ?_
  refine BK rfl ⟨?_, ?_⟩
  · exact (Pk (Pk (Pk (Pk (Pk (Pk (Pk (Pk (Pk (Pk (Pk (Pk (Pk As)))))))))))))
  refine A3 (by kernel_rfl) ?_
  refine Bh rfl .n ?_
  intro w1 hS
  have hS := (hS.perm (Av.perm (.c (.t (.t (.t .h))) (.c (.t (.t (.t .h))) .n)))).Ay
  refine ⟨_, ⟨?gqTrue, rfl, ?hlTrue, ?hBTrue⟩, hS⟩
  case hBTrue => rw [AG.Bl, show T.D8 e = _ from BC c1]; rfl
  case hlTrue => simp only [AG.CU]; (try dsimp only at *); omega
 have c1p := kz c1
 refine Aa ?_
 refine AB (.t2 0 3) ?_
 refine AA ?_
 refine BE (N := 16) [0, 0, 2, 6, 14, 0, 32, 96, 224, 0, 992, 2016, 4094, 8191, 16383, 32767] mix (by kernel_rfl) rfl ?_
 refine Pf 0 rfl (AE rfl) (Pf 1 rfl (AE rfl) (Pf 2 rfl (BS rfl) (Pf 3 rfl (Ah CH rfl) (Pf 4 rfl (AF rfl DU .m2 Ad.l2 rfl rfl) (Pf 5 rfl (AE rfl) (Pf 6 rfl (BS rfl) (Pf 7 rfl (Ah A6 rfl) ?_)))))))
 refine Pf 8 rfl (AZ rfl BT .m2 Ad.l0 rfl) (Pf 9 rfl (AZ rfl Na .m1 (AS.id Ing.Event.fl.len Ing.Event.fl.one) rfl) ?_)
 refine BW 10 rfl rfl (by kernel_rfl) (LH (Ka (Dv Xx (.c rfl (.c rfl .n)) (fun w hS => JL _ _ w)))) ?_
 refine An 11 rfl (by kernel_rfl) ?_
 refine FP Ing.Event.enc Ing.Event.fl rfl Tryz.underlying53 MN Hj rfl (by decide) (by decide) rfl rfl (fun b4 => ?_)
 refine Bm rfl ⟨?_, ?_⟩
 · exact (Pk (Pk (Pk (Pk (Pk (Pk (Po rfl (AF rfl DU .m3 Ad.l2 rfl rfl) rfl rfl (Po rfl (Ah CH rfl) rfl rfl (Po rfl (BS rfl) rfl rfl (Po rfl (AE rfl) rfl rfl (Po rfl (AE rfl) rfl rfl As)))))))))))
 refine An 12 rfl (by kernel_rfl) ?_
 refine CW Ing.Event.fl rfl Tryz.underlying53 MN Hj rfl Tp (by decide) (by decide) rfl rfl (fun w hS => Src.De Tryz.underlying53 ((Kn.own .m0) w hS)) (by (try dsimp only); omega) (fun _ => (.t (.t (.t (.t .h))))) (fun h2 h2l h2z => ?_)
 refine Bm rfl ⟨?_, ?_⟩
 · exact (Pk (Pk (Pk (Pk (Pk (Pk (Pk (Pk (Pk (Pk (Po rfl (AE rfl) rfl rfl As)))))))))))
 refine Pf 13 rfl (BS rfl) (Pf 14 rfl (Ah CH rfl) ?_)
 refine An 15 rfl (by kernel_rfl) ?_
 refine AQ (AK Ad.l2 rfl rfl rfl RS rfl (.t (.t (.t .h)))) ?_
 refine BK rfl ⟨?_, ?_⟩
 · exact (Pk (Pk (Pk (Pk (Pk (Pk (Pk (Pk (Pk (Pk (Pk (Pk (Pk As)))))))))))))
 refine A3 (by kernel_rfl) ?_
 refine Bh rfl .n ?_
 intro w1 hS
 have hS := (hS.perm (Av.perm (.c (.t (.t (.t .h))) (.c (.t (.t (.t .h))) .n)))).Ay
 refine ⟨_, ⟨?gqFalse, rfl, ?hlFalse, ?hBFalse⟩, hS⟩
 case hBFalse => rw [AG.Bl, show T.D8 e = _ from AV c1]; rfl
 case hlFalse => simp only [AG.CU]; (try dsimp only at *); omega
theorem F0 (b : Nat) (T : AG) (g : Hd) (k : Int) (hg : g.len = T.out.length) (hb : 0 ≤ T.b ∧ T.b < 6) (hn : T.out.length ≤ 100000) : Ic Tryz.prog 124 #[.pointer (some ⟨b, 0, none⟩), .int .i64 k] [Ab.box b 163 (Ad.enc ⟨T.w, T.b, g⟩), Ab.own g 56 16 (T.out.flatMap Ing.Event.enc)] (fun v B => ∃ g' : Hd, v = .tuple #[] ∧ g'.len = (T.kind k).out.length ∧ B = [Ab.box b 163 (Ad.enc ⟨(T.kind k).w, (T.kind k).b, g'⟩), Ab.own g' 56 16 ((T.kind k).out.flatMap Ing.Event.enc)]) := by
 intro w hS0
 refine Ai _ _ Tryz.func124 rfl rfl rfl (hS0) ?_
 refine AJ (Gm rfl (Gm rfl (Gt (BD NO Hj rfl (.cons Ing.Event.l0 rfl rfl rfl (.cons Ing.Event.l3 rfl rfl rfl .nil))) ?_)))
 refine Ag rfl Nr (.c rfl (.c rfl .n)) (.c .h (.c .h .n)) (CL _ _ _ (AG.GR k) hg hb (show (-1 : Int) < 6 by decide) hn) (fun v1 B hv => ?_)
 obtain ⟨y2, rfl, y3, rfl⟩ := hv
 refine AM ?_
 refine Bh rfl .n ?_
 intro w1 hS
 have hS := (hS.perm (Av.perm (.c .h (.c .h .n)))).Ay
 exact ⟨_, ⟨_, rfl, by assumption, rfl⟩, hS⟩
theorem Bb (b : Nat) (T : AG) (g : Hd) (u : Au) (hg : g.len = T.out.length) (hb : 0 ≤ T.b ∧ T.b < 6) (hn : T.out.length ≤ 100000) : Ic Tryz.prog 127 #[.pointer (some ⟨b, 0, none⟩), BO u] [Ab.box b 163 (Ad.enc ⟨T.w, T.b, g⟩), Ab.own g 56 16 (T.out.flatMap Ing.Event.enc)] (fun v B => ∃ g' : Hd, v = .tuple #[] ∧ g'.len = (T.tell u).out.length ∧ B = [Ab.box b 163 (Ad.enc ⟨(T.tell u).w, (T.tell u).b, g'⟩), Ab.own g' 56 16 ((T.tell u).out.flatMap Ing.Event.enc)]) := by
 intro w hS0
 refine Ai _ _ Tryz.func127 rfl rfl rfl (hS0) ?_
 refine AJ (Gm rfl (Gm rfl (Gt (BD NO Hj rfl (.cons Ing.Event.l0 rfl rfl rfl (.cons Ing.Event.l3 rfl rfl rfl (.cons Ing.Event.l9 rfl rfl rfl .nil)))) ?_)))
 refine Ag rfl Nr (.c rfl (.c rfl .n)) (.c .h (.c .h .n)) (CL _ _ _ { AG.GR 16 with text := u } hg hb (show (-1 : Int) < 6 by decide) hn) (fun v1 B hv => ?_)
 obtain ⟨y2, rfl, y3, rfl⟩ := hv
 refine AM ?_
 refine Bh rfl .n ?_
 intro w1 hS
 have hS := (hS.perm (Av.perm (.c .h (.c .h .n)))).Ay
 exact ⟨_, ⟨_, rfl, by assumption, rfl⟩, hS⟩
theorem HP (d : Int) (w : World) (gl0 : GV 0 AI.C2 w) : EG Tryz.prog 52 #[.int .i64 d] w fun v w' => v = BO (AI.called d) ∧ B6 w w' := by
 refine Ai [] [] Tryz.func52 rfl rfl rfl (St.start w []) ?_
 refine Gs (Ga rfl (Gn (.t1 0) (CB (Gm rfl (Gt (A5 rfl rfl) (Gm rfl (BZ 5 rfl rfl (fun q => AE rfl) ?_)))))))
 refine BZ 5 rfl rfl (fun q => CI (cF rfl q) rfl) ?_
 refine Gt (BR rfl rfl (fun h => by rw [h]; rfl)) ?_
 refine Gn (.t2 0 8) ?_
 refine Gc (fun c1 => ?_) (fun c1 => ?_)
 ·
  refine Gs (Ga rfl (Gn (.t1 2) (Ac (AD ?_))))
  refine AY rfl (.tmp rfl .n) ?_
  intro w1 hS; refine ⟨?_, hS.Am⟩; rw [show AI.called d = _ from BC c1]; rfl
 have c1p := kz c1
 have hr : 0 ≤ d ∧ d < 6 := by simp at c1; omega
 refine Aa ?_
 refine AB (.t1 0) ?_
 refine AA (Gs (Gm rfl ?_))
 refine Gt (AR Wa rfl rfl (by omega) (by omega)) ?_
 refine Gt (Pb gl0 rfl CC (AI.NF hr.1 hr.2)) (Ga rfl (Gn (.t1 2) (Ac ?_)))
 refine AY rfl (.tmp rfl .n) ?_
 intro w1 hS; refine ⟨?_, hS.Am⟩; rw [show AI.called d = _ from AV c1]; rfl
theorem Ey (X : AI) (Cr at_ : Int) : Ic Tryz.prog 102 #[.agg X.enc.toArray, .int .i64 Cr, .int .i64 at_] [] (fun v B => ∃ h' : Hd, v = h'.val ∧ h'.len = (X.has Cr at_).length ∧ B = [Ab.own h' 3 1 ((X.has Cr at_).flatMap Ax)]) := by
 intro w hS0
 refine Ai _ _ Tryz.func102 rfl rfl rfl (hS0) ?_
 refine Gs ?_
 refine Bw rfl rfl rfl (fun b1 => ?_)
 refine Ga rfl (Gn (.t3 1 2 3) (Gs (Ga rfl (AM (AA (CB (Gt (Ah Cq rfl) ?_)))))))
 refine Gt (AZ rfl TX .m0 AI.l1 rfl) (Gm rfl (Gn (.t5 1 2 7 11 12) (Ae ?_)))
 refine Bf (.t5 7 12 1 2 11) ?_
 refine Et Ax 3 1 ?_
 refine Dh (fun (k : Int) (xs : List Int) (g : Hd) => 0 ≤ k ∧ k ≤ 9 ∧ xs = X.OY Cr at_ k.toNat ∧ g.len = xs.length) (fun (k : Int) (xs : List Int) (g : Hd) => (9 - k).toNat) (fun (k : Int) (xs : List Int) (g : Hd) => [(7, g.val), (12, .int .i64 k)]) (fun (k : Int) (xs : List Int) (g : Hd) => [Ab.own g 3 1 (xs.flatMap Ax)]) (0) ([]) (_) ?_ rfl rfl (fun k xs g hI1 => ?_)
 · exact ⟨by omega, by omega, rfl, rfl⟩
 obtain ⟨hI11, hI12, hI13, hI14⟩ := hI1
 refine Gs (Gt (A5 rfl rfl) (AM (AA (Ao ?_))))
 refine Gc (fun c1 => ?_) (fun c1 => ?_)
 ·
  have c1p := kz c1
  have hxl := AI.QY X Cr at_ k.toNat
  rw [← hI13] at hxl
  refine Aa ?_
  refine AB (.t5 1 2 7 11 12) ?_
  refine AA (Ao (Ae (Gs (Gm rfl ?_))))
  refine Gt (Fm Ak.fl Tryz.underlying30 LO rfl rfl (by omega) (by omega)) ?_
  refine BB rfl Js rfl (fun b2 => ?_)
  refine Ga rfl ?_
  refine AQ (AK (AS.id Ak.fl.len Ak.fl.one) rfl rfl rfl MQ rfl .h) ?_
  refine Gn (.t7 1 2 7 8 9 11 12) (Gs (Gt (Ah E6 rfl) (Gt (AF rfl A1 .m0 Ak.l2 rfl rfl) (Gm rfl (Gt (Aj rfl rfl) (Gm rfl (Ba 20 rfl rfl (fun q => Ah DA rfl) ?_)))))))
  refine Ba 20 rfl rfl (fun q => AF (BX rfl q) A1 .m0 Ak.l3 rfl rfl) (Ba 20 rfl rfl (fun q => AE rfl) (Ba 20 rfl rfl (fun q => Aj (BX rfl q) (BX rfl q)) (Gt (BH rfl rfl (fun h => h)) (Gn (.t7 1 2 7 8 11 12 25) ?_))))
  refine Gc (fun c2 => ?_) (fun c2 => ?_)
  ·
   have c2p := kz c2
   refine AJ (Gm rfl (Gm rfl ?_))
   refine FP Ax Bz rfl Tryz.underlying169 C5 ZI rfl (by decide) (by decide) rfl rfl (fun b3 => ?_)
   refine CW Bz rfl Tryz.underlying169 C5 ZI rfl aq (by decide) (by decide) rfl rfl (fun w hS => Src.De Tryz.underlying169 ((Kn.own .m0) w hS)) (by (try dsimp only); omega) (fun _ => (.t (.t .h))) (fun h1 h1l h1z => ?_)
   refine Ga rfl ?_
   refine AM (AB (.t5 1 2 7 11 12) ?_)
   refine AU (AA (AJ ?_))
   refine Gt (Aw rfl rfl (IntWalk.i64_in _ (by omega))) ?_
   refine Gm rfl ?_
   refine AM (AB (.t5 1 2 7 11 12) ?_)
   refine Bu (k + 1) _ _ ?_ ?_ (.t5 7 12 1 2 11) (.cons _ (.cons _ (.refl _)))
   · exact ⟨by omega, by omega, by rw [AI.Yv hI11 c2, ← hI13], (by (try dsimp only at *) <;> (try simp only [List.length_append, List.length_cons, List.length_nil]) <;> omega)⟩
   · omega
  have c2p := kz c2
  refine Aa ?_
  refine AB (.t5 1 2 7 11 12) ?_
  refine AU (AA (AJ ?_))
  refine Gt (Aw rfl rfl (IntWalk.i64_in _ (by omega))) ?_
  refine Gm rfl ?_
  refine AM (AB (.t5 1 2 7 11 12) ?_)
  refine Bu (k + 1) _ _ ?_ ?_ (.t5 7 12 1 2 11) (.cons _ (.refl _))
  · exact ⟨by omega, by omega, by rw [AI.Yb hI11 c2, ← hI13], (by (try dsimp only at *) <;> (try simp only [List.length_append, List.length_cons, List.length_nil]) <;> omega)⟩
  · omega
 have c1p := kz c1
 obtain rfl : k = 9 := by omega
 refine BV (AT (AT (Af ?_)))
 refine AB (.t1 7) ?_
 refine AA (Gs (Gm rfl (Ga rfl (Gn (.t1 6) (Ac ?_)))))
 refine AY rfl (.tmp rfl .n) ?_
 intro w1 hS
 have hS := (hS.perm (Av.perm (.c .h .n))).Ay
 exact ⟨_, ⟨_, rfl, by rw [AI.SE, ← hI13]; assumption, by rw [AI.SE, ← hI13]⟩, hS⟩
theorem Kp (b : Nat) (T : AG) (g : Hd) (u : Au) (f : Hd) (l : List Int) (hg : g.len = T.out.length) (hb : 0 ≤ T.b ∧ T.b < 6) (hf : f.len = l.length) (hl : l.length ≤ 9) (hi : ∀ i ∈ l, 0 ≤ i ∧ i < 9) (hw : T.w.D4) (hu : u.length ≤ 1000) (hn : T.out.length ≤ 100000) : Ic Tryz.prog 101 #[.pointer (some ⟨b, 0, none⟩), BO u, f.val] [Ab.box b 163 (Ad.enc ⟨T.w, T.b, g⟩), Ab.own g 56 16 (T.out.flatMap Ing.Event.enc), Ab.own f 3 1 (l.flatMap Ax)] (fun v B => ∃ g' : Hd, v = .tuple #[] ∧ g'.len = (T.list u l).out.length ∧ B = [Ab.box b 163 (Ad.enc ⟨(T.list u l).w, (T.list u l).b, g'⟩), Ab.own g' 56 16 ((T.list u l).out.flatMap Ing.Event.enc), Ab.own f 3 1 (l.flatMap Ax)]) := by
 intro w hS0
 refine Ai _ _ Tryz.func101 rfl rfl rfl (hS0) ?_
 refine CB (Gm rfl (Gt (Aq rfl Tryz.underlying169 rfl) (Gm rfl (AM (AA (Ae ?_))))))
 refine Bf (.t6 1 10 0 2 8 9) ?_
 refine ET (fun (k : Int) (x : Au) => 0 ≤ k ∧ k ≤ (l.length : Int) ∧ AG.HY T.w u l = AG.HY T.w x (l.drop k.toNat) ∧ x.length ≤ 1000 + k.toNat * 140737488351300) (fun (k : Int) (x : Au) => ((l.length : Int) - k).toNat) (fun (k : Int) (x : Au) => [(1, BO x), (10, .int .i64 k)]) (fun (k : Int) (x : Au) => []) (0) (u) ?_ rfl rfl (fun k x hI1 => ?_)
 · exact ⟨by omega, by omega, by simp, by simp; omega⟩
 obtain ⟨hI11, hI12, hI13, hI14⟩ := hI1
 refine Gs (Gt (A5 rfl rfl) (AM (AA (Ao ?_))))
 refine Gc (fun c1 => ?_) (fun c1 => ?_)
 ·
  have c1p := kz c1
  have hx := hi _ (Bc.Ef (xs := l) (i := k.toNat) (by omega))
  have hnl := hw.th (l.getD k.toNat 0)
  refine Aa ?_
  refine AB (.t6 0 1 2 8 9 10) ?_
  refine AA (Ao (Ae (Gs ?_)))
  refine Gt (Bg GC (by decide) (Kn.own .m2) rfl rfl (by omega) (by omega)) ?_
  refine Gt (C8 rfl A1 (Kn.own .m2) (by omega)) ?_
  refine Ga rfl (Gn (.t7 0 1 2 7 8 9 10) (Gs (Gm rfl (Gm rfl (Gm rfl (Gt (BS rfl) (Gt (Ah A6 rfl) ?_)))))))
  refine Gt (Ah Cq rfl) ?_
  refine Gt (AR Fo rfl rfl (by (try dsimp only at *); (try simp only [List.length_append, List.length_cons, List.length_nil]); omega) (by (try dsimp only at *); (try simp only [List.length_append, List.length_cons, List.length_nil]); omega)) ?_
  refine Gt (Ah LW rfl) ?_
  refine Gt (AF rfl CC .m0 (((Ad.l0.comp AI.l1).comp (AS.arr (n := 9) Ak.fl (by (try dsimp only at *); (try simp only [List.length_append, List.length_cons, List.length_nil]); omega) (by (try dsimp only at *); (try simp only [List.length_append, List.length_cons, List.length_nil]); omega))).comp Ak.l0) rfl rfl) ?_
  refine Gt (CQ rfl rfl (by (try dsimp only at *); (try simp only [List.length_append, List.length_cons, List.length_nil]); omega)) ?_
  refine Gt (CQ rfl rfl (by (try dsimp only at *); (try simp only [List.length_append, List.length_cons, List.length_nil]); omega)) ?_
  refine Ga rfl (Gn (.t7 0 1 2 7 8 9 10) (Gs (Gm rfl (Gm rfl (Gt (BS rfl) (Gt (Ah A6 rfl) (Gt (Ah Cq rfl) ?_)))))))
  refine Gt (AR Fo rfl rfl (by (try dsimp only at *); (try simp only [List.length_append, List.length_cons, List.length_nil]); omega) (by (try dsimp only at *); (try simp only [List.length_append, List.length_cons, List.length_nil]); omega)) ?_
  refine Gt (Ah Fk rfl) ?_
  refine Gt (AF rfl Ct .m0 (((Ad.l0.comp AI.l1).comp (AS.arr (n := 9) Ak.fl (by (try dsimp only at *); (try simp only [List.length_append, List.length_cons, List.length_nil]); omega) (by (try dsimp only at *); (try simp only [List.length_append, List.length_cons, List.length_nil]); omega))).comp Ak.l4) rfl rfl) ?_
  refine Gn (.t7 0 1 2 8 9 10 32) ?_
  refine Gc (fun c2 => ?_) (fun c2 => ?_)
  ·
   have c2p := kz c2
   refine AJ (Gm rfl ?_)
   refine Gt (CQ rfl rfl (by (try dsimp only at *); (try simp only [List.length_append, List.length_cons, List.length_nil]); omega)) ?_
   refine Ga rfl ?_
   refine AM (AB (.t6 0 1 2 8 9 10) ?_)
   refine AU (AA (AJ ?_))
   refine Gt (Aw rfl rfl (IntWalk.i64_in _ (by (try dsimp only at *); (try simp only [List.length_append, List.length_cons, List.length_nil]); omega))) ?_
   refine Gm rfl ?_
   refine AM (AB (.t6 0 1 2 8 9 10) ?_)
   refine Cn (k + 1) _ ?_ ?_ (.t6 1 10 0 2 8 9) (.refl _)
   · exact ⟨by omega, by omega, by rw [hI13, AG.W8 hI11 (by omega) c2], by simp only [List.length_append, List.length_cons, List.length_nil]; omega⟩
   · omega
  have c2p := kz c2
  refine Aa ?_
  refine AB (.t6 0 1 2 8 9 10) ?_
  refine AU (AA (AJ ?_))
  refine Gt (Aw rfl rfl (IntWalk.i64_in _ (by (try dsimp only at *); (try simp only [List.length_append, List.length_cons, List.length_nil]); omega))) ?_
  refine Gm rfl ?_
  refine AM (AB (.t6 0 1 2 8 9 10) ?_)
  refine Cn (k + 1) _ ?_ ?_ (.t6 1 10 0 2 8 9) (.refl _)
  · exact ⟨by omega, by omega, by rw [hI13, AG.XO hI11 (by omega) c2], by simp only [List.length_append, List.length_cons, List.length_nil]; omega⟩
  · omega
 have c1p := kz c1
 obtain rfl : k = (l.length : Int) := by omega
 rw [show (l.length : Int).toNat = l.length by omega, List.drop_length] at hI13
 refine BV (AT (AT (Af ?_)))
 refine AB (.t3 0 1 2) ?_
 refine AA (CB (Gm rfl (Gt (Aq rfl Tryz.underlying169 rfl) (Gt (Aj rfl rfl) (Gn (.t3 0 1 38) ?_)))))
 refine Gc (fun c3 => ?_) (fun c3 => ?_)
 ·
  have c3p := kz c3
  rw [hf] at c3
  refine AJ (Gm rfl ?_)
  refine Gt (CQ rfl rfl (by (try dsimp only at *); (try simp only [List.length_append, List.length_cons, List.length_nil]); omega)) ?_
  refine Ga rfl (Gn (.t2 0 1) (AJ (Gm rfl (Gm rfl ?_))))
  refine Gt (CQ rfl rfl (by (try dsimp only at *); (try simp only [List.length_append, List.length_cons, List.length_nil]); omega)) ?_
  refine Ag rfl D3 (.c rfl (.c rfl .n)) (.c .h (.c .h .n)) (Bb _ _ _ _ hg hb hn) (fun v1 B hv => ?_)
  obtain ⟨y2, rfl, y3, rfl⟩ := hv
  refine AM ?_
  refine Bh rfl .n ?_
  intro w1 hS
  have hS := (hS.perm (Av.perm (.c .h (.c .h (.c .h .n))))).Ay
  refine ⟨_, ⟨?gqTrue, rfl, ?hlTrue, ?hBTrue⟩, hS⟩
  case hBTrue => rw [AG.list, show AG.RV T.w u l = _ from BC c3, hI13]; rfl
  case hlTrue => (try simp only [AG.CD] at *); rw [(AG.IP T u l).2.2]; assumption
 have c3p := kz c3
 rw [hf] at c3
 refine Aa ?_
 refine AB (.t2 0 1) ?_
 refine AA (AJ (Gm rfl (Gm rfl ?_)))
 refine Gt (CQ rfl rfl (by (try dsimp only at *); (try simp only [List.length_append, List.length_cons, List.length_nil]); omega)) ?_
 refine Ag rfl D3 (.c rfl (.c rfl .n)) (.c .h (.c .h .n)) (Bb _ _ _ _ hg hb hn) (fun v4 B hv => ?_)
 obtain ⟨y5, rfl, y6, rfl⟩ := hv
 refine AM ?_
 refine Bh rfl .n ?_
 intro w1 hS
 have hS := (hS.perm (Av.perm (.c .h (.c .h (.c .h .n))))).Ay
 refine ⟨_, ⟨?gqFalse, rfl, ?hlFalse, ?hBFalse⟩, hS⟩
 case hBFalse => rw [AG.list, show AG.RV T.w u l = _ from AV c3, hI13]; rfl
 case hlFalse => (try simp only [AG.CD] at *); rw [(AG.IP T u l).2.2]; assumption
end Go.Proofs.YtoidpggbbfncpaaGreatDoor
