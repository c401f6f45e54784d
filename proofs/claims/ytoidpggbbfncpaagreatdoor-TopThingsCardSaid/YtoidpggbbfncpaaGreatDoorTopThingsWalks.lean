/- What the functions that the law TopThings reaches compute: walks, part 1. No condition. -/
import Derived.Test.YtoidpggbbfncpaaGreatDoorCards
import Derived.Test.YtoidpggbbfncpaaGreatDoorTie
import Derived.Deep.DeepHandedRow
import Derived.Test.YtoidpggbbfncpaaGreatDoorRows
import Derived.Test.YtoidpggbbfncpaaGreatDoorTopThingsEc3
import Derived.Test.YtoidpggbbfncpaaGreatDoorTopThingsRa1
import Derived.Test.YtoidpggbbfncpaaGreatDoorTopThingsRb1
import Derived.Test.YtoidpggbbfncpaaGreatDoorTopThingsRc1
set_option linter.unusedSimpArgs false
set_option linter.unusedVariables false
set_option maxRecDepth 100000
set_option maxHeartbeats 1000000
namespace Go.Proofs.YtoidpggbbfncpaaGreatDoor
open Go Go.Ing Go.RowKit Go.ChangeShapes Go.WideShapes Go.ChangeAt
theorem K1 : ZV Tryz.prog 35 (.agg (AG.enc (default : AG)).toArray) := E4 (by kernel_rfl)
theorem C9 : Sz Tryz.prog 3 1 := Dr (by kernel_rfl)
theorem Vm : ZV Tryz.prog 23 (.agg (CE (n := 6) Av (Vector.replicate 6 default)).toArray) := E4 (by kernel_rfl)
theorem KX : Sz Tryz.prog 4 1 := Dr (by kernel_rfl)
theorem bK : ZV Tryz.prog 24 (.agg (CE (n := 6) CW (Vector.replicate 6 default)).toArray) := E4 (by kernel_rfl)
theorem Ey : Sz Tryz.prog 9 1 := Dr (by kernel_rfl)
theorem Xf : Sz Tryz.prog 23 6 := Dr (by kernel_rfl)
theorem av : Sz Tryz.prog 24 6 := Dr (by kernel_rfl)
theorem Vq : HO Tryz.prog 26 [(0, 1), (1, 1), (2, 6), (8, 6)] := ⟨_, Tryz.underlying26, fun w => by simp [Ey w, KX w, Xf w, av w]⟩
theorem Nc : ZV Tryz.prog 26 (.agg (Room.enc (default : Room)).toArray) := E4 (by kernel_rfl)
theorem QW : Sz Tryz.prog 26 14 := Dr (by kernel_rfl)
theorem dQ : IS Tryz.prog 95 14 := O4 Tryz.underlying95 QW
theorem N5 : Ng Tryz.prog 26 14 := E1 Tryz.underlying26 rfl QW
theorem bP : Sz Tryz.prog 27 84 := Dr (by kernel_rfl)
theorem Gz : FA Tryz.prog 35 0 0 := Bt Tryz.underlying35 rfl bP
theorem N9 : IA Tryz.prog 27 6 14 := Mk Tryz.underlying27 QW
theorem Ql : HO Tryz.prog 29 [(0, 1), (1, 1), (2, 1), (3, 1), (4, 1)] := ⟨_, Tryz.underlying29, fun w => by simp [Ey w, C9 w, KX w]⟩
theorem KO : ZV Tryz.prog 29 (.agg (Ag.enc (default : Ag)).toArray) := E4 (by kernel_rfl)
theorem Mr : Sz Tryz.prog 29 5 := Dr (by kernel_rfl)
theorem dA : IS Tryz.prog 96 5 := O4 Tryz.underlying96 Mr
theorem Mo : Ng Tryz.prog 29 5 := E1 Tryz.underlying29 rfl Mr
theorem bH : Sz Tryz.prog 30 45 := Dr (by kernel_rfl)
theorem Ce : FA Tryz.prog 35 1 84 := Bt Tryz.underlying35 rfl bH
theorem FM : IA Tryz.prog 30 9 5 := Mk Tryz.underlying30 Mr
theorem Xp : HO Tryz.prog 32 [(0, 1), (1, 1), (2, 1), (3, 1), (4, 1), (5, 1)] := ⟨_, Tryz.underlying32, fun w => by simp [Ey w, KX w, C9 w]⟩
theorem LZ : ZV Tryz.prog 32 (.agg (Ak.enc (default : Ak)).toArray) := E4 (by kernel_rfl)
theorem bl : Sz Tryz.prog 33 36 := Dr (by kernel_rfl)
theorem Bn : FA Tryz.prog 35 2 129 := Bt Tryz.underlying35 rfl bl
theorem KR : Sz Tryz.prog 32 6 := Dr (by kernel_rfl)
theorem C4 : IA Tryz.prog 33 6 6 := Mk Tryz.underlying33 KR
theorem Dm : Sz Tryz.prog 35 165 := Dr (by kernel_rfl)
theorem BU : Ng Tryz.prog 35 165 := E1 Tryz.underlying35 rfl Dm
theorem D2 : FA Tryz.prog 101 0 0 := Bt Tryz.underlying101 rfl Dm
theorem FL : FA Tryz.prog 29 2 2 := Bt Tryz.underlying29 rfl C9
theorem A4 : RL Tryz.prog 3 := I9 Tryz.underlying3 rfl
theorem DF : FA Tryz.prog 29 3 3 := Bt Tryz.underlying29 rfl C9
theorem Cy : FA Tryz.prog 32 3 3 := Bt Tryz.underlying32 rfl C9
theorem F8 : FA Tryz.prog 29 4 4 := Bt Tryz.underlying29 rfl KX
theorem Dh : RL Tryz.prog 4 := I9 Tryz.underlying4 rfl
theorem ch : CF Tryz.prog 18 := Tryz.call18
theorem mix : Tryz.prog.follows .mixedOrders = true := by kernel_rfl
theorem JP : FA Tryz.prog 29 0 0 := Bt Tryz.underlying29 rfl Ey
theorem CO : RL Tryz.prog 9 := I9 Tryz.underlying9 rfl
theorem Fb : FA Tryz.prog 29 1 1 := Bt Tryz.underlying29 rfl C9
theorem bS : CF Tryz.prog 19 := Tryz.call19
theorem cC : CF Tryz.prog 15 := Tryz.call15
theorem bx : Sz Tryz.prog 99 88 := Dr (by kernel_rfl)
theorem R5 : Sz Tryz.prog 53 1 := Dr (by kernel_rfl)
theorem bI : HO Tryz.prog 101 [(0, 165), (165, 88), (253, 1), (254, 1)] := ⟨_, Tryz.underlying101, fun w => by simp [Dm w, bx w, C9 w, R5 w]⟩
theorem bE : ZV Tryz.prog 101 (.agg (AO.enc (default : AO)).toArray) := E4 (by kernel_rfl)
theorem TF : ZV Tryz.prog 9 (BT []) := E4 (by kernel_rfl)
theorem X1 : BY Tryz.prog 9 16 := UC (by kernel_rfl)
theorem bL : ZV Tryz.prog 75 (.agg (BN.enc ⟨[], false, false, ⟨none, 0, 0⟩⟩).toArray) := E4 (by kernel_rfl)
theorem No : Sz Tryz.prog 52 1 := Dr (by kernel_rfl)
theorem F7 : FA Tryz.prog 75 3 3 := Bt Tryz.underlying75 rfl No
theorem Fz : RL Tryz.prog 52 := I9 Tryz.underlying52 rfl
theorem OE : Sz Tryz.prog 75 4 := Dr (by kernel_rfl)
theorem Jx : Ng Tryz.prog 75 4 := E1 Tryz.underlying75 rfl OE
theorem JH : IS Tryz.prog 52 1 := O4 Tryz.underlying52 Ey
theorem Vd : CF Tryz.prog 69 := Tryz.call69
theorem W5 : ZV Tryz.prog 65 (.agg (Aw.enc ⟨⟨none, 0, 0⟩, 0, false, [], false⟩).toArray) := E4 (by kernel_rfl)
theorem QY : FA Tryz.prog 65 2 2 := Bt Tryz.underlying65 rfl KX
theorem MB : FA Tryz.prog 65 1 1 := Bt Tryz.underlying65 rfl C9
theorem Fc : Sz Tryz.prog 65 5 := Dr (by kernel_rfl)
theorem Cw : Ng Tryz.prog 65 5 := E1 Tryz.underlying65 rfl Fc
theorem bb : CF Tryz.prog 116 := Tryz.call116
theorem Y9 : CF Tryz.prog 115 := Tryz.call115
theorem H5 : FA Tryz.prog 32 1 1 := Bt Tryz.underlying32 rfl KX
theorem bc : Ng Tryz.prog 27 84 := E1 Tryz.underlying27 rfl bP
theorem L9 : FA Tryz.prog 26 2 2 := Bt Tryz.underlying26 rfl Xf
theorem ZA : Ng Tryz.prog 23 6 := E1 Tryz.underlying23 rfl Xf
theorem MV : FA Tryz.prog 26 3 8 := Bt Tryz.underlying26 rfl av
theorem Vy : IA Tryz.prog 24 6 1 := Mk Tryz.underlying24 KX
theorem Yq : Ng Tryz.prog 33 36 := E1 Tryz.underlying33 rfl bl
theorem Fi : Ng Tryz.prog 32 6 := E1 Tryz.underlying32 rfl KR
theorem Jm : FA Tryz.prog 32 4 4 := Bt Tryz.underlying32 rfl C9
theorem GD : FA Tryz.prog 32 5 5 := Bt Tryz.underlying32 rfl C9
theorem cr : CF Tryz.prog 68 := Tryz.call68
theorem ZU : FA Tryz.prog 26 1 1 := Bt Tryz.underlying26 rfl KX
theorem We : Ng Tryz.prog 30 45 := E1 Tryz.underlying30 rfl bH
theorem XQ : CF Tryz.prog 159 := Tryz.call159
theorem UY : CF Tryz.prog 129 := Tryz.call129
theorem WO : FA Tryz.prog 32 2 2 := Bt Tryz.underlying32 rfl KX
theorem Y6 : CF Tryz.prog 160 := Tryz.call160
theorem Qx : FA Tryz.prog 56 2 2 := Bt Tryz.underlying56 rfl C9
theorem Gu : FA Tryz.prog 56 3 3 := Bt Tryz.underlying56 rfl C9
theorem NZ : CF Tryz.prog 130 := Tryz.call130
theorem Sv : FA Tryz.prog 56 0 0 := Bt Tryz.underlying56 rfl C9
theorem W0 : FA Tryz.prog 56 1 1 := Bt Tryz.underlying56 rfl C9
theorem aJ : CF Tryz.prog 173 := Tryz.call173
theorem Ib : ZV Tryz.prog 56 (.agg (Ing.Event.enc (default : Ing.Event)).toArray) := E4 (by kernel_rfl)
theorem N8 : Sz Tryz.prog 56 16 := Dr (by kernel_rfl)
theorem NR : Ng Tryz.prog 56 16 := E1 Tryz.underlying56 rfl N8
theorem bm : CF Tryz.prog 157 := Tryz.call157
theorem NB : FA Tryz.prog 56 10 10 := Bt Tryz.underlying56 rfl Xf
theorem SX : IA Tryz.prog 23 6 1 := Mk Tryz.underlying23 C9
theorem CN : FA Tryz.prog 163 1 165 := Bt Tryz.underlying163 rfl C9
theorem A8 : FA Tryz.prog 163 0 0 := Bt Tryz.underlying163 rfl Dm
theorem LB : FA Tryz.prog 32 0 0 := Bt Tryz.underlying32 rfl Ey
theorem XM : FA Tryz.prog 56 6 6 := Bt Tryz.underlying56 rfl Ey
theorem XK : FA Tryz.prog 56 7 7 := Bt Tryz.underlying56 rfl Ey
theorem CG : FA Tryz.prog 163 2 166 := Bt Tryz.underlying163 rfl R5
theorem Dg : RL Tryz.prog 53 := I9 Tryz.underlying53 rfl
theorem ZC : CF Tryz.prog 123 := Tryz.call123
theorem Wf : BY Tryz.prog 56 160 := UC (by kernel_rfl)
theorem Nf : HO Tryz.prog 56 [(0, 1), (1, 1), (2, 1), (3, 1), (4, 1), (5, 1), (6, 1), (7, 1), (8, 1), (9, 1), (10, 6)] := ⟨_, Tryz.underlying56, fun w => by simp [C9 w, Ey w, Xf w]⟩
theorem OZ : CF Tryz.prog 96 := Tryz.call96
theorem Wi : IA Tryz.prog 133 21 1 := Mk Tryz.underlying133 Ey
theorem aA : ZV Tryz.prog 3 (.int .i64 0) := E4 (by kernel_rfl)
theorem cK : BY Tryz.prog 3 8 := UC (by kernel_rfl)
theorem GU : IS Tryz.prog 169 1 := O4 Tryz.underlying169 C9
theorem D9 : CF Tryz.prog 127 := Tryz.call127
theorem Zc : FA Tryz.prog 26 0 0 := Bt Tryz.underlying26 rfl Ey
theorem bC : CF Tryz.prog 52 := Tryz.call52
theorem Sa : CF Tryz.prog 102 := Tryz.call102
theorem Yx : CF Tryz.prog 101 := Tryz.call101
theorem Zb : CF Tryz.prog 43 := Tryz.call43
theorem ck : CF Tryz.prog 46 := Tryz.call46
theorem US : HO Tryz.prog 163 [(0, 165), (165, 1), (166, 1)] := ⟨_, Tryz.underlying163, fun w => by simp [Dm w, C9 w, R5 w]⟩
theorem UD : ZV Tryz.prog 163 (.agg (Ac.enc (default : Ac)).toArray) := E4 (by kernel_rfl)
theorem Uo : CF Tryz.prog 124 := Tryz.call124
theorem UE : CF Tryz.prog 100 := Tryz.call100
theorem Y8 : Sz Tryz.prog 104 1 := Dr (by kernel_rfl)
theorem Qs : FA Tryz.prog 107 0 0 := Bt Tryz.underlying107 rfl Y8
theorem Ws : RL Tryz.prog 104 := I9 Tryz.underlying104 rfl
theorem TJ : ∃ i, Tryz.prog.info? 107 = some i ∧ i.size ≠ 0 := by
  have h : (Tryz.prog.info? 107).map (·.size) = some 2 := by kernel_rfl
  obtain ⟨i, h1, h2⟩ := Option.map_eq_some_iff.1 h
  exact ⟨i, h1, by omega⟩
theorem ZW : CF Tryz.prog 71 := Tryz.call71
theorem UJ : Sz Tryz.prog 105 1 := Dr (by kernel_rfl)
theorem Eo : FA Tryz.prog 107 1 1 := Bt Tryz.underlying107 rfl UJ
theorem H8 : RL Tryz.prog 105 := I9 Tryz.underlying105 rfl
theorem Vk : Sz Tryz.prog 5 1 := Dr (by kernel_rfl)
theorem ZN : ZV Tryz.prog 5 (.int .u8 0) := E4 (by kernel_rfl)
theorem dF : BY Tryz.prog 5 1 := UC (by kernel_rfl)
theorem dn : Tryz.prog.cellsOf 5 = 1 := by kernel_rfl
theorem cM : CF Tryz.prog 49 := Tryz.call49
theorem Uj : ZV Tryz.prog 107 (.agg (DQ.enc ⟨none, ⟨none, 0, 0⟩⟩).toArray) := E4 (by kernel_rfl)
theorem YX : CF Tryz.prog 50 := Tryz.call50
theorem PD : CF Tryz.prog 51 := Tryz.call51
theorem Zm : FA Tryz.prog 56 8 8 := Bt Tryz.underlying56 rfl Ey
theorem Z5 : FA Tryz.prog 56 4 4 := Bt Tryz.underlying56 rfl C9
theorem Zw : FA Tryz.prog 56 9 9 := Bt Tryz.underlying56 rfl Ey
theorem Zz : FA Tryz.prog 56 5 5 := Bt Tryz.underlying56 rfl C9
theorem cX : CF Tryz.prog 53 := Tryz.call53
theorem X4 : CF Tryz.prog 54 := Tryz.call54
theorem Jl : FA Tryz.prog 65 0 0 := Bt Tryz.underlying65 rfl No
theorem Jj : FA Tryz.prog 65 3 3 := Bt Tryz.underlying65 rfl Ey
theorem Zl : CF Tryz.prog 44 := Tryz.call44
theorem LC : FA Tryz.prog 65 4 4 := Bt Tryz.underlying65 rfl KX
theorem Dw : FA Tryz.prog 98 4 16 := Bt Tryz.underlying98 rfl Fc
theorem cx : CF Tryz.prog 82 := Tryz.call82
theorem Qn : FA Tryz.prog 98 5 21 := Bt Tryz.underlying98 rfl No
theorem Q5 : FA Tryz.prog 101 3 254 := Bt Tryz.underlying101 rfl R5
theorem dM : IS Tryz.prog 53 16 := O4 Tryz.underlying53 N8
theorem G2 : FA Tryz.prog 101 1 165 := Bt Tryz.underlying101 rfl bx
theorem Tl : Sz Tryz.prog 98 22 := Dr (by kernel_rfl)
theorem RG : IA Tryz.prog 99 4 22 := Mk Tryz.underlying99 Tl
theorem I0 : FA Tryz.prog 98 0 0 := Bt Tryz.underlying98 rfl C9
theorem H7 : FA Tryz.prog 98 1 1 := Bt Tryz.underlying98 rfl C9
theorem cf : CF Tryz.prog 23 := Tryz.call23
theorem TL : CF Tryz.prog 64 := Tryz.call64
theorem aF : CF Tryz.prog 114 := Tryz.call114
theorem Ut : CF Tryz.prog 79 := Tryz.call79
theorem L0 : ZV Tryz.prog 151 (.agg (Order.enc (default : Order)).toArray) := E4 (by kernel_rfl)
theorem Rr : HO Tryz.prog 151 [(0, 1), (1, 1), (2, 1), (3, 1), (4, 1), (5, 1)] := ⟨_, Tryz.underlying151, fun w => by simp [C9 w, KX w, Ey w]⟩
theorem Dz : Sz Tryz.prog 151 6 := Dr (by kernel_rfl)
theorem B6 : Ng Tryz.prog 151 6 := E1 Tryz.underlying151 rfl Dz
theorem dJ : CF Tryz.prog 87 := Tryz.call87
theorem aw : CF Tryz.prog 76 := Tryz.call76
theorem Yo : CF Tryz.prog 174 := Tryz.call174
theorem WA : CF Tryz.prog 176 := Tryz.call176
theorem bt : CF Tryz.prog 179 := Tryz.call179
theorem Wx : IS Tryz.prog 105 1 := O4 Tryz.underlying105 Vk
theorem aS : RL Tryz.prog 5 := I9 Tryz.underlying5 rfl
theorem aX : CF Tryz.prog 167 := Tryz.call167
theorem bX : CF Tryz.prog 168 := Tryz.call168
theorem Y1 : CF Tryz.prog 180 := Tryz.call180
theorem aD : Sz Tryz.prog 133 21 := Dr (by kernel_rfl)
theorem ZI : Ng Tryz.prog 133 21 := E1 Tryz.underlying133 rfl aD
theorem aG : CF Tryz.prog 169 := Tryz.call169
theorem cg : CF Tryz.prog 59 := Tryz.call59
theorem bp : CF Tryz.prog 181 := Tryz.call181
theorem bw : CF Tryz.prog 170 := Tryz.call170
theorem Y0 : CF Tryz.prog 171 := Tryz.call171
theorem bO : CF Tryz.prog 30 := Tryz.call30
theorem bg : CF Tryz.prog 172 := Tryz.call172
theorem bY : CF Tryz.prog 151 := Tryz.call151
theorem IL : CF Tryz.prog 150 := Tryz.call150
theorem Yu : CF Tryz.prog 152 := Tryz.call152
theorem aL : CF Tryz.prog 153 := Tryz.call153
theorem aH : CF Tryz.prog 94 := Tryz.call94
theorem RC : FA Tryz.prog 151 5 5 := Bt Tryz.underlying151 rfl Ey
theorem Fp : FA Tryz.prog 151 3 3 := Bt Tryz.underlying151 rfl Ey
theorem GK : FA Tryz.prog 151 1 1 := Bt Tryz.underlying151 rfl C9
theorem UP : CF Tryz.prog 154 := Tryz.call154
theorem HB : FA Tryz.prog 151 2 2 := Bt Tryz.underlying151 rfl KX
theorem Y7 : CF Tryz.prog 155 := Tryz.call155
theorem ZB : CF Tryz.prog 156 := Tryz.call156
theorem Ht : FA Tryz.prog 151 4 4 := Bt Tryz.underlying151 rfl Ey
theorem Yr : CF Tryz.prog 128 := Tryz.call128
theorem Uc : CF Tryz.prog 136 := Tryz.call136
theorem Yv : CF Tryz.prog 125 := Tryz.call125
theorem ZE : CF Tryz.prog 131 := Tryz.call131
theorem W2 : CF Tryz.prog 132 := Tryz.call132
theorem Pj : CF Tryz.prog 134 := Tryz.call134
theorem cB : CF Tryz.prog 161 := Tryz.call161
theorem Y3 : CF Tryz.prog 133 := Tryz.call133
theorem NP : CF Tryz.prog 135 := Tryz.call135
theorem C7 : FA Tryz.prog 151 0 0 := Bt Tryz.underlying151 rfl C9
theorem au : CF Tryz.prog 137 := Tryz.call137
theorem bB : CF Tryz.prog 138 := Tryz.call138
theorem bo : CF Tryz.prog 139 := Tryz.call139
theorem Ub : CF Tryz.prog 140 := Tryz.call140
theorem cu : CF Tryz.prog 99 := Tryz.call99
theorem aY : CF Tryz.prog 103 := Tryz.call103
theorem cD : CF Tryz.prog 104 := Tryz.call104
theorem bN : CF Tryz.prog 105 := Tryz.call105
theorem aM : CF Tryz.prog 106 := Tryz.call106
theorem ah : CF Tryz.prog 107 := Tryz.call107
theorem X7 : CF Tryz.prog 84 := Tryz.call84
theorem KT : Sz Tryz.prog 69 10 := Dr (by kernel_rfl)
theorem U8 : HO Tryz.prog 98 [(0, 1), (1, 1), (2, 10), (12, 4), (16, 5), (21, 1)] := ⟨_, Tryz.underlying98, fun w => by simp [C9 w, KT w, OE w, Fc w, No w]⟩
theorem Uy : ZV Tryz.prog 98 (.agg (A2.enc (default : A2)).toArray) := E4 (by kernel_rfl)
theorem aa : CF Tryz.prog 122 := Tryz.call122
theorem ZR : CF Tryz.prog 67 := Tryz.call67
theorem L7 : FA Tryz.prog 98 3 12 := Bt Tryz.underlying98 rfl OE
theorem ca : CF Tryz.prog 91 := Tryz.call91
theorem cS : CF Tryz.prog 92 := Tryz.call92
theorem cl : CF Tryz.prog 93 := Tryz.call93
theorem cw : CF Tryz.prog 95 := Tryz.call95
theorem cL : CF Tryz.prog 97 := Tryz.call97
theorem bW : CF Tryz.prog 186 := Tryz.call186
theorem ab : CF Tryz.prog 175 := Tryz.call175
theorem aZ : CF Tryz.prog 158 := Tryz.call158
theorem ax : CF Tryz.prog 126 := Tryz.call126
theorem Wl : CF Tryz.prog 62 := Tryz.call62
theorem cj : CF Tryz.prog 98 := Tryz.call98
theorem Kg : FA Tryz.prog 98 2 2 := Bt Tryz.underlying98 rfl KT
theorem RA : FA Tryz.prog 69 5 9 := Bt Tryz.underlying69 rfl C9
theorem dS : CF Tryz.prog 83 := Tryz.call83
theorem dE : CF Tryz.prog 77 := Tryz.call77
theorem cR : CF Tryz.prog 78 := Tryz.call78
theorem SN : CF Tryz.prog 65 := Tryz.call65
theorem bF : Sz Tryz.prog 67 3 := Dr (by kernel_rfl)
theorem Ke : FA Tryz.prog 69 3 3 := Bt Tryz.underlying69 rfl bF
theorem Kp : IA Tryz.prog 67 3 1 := Mk Tryz.underlying67 C9
theorem Jh : FA Tryz.prog 69 4 6 := Bt Tryz.underlying69 rfl bF
theorem Fv : FA Tryz.prog 69 0 0 := Bt Tryz.underlying69 rfl C9
theorem Kj : FA Tryz.prog 69 1 1 := Bt Tryz.underlying69 rfl C9
theorem Gp : FA Tryz.prog 69 2 2 := Bt Tryz.underlying69 rfl Ey
theorem Za : ZV Tryz.prog 69 (.agg (AP.enc (default : AP)).toArray) := E4 (by kernel_rfl)
theorem Zr : CF Tryz.prog 73 := Tryz.call73
theorem D1 : Ng Tryz.prog 69 10 := E1 Tryz.underlying69 rfl KT
theorem ZM : CF Tryz.prog 55 := Tryz.call55
theorem RZ : CF Tryz.prog 74 := Tryz.call74
theorem aE : ZV Tryz.prog 145 (.agg (CE (n := 2) Av (Vector.replicate 2 default)).toArray) := E4 (by kernel_rfl)
theorem dT : CF Tryz.prog 80 := Tryz.call80
theorem cy : CF Tryz.prog 81 := Tryz.call81
theorem Yi : CF Tryz.prog 75 := Tryz.call75
theorem dR : CF Tryz.prog 56 := Tryz.call56
theorem bj : CF Tryz.prog 57 := Tryz.call57
theorem cq : CF Tryz.prog 58 := Tryz.call58
theorem J0 : FA Tryz.prog 75 0 0 := Bt Tryz.underlying75 rfl Ey
theorem O5 : FA Tryz.prog 75 1 1 := Bt Tryz.underlying75 rfl KX
theorem OD : FA Tryz.prog 75 2 2 := Bt Tryz.underlying75 rfl KX
theorem Zx : CF Tryz.prog 70 := Tryz.call70
theorem cO : CF Tryz.prog 45 := Tryz.call45
theorem KQ : ZV Tryz.prog 44 (.agg (Bl.enc (default : Bl)).toArray) := E4 (by kernel_rfl)
theorem Qm : FA Tryz.prog 101 2 253 := Bt Tryz.underlying101 rfl C9
theorem bD : Sz Tryz.prog 42 1 := Dr (by kernel_rfl)
theorem M5 : HO Tryz.prog 44 [(0, 1), (1, 1)] := ⟨_, Tryz.underlying44, fun w => by simp [bD w, Ey w]⟩
theorem KV : Sz Tryz.prog 44 2 := Dr (by kernel_rfl)
theorem IY : Ng Tryz.prog 44 2 := E1 Tryz.underlying44 rfl KV
theorem OI : FA Tryz.prog 41 0 0 := Bt Tryz.underlying41 rfl C9
theorem Wu : FA Tryz.prog 41 2 2 := Bt Tryz.underlying41 rfl C9
theorem dO : CF Tryz.prog 60 := Tryz.call60
theorem TP : FA Tryz.prog 41 1 1 := Bt Tryz.underlying41 rfl C9
theorem dI : CF Tryz.prog 61 := Tryz.call61
theorem Zs : FA Tryz.prog 41 3 3 := Bt Tryz.underlying41 rfl Ey
theorem cV : CF Tryz.prog 29 := Tryz.call29
theorem dN : CF Tryz.prog 63 := Tryz.call63
theorem dP : CF Tryz.prog 66 := Tryz.call66
theorem bu : CF Tryz.prog 37 := Tryz.call37
theorem Z1 : HO Tryz.prog 41 [(0, 1), (1, 1), (2, 1), (3, 1)] := ⟨_, Tryz.underlying41, fun w => by simp [C9 w, Ey w]⟩
theorem ZX : ZV Tryz.prog 41 (.agg (Bz.enc (default : Bz)).toArray) := E4 (by kernel_rfl)
theorem Xt : CF Tryz.prog 38 := Tryz.call38
theorem cQ : CF Tryz.prog 21 := Tryz.call21
theorem Xh : FA Tryz.prog 44 0 0 := Bt Tryz.underlying44 rfl bD
theorem ZD : RL Tryz.prog 42 := I9 Tryz.underlying42 rfl
theorem dK : CF Tryz.prog 24 := Tryz.call24
theorem cP : CF Tryz.prog 33 := Tryz.call33
theorem aR : Sz Tryz.prog 41 4 := Dr (by kernel_rfl)
theorem aQ : IS Tryz.prog 22 4 := O4 Tryz.underlying22 aR
theorem Yz : Ng Tryz.prog 41 4 := E1 Tryz.underlying41 rfl aR
theorem dB : CF Tryz.prog 17 := Tryz.call17
theorem cT : CF Tryz.prog 16 := Tryz.call16
theorem Kc  (w : World) : Ef Tryz.prog 15 #[] w fun v w' => v = .agg AG.new.enc.toArray ∧ CA w w' := by
 refine Al [] [] Tryz.func15 rfl rfl rfl (St.start w []) ?_
 refine Gs ?_
 refine BF rfl K1 rfl (fun b1 => ?_)
 refine AQ (AA (Gs ?_))
 refine BF rfl K1 rfl (fun b2 => ?_)
 refine AQ (AA (CD ?_))
 refine Gt (Eu Tryz.underlying23 C9 Vm rfl (.cons (AU.arr (n := 6) (i := 0) B1 (by decide) (by decide)) rfl rfl rfl (.cons (AU.arr (n := 6) (i := 1) B1 (by decide) (by decide)) rfl rfl rfl (.cons (AU.arr (n := 6) (i := 2) B1 (by decide) (by decide)) rfl rfl rfl (.cons (AU.arr (n := 6) (i := 3) B1 (by decide) (by decide)) rfl rfl rfl (.cons (AU.arr (n := 6) (i := 4) B1 (by decide) (by decide)) rfl rfl rfl (.cons (AU.arr (n := 6) (i := 5) B1 (by decide) (by decide)) rfl rfl rfl .nil))))))) ?_
 refine Gt (Eu Tryz.underlying24 KX bK rfl (.cons (AU.arr (n := 6) (i := 5) HE (by decide) (by decide)) rfl rfl rfl .nil)) ?_
 refine Gt (BC Vq Nc rfl (.cons Room.l0 rfl rfl rfl (.cons Room.l2 rfl rfl rfl (.cons Room.l3 rfl rfl rfl .nil)))) ?_
 refine Gt (Eu Tryz.underlying23 C9 Vm rfl (.cons (AU.arr (n := 6) (i := 0) B1 (by decide) (by decide)) rfl rfl rfl (.cons (AU.arr (n := 6) (i := 1) B1 (by decide) (by decide)) rfl rfl rfl (.cons (AU.arr (n := 6) (i := 2) B1 (by decide) (by decide)) rfl rfl rfl (.cons (AU.arr (n := 6) (i := 3) B1 (by decide) (by decide)) rfl rfl rfl (.cons (AU.arr (n := 6) (i := 4) B1 (by decide) (by decide)) rfl rfl rfl (.cons (AU.arr (n := 6) (i := 5) B1 (by decide) (by decide)) rfl rfl rfl .nil))))))) ?_
 refine Gt (BC Vq Nc rfl (.cons Room.l0 rfl rfl rfl (.cons Room.l2 rfl rfl rfl .nil))) ?_
 refine Gt (Eu Tryz.underlying23 C9 Vm rfl (.cons (AU.arr (n := 6) (i := 0) B1 (by decide) (by decide)) rfl rfl rfl (.cons (AU.arr (n := 6) (i := 1) B1 (by decide) (by decide)) rfl rfl rfl (.cons (AU.arr (n := 6) (i := 2) B1 (by decide) (by decide)) rfl rfl rfl (.cons (AU.arr (n := 6) (i := 3) B1 (by decide) (by decide)) rfl rfl rfl (.cons (AU.arr (n := 6) (i := 4) B1 (by decide) (by decide)) rfl rfl rfl (.cons (AU.arr (n := 6) (i := 5) B1 (by decide) (by decide)) rfl rfl rfl .nil))))))) ?_
 refine Gt (BC Vq Nc rfl (.cons Room.l0 rfl rfl rfl (.cons Room.l2 rfl rfl rfl (.cons Room.l1 rfl rfl rfl .nil)))) ?_
 refine Gt (Eu Tryz.underlying23 C9 Vm rfl (.cons (AU.arr (n := 6) (i := 0) B1 (by decide) (by decide)) rfl rfl rfl (.cons (AU.arr (n := 6) (i := 1) B1 (by decide) (by decide)) rfl rfl rfl (.cons (AU.arr (n := 6) (i := 2) B1 (by decide) (by decide)) rfl rfl rfl (.cons (AU.arr (n := 6) (i := 3) B1 (by decide) (by decide)) rfl rfl rfl (.cons (AU.arr (n := 6) (i := 4) B1 (by decide) (by decide)) rfl rfl rfl (.cons (AU.arr (n := 6) (i := 5) B1 (by decide) (by decide)) rfl rfl rfl .nil))))))) ?_
 refine Gt (BC Vq Nc rfl (.cons Room.l0 rfl rfl rfl (.cons Room.l2 rfl rfl rfl (.cons Room.l1 rfl rfl rfl .nil)))) ?_
 refine Gt (Eu Tryz.underlying23 C9 Vm rfl (.cons (AU.arr (n := 6) (i := 0) B1 (by decide) (by decide)) rfl rfl rfl (.cons (AU.arr (n := 6) (i := 1) B1 (by decide) (by decide)) rfl rfl rfl (.cons (AU.arr (n := 6) (i := 2) B1 (by decide) (by decide)) rfl rfl rfl (.cons (AU.arr (n := 6) (i := 3) B1 (by decide) (by decide)) rfl rfl rfl (.cons (AU.arr (n := 6) (i := 4) B1 (by decide) (by decide)) rfl rfl rfl (.cons (AU.arr (n := 6) (i := 5) B1 (by decide) (by decide)) rfl rfl rfl .nil))))))) ?_
 refine Gt (Eu Tryz.underlying24 KX bK rfl (.cons (AU.arr (n := 6) (i := 2) HE (by decide) (by decide)) rfl rfl rfl .nil)) ?_
 refine Gt (BC Vq Nc rfl (.cons Room.l0 rfl rfl rfl (.cons Room.l2 rfl rfl rfl (.cons Room.l3 rfl rfl rfl (.cons Room.l1 rfl rfl rfl .nil))))) ?_
 refine Gt (Eu Tryz.underlying23 C9 Vm rfl (.cons (AU.arr (n := 6) (i := 0) B1 (by decide) (by decide)) rfl rfl rfl (.cons (AU.arr (n := 6) (i := 1) B1 (by decide) (by decide)) rfl rfl rfl (.cons (AU.arr (n := 6) (i := 2) B1 (by decide) (by decide)) rfl rfl rfl (.cons (AU.arr (n := 6) (i := 3) B1 (by decide) (by decide)) rfl rfl rfl (.cons (AU.arr (n := 6) (i := 4) B1 (by decide) (by decide)) rfl rfl rfl (.cons (AU.arr (n := 6) (i := 5) B1 (by decide) (by decide)) rfl rfl rfl .nil))))))) ?_
 refine Gt (BC Vq Nc rfl (.cons Room.l0 rfl rfl rfl (.cons Room.l2 rfl rfl rfl .nil))) ?_
 refine Wp (cs := CE (n := 6) Room.enc (Vector.replicate 6 default)) (cs' := CE (n := 6) Room.enc AG.S6) rfl Tryz.underlying95 QW Nc (by decide) (by decide) (by kernel_rfl) (.cons (AU.arr (n := 6) (i := 0) Room.fl (by decide) (by decide)) rfl rfl rfl (.cons (AU.arr (n := 6) (i := 1) Room.fl (by decide) (by decide)) rfl rfl rfl (.cons (AU.arr (n := 6) (i := 2) Room.fl (by decide) (by decide)) rfl rfl rfl (.cons (AU.arr (n := 6) (i := 3) Room.fl (by decide) (by decide)) rfl rfl rfl (.cons (AU.arr (n := 6) (i := 4) Room.fl (by decide) (by decide)) rfl rfl rfl (.cons (AU.arr (n := 6) (i := 5) Room.fl (by decide) (by decide)) rfl rfl rfl .nil)))))) rfl (fun b3 => ?_)
 refine Gt (Ar rfl Tryz.underlying95 rfl) (Gm rfl (Gn (.t5 0 1 20 21 22) (Ae ?_)))
 refine Bo (.t5 22 0 1 20 21) ?_
 refine Bg (.t .h) ?_
 refine CY (fun (k : Int) => 0 ≤ k ∧ k ≤ 6) (fun (k : Int) => (6 - k).toNat) (fun (k : Int) => [(22, .int .i64 k)]) (fun (k : Int) => [Ad.box b2 35 (AG.enc (AG.TK k.toNat))]) (0) ?_ rfl rfl (fun k hI1 => ?_)
 · exact ⟨Int.le_refl _, by omega⟩
 obtain ⟨hI11, hI12⟩ := hI1
 refine Gs (Gt (A9 rfl rfl) (AQ (AA (Ao ?_))))
 refine Gc (fun c1 => ?_) (fun c1 => ?_)
 ·
  have c1p := kz c1
  dsimp only at c1p
  refine Aa ?_
  refine AB (.t5 0 1 20 21 22) ?_
  refine AA (Ao (Ae (Gs (Gm rfl ?_))))
  refine Gt (Br dQ (by decide) (Kn.own .m1) rfl rfl (by omega) (by dsimp only; omega)) ?_
  refine Gt (Nt rfl N5 (by decide) Room.fl (Kn.own .m1) (by simp; omega)) ?_
  refine BF rfl Nc rfl (fun b4 => ?_)
  refine Ga rfl ?_
  refine AT (AK (AU.id Room.fl.len Room.fl.one) rfl rfl rfl QW rfl .h) ?_
  refine Gn (.t7 0 1 2 3 20 21 22) (AJ (Gm rfl (Gt (AZ rfl N5 .m0 (AU.id Room.fl.len Room.fl.one) rfl) (Gt (Ah Gz rfl) ?_))))
  refine Gt (AR N9 rfl rfl (by omega) (by omega)) ?_
  refine AT (AK (AG.l0.comp (AU.ar (n := 6) Room.fl (by omega))) rfl rfl rfl QW rfl (.t .h)) ?_
  refine AQ (AB (.t5 0 1 20 21 22) ?_)
  refine AV (AA (AJ ?_))
  refine Gt (Au rfl rfl (IntWalk.i64_in _ (by omega))) ?_
  refine Gm rfl ?_
  refine AQ (AB (.t5 0 1 20 21 22) ?_)
  refine B4 (k + 1) ?_ ?_ (.t5 22 0 1 20 21) (by rw [AG.Ve (by omega)]; exact (.cons _ (.refl _)))
  · exact ⟨by omega, by omega⟩
  · omega
 have c1p := kz c1
 dsimp only at c1p
 obtain rfl : k = 6 := by omega
 refine Be (AX (AX (Aj ?_)))
 refine AB (.t2 0 1) ?_
 refine AA (CD (Gt (BC Ql KO rfl (.cons Ag.l0 rfl rfl rfl (.cons Ag.l1 rfl rfl rfl .nil))) (Gt (BC Ql KO rfl (.cons Ag.l0 rfl rfl rfl (.cons Ag.l1 rfl rfl rfl (.cons Ag.l3 rfl rfl rfl .nil)))) (Gt (BC Ql KO rfl (.cons Ag.l0 rfl rfl rfl (.cons Ag.l1 rfl rfl rfl .nil))) (Gt (BC Ql KO rfl (.cons Ag.l0 rfl rfl rfl (.cons Ag.l1 rfl rfl rfl (.cons Ag.l3 rfl rfl rfl .nil)))) (Gt (BC Ql KO rfl (.cons Ag.l0 rfl rfl rfl (.cons Ag.l2 rfl rfl rfl (.cons Ag.l3 rfl rfl rfl .nil)))) (Gt (BC Ql KO rfl (.cons Ag.l0 rfl rfl rfl (.cons Ag.l3 rfl rfl rfl .nil))) ?_)))))))
 refine Gt (BC Ql KO rfl (.cons Ag.l0 rfl rfl rfl .nil)) (Gt (BC Ql KO rfl (.cons Ag.l0 rfl rfl rfl (.cons Ag.l1 rfl rfl rfl (.cons Ag.l4 rfl rfl rfl .nil)))) (Gt (BC Ql KO rfl (.cons Ag.l0 rfl rfl rfl (.cons Ag.l2 rfl rfl rfl (.cons Ag.l3 rfl rfl rfl .nil)))) ?_))
 refine Wp (cs := CE (n := 9) Ag.enc (Vector.replicate 9 default)) (cs' := CE (n := 9) Ag.enc AG.Q1) rfl Tryz.underlying96 Mr KO (by decide) (by decide) (by kernel_rfl) (.cons (AU.arr (n := 9) (i := 0) Ag.fl (by decide) (by decide)) rfl rfl rfl (.cons (AU.arr (n := 9) (i := 1) Ag.fl (by decide) (by decide)) rfl rfl rfl (.cons (AU.arr (n := 9) (i := 2) Ag.fl (by decide) (by decide)) rfl rfl rfl (.cons (AU.arr (n := 9) (i := 3) Ag.fl (by decide) (by decide)) rfl rfl rfl (.cons (AU.arr (n := 9) (i := 4) Ag.fl (by decide) (by decide)) rfl rfl rfl (.cons (AU.arr (n := 9) (i := 5) Ag.fl (by decide) (by decide)) rfl rfl rfl (.cons (AU.arr (n := 9) (i := 6) Ag.fl (by decide) (by decide)) rfl rfl rfl (.cons (AU.arr (n := 9) (i := 7) Ag.fl (by decide) (by decide)) rfl rfl rfl (.cons (AU.arr (n := 9) (i := 8) Ag.fl (by decide) (by decide)) rfl rfl rfl .nil))))))))) rfl (fun b5 => ?_)
 refine Gt (Ar rfl Tryz.underlying96 rfl) (Gm rfl (Gn (.t5 0 1 41 42 43) (Ae ?_)))
 refine Bo (.t5 43 0 1 41 42) ?_
 refine Bg (.t .h) ?_
 refine CY (fun (k : Int) => 0 ≤ k ∧ k ≤ 9) (fun (k : Int) => (9 - k).toNat) (fun (k : Int) => [(43, .int .i64 k)]) (fun (k : Int) => [Ad.box b2 35 (AG.enc (AG.JW k.toNat))]) (0) ?_ rfl rfl (fun k hI2 => ?_)
 · exact ⟨Int.le_refl _, by omega⟩
 obtain ⟨hI21, hI22⟩ := hI2
 refine Gs (Gt (A9 rfl rfl) (AQ (AA (Ao ?_))))
 refine Gc (fun c2 => ?_) (fun c2 => ?_)
 ·
  have c2p := kz c2
  dsimp only at c2p
  refine Aa ?_
  refine AB (.t5 0 1 41 42 43) ?_
  refine AA (Ao (Ae (Gs (Gm rfl ?_))))
  refine Gt (Br dA (by decide) (Kn.own .m1) rfl rfl (by omega) (by dsimp only; omega)) ?_
  refine Gt (Nt rfl Mo (by decide) Ag.fl (Kn.own .m1) (by simp; omega)) ?_
  refine BF rfl KO rfl (fun b6 => ?_)
  refine Ga rfl ?_
  refine AT (AK (AU.id Ag.fl.len Ag.fl.one) rfl rfl rfl Mr rfl .h) ?_
  refine Gn (.t7 0 1 4 5 41 42 43) (AJ (Gm rfl (Gt (AZ rfl Mo .m0 (AU.id Ag.fl.len Ag.fl.one) rfl) (Gt (Ah Ce rfl) ?_))))
  refine Gt (AR FM rfl rfl (by omega) (by omega)) ?_
  refine AT (AK (AG.l1.comp (AU.ar (n := 9) Ag.fl (by omega))) rfl rfl rfl Mr rfl (.t .h)) ?_
  refine AQ (AB (.t5 0 1 41 42 43) ?_)
  refine AV (AA (AJ ?_))
  refine Gt (Au rfl rfl (IntWalk.i64_in _ (by omega))) ?_
  refine Gm rfl ?_
  refine AQ (AB (.t5 0 1 41 42 43) ?_)
  refine B4 (k + 1) ?_ ?_ (.t5 43 0 1 41 42) (by rw [AG.Uu (by omega)]; exact (.cons _ (.refl _)))
  · exact ⟨by omega, by omega⟩
  · omega
 have c2p := kz c2
 dsimp only at c2p
 obtain rfl : k = 9 := by omega
 refine Be (AX (AX (Aj ?_)))
 refine AB (.t2 0 1) ?_
 refine AA (Gs (Gt (BC Xp LZ rfl (.cons Ak.l0 rfl rfl rfl (.cons Ak.l1 rfl rfl rfl (.cons Ak.l2 rfl rfl rfl (.cons Ak.l4 rfl rfl rfl .nil))))) (Gt (Ah Bn rfl) ?_)))
 refine Gt (AR C4 rfl rfl (by decide) (by decide)) ?_
 refine AT (AK (AG.l2.comp (AU.arr (n := 6) Ak.fl (by decide) (by decide))) rfl rfl rfl KR rfl .h) ?_
 refine Gn (.t2 0 1) (Gs (Gt (BC Xp LZ rfl (.cons Ak.l0 rfl rfl rfl (.cons Ak.l1 rfl rfl rfl (.cons Ak.l3 rfl rfl rfl (.cons Ak.l4 rfl rfl rfl .nil))))) (Gt (Ah Bn rfl) ?_)))
 refine Gt (AR C4 rfl rfl (by decide) (by decide)) ?_
 refine AT (AK (AG.l2.comp (AU.arr (n := 6) Ak.fl (by decide) (by decide))) rfl rfl rfl KR rfl .h) ?_
 refine Gn (.t2 0 1) (Gs (Gt (AZ rfl BU .m0 (AU.id AG.fl.len AG.fl.one) rfl) ?_))
 refine AT (AK (AU.id AG.fl.len AG.fl.one) rfl rfl rfl Dm rfl (.t (.t (.t .h)))) ?_
 refine Gn (.t1 0) (Ab ?_)
 refine AY rfl (.cell rfl .m3 (.inl ⟨(by rw [AG.fl.len]; exact BU), rfl⟩) .n) ?_
 intro w1 hS; refine ⟨?_, hS.Am⟩; rfl
theorem QU (b : Nat) (V : AO) : JL Tryz.prog 18 #[.pointer (some ⟨b, 0, none⟩)] [Ad.box b 101 (AO.enc V)] (fun v B => v = .agg (AG.enc V.w).toArray ∧ B = [Ad.box b 101 (AO.enc V)]) := by
 intro w hS0
 refine Al _ _ Tryz.func18 rfl rfl rfl (hS0) ?_
 refine Gs ?_
 refine BF rfl K1 rfl (fun b1 => ?_)
 refine AQ (AA (CD (Gm rfl (Gt (FN Tryz.underlying37 rfl) (Gn (.t3 0 2 4) ?_)))))
 refine D3 rfl rfl ?_
 refine Aa ?_
 refine AB (.t2 0 2) ?_
 refine AA (Gs (Gm rfl (Gt (BV rfl) (Gt (Ah D2 rfl) (Gt (AZ rfl BU .m1 AO.l0 rfl) ?_)))))
 refine AT (AK (AU.id AG.fl.len AG.fl.one) rfl rfl rfl Dm rfl .h) ?_
 refine Gn (.t1 2) (Ab ?_)
 refine AY rfl (.cell rfl .m0 (.inl ⟨(by rw [AG.fl.len]; exact BU), rfl⟩) .n) ?_
 intro w1 hS
 have hS := (hS.perm (As.perm (.c (.t .h) .n))).A1
 exact ⟨_, ⟨rfl, rfl⟩, hS⟩
theorem Jg (X : AG) (i : Int) (w : World) : Ef Tryz.prog 19 #[.agg X.enc.toArray, .int .i64 i] w fun v w' => v = .tuple #[.int .i64 (X.room i).1, .bool (X.room i).2] ∧ CA w w' := by
 refine Al [] [] Tryz.func19 rfl rfl rfl (St.start w []) ?_
 refine Gs ?_
 refine B3 rfl rfl rfl (fun b1 => ?_)
 refine Ga rfl (Ga rfl (Gn (.t2 1 2) (Gs (Ga rfl (AQ (AA (CD ?_)))))))
 refine Gm rfl (AQ (AA (Ae ?_)))
 refine Bo (.t4 1 6 8 2) ?_
 refine Dq (fun (k : Int) (j : Int) (o : Bool) => 0 ≤ k ∧ k ≤ 10 ∧ X.room i = X.Eh (10 - k).toNat j o) (fun (k : Int) (j : Int) (o : Bool) => (10 - k).toNat) (fun (k : Int) (j : Int) (o : Bool) => [(1, .int .i64 j), (6, .bool o), (8, .int .i64 k)]) (fun (k : Int) (j : Int) (o : Bool) => []) (0) (i) (true) ?_ rfl rfl (fun k j o hI1 => ?_)
 · exact ⟨Int.le_refl _, by omega, rfl⟩
 obtain ⟨hI11, hI12, hI13⟩ := hI1
 refine Gs (Gt (A9 rfl rfl) (AQ (AA (Ao ?_))))
 refine Gc (fun c1 => ?_) (fun c1 => ?_)
 ·
  have c1p := kz c1
  rw [show (10 - k).toNat = (10 - (k + 1)).toNat + 1 from by omega, AG.Eh] at hI13
  refine Aa ?_
  refine AB (.t4 1 2 6 8) ?_
  refine AA (Ao (Ae (CD (Gm rfl (Gt (A9 rfl rfl) (Gm rfl (Bc 12 rfl rfl (fun q => AF rfl) ?_)))))))
  refine Bc 12 rfl rfl (fun q => CM (cF rfl q) rfl) ?_
  refine Gt (BS rfl rfl (fun h => by rw [h]; rfl)) ?_
  refine Gn (.t5 1 2 6 8 15) ?_
  refine Gc (fun c2 => ?_) (fun c2 => ?_)
  ·
   refine Gs (Ga rfl (Ga rfl (Gn (.t2 4 5) (Ab (AD (AS (AD ?_)))))))
   refine AD (AS (AD ?_))
   refine AY rfl (.tmp rfl (.tmp rfl .n)) ?_
   intro w1 hS; refine ⟨?_, hS.Am⟩; rw [hI13]; simp only [c1, c2, ↓reduceIte, Bool.false_eq_true]; rfl
  have c2p := kz c2
  refine Aa ?_
  refine AB (.t4 1 2 6 8) ?_
  refine AA (Gs (Gm rfl (Gt (Ah Ce rfl) ?_)))
  refine Gt (AR FM rfl rfl (by omega) (by omega)) ?_
  refine Gt (AZ rfl Mo .m0 (AG.l1.comp (AU.ar (n := 9) Ag.fl (by omega))) rfl) ?_
  refine BF rfl KO rfl (fun b2 => ?_)
  refine AT (AK (AU.id Ag.fl.len Ag.fl.one) rfl rfl rfl Mr rfl .h) ?_
  refine Gn (.t4 2 6 7 8) (CD (Gt (Ah FL rfl) (Gt (AH rfl A4 .m0 Ag.l2 rfl rfl) (Gn (.t5 2 6 7 8 21) (Ae (Gs (Gt (Af rfl rfl) ?_)))))))
  refine Ga rfl (Gn (.t6 2 6 7 8 21 22) ?_)
  refine Gc (fun c3 => ?_) (fun c3 => ?_)
  ·
   refine Gs (Gt (Ah DF rfl) (Gt (AH rfl A4 .m0 Ag.l3 rfl rfl) (Gm rfl (Ga rfl (Ga rfl (Gn (.t2 4 5) (Ab ?_)))))))
   refine AS (AD (AS (AD (AD (AS (AD ?_))))))
   refine AY rfl (.tmp rfl (.tmp rfl .n)) ?_
   intro w1 hS; refine ⟨?_, hS.Am⟩; rw [hI13]; simp only [c1, c2, c3, ↓reduceIte, Bool.false_eq_true]; rfl
  have c3p := kz c3
  refine Gs (Gt (Af rfl rfl) (Ga rfl (Gn (.t6 2 6 7 8 21 27) ?_)))
  refine Gc (fun c4 => ?_) (fun c4 => ?_)
  ·
   have c4p := kz c4
   refine CD (Gt (Ah DF rfl) (Gt (AH rfl A4 .m0 Ag.l3 rfl rfl) (Gt (A9 rfl rfl) (Gm rfl (Bc 32 rfl rfl (fun q => Ah DF rfl) (Bc 32 rfl rfl (fun q => AH (cF rfl q) A4 .m0 Ag.l3 rfl rfl) (Bc 32 rfl rfl (fun q => CM (cF rfl q) rfl) ?_)))))))
   refine Gt (BS rfl rfl (fun h => by rw [h]; rfl)) ?_
   refine Gn (.t4 2 6 7 36) ?_
   refine Gc (fun c5 => ?_) (fun c5 => ?_)
   ·
    refine Gs (Ga rfl (Ga rfl (Gn (.t2 4 5) (Ab (AD (AS (AD ?_)))))))
    refine AS (AD (AD (AS (AD ?_))))
    refine AY rfl (.tmp rfl (.tmp rfl .n)) ?_
    intro w1 hS; refine ⟨?_, hS.Am⟩; rw [hI13]; simp only [c1, c2, c3, c4, c5, ↓reduceIte, Bool.false_eq_true]; rfl
   have c5p := kz c5
   refine Aa ?_
   refine AB (.t3 2 6 7) ?_
   refine AA (Gs (Gt (Ah DF rfl) (Gt (AH rfl A4 .m0 Ag.l3 rfl rfl) (Gt (Ah Bn rfl) ?_))))
   refine Gt (AR C4 rfl rfl (by omega) (by omega)) ?_
   refine Gt (Ah Cy rfl) ?_
   refine Gt (AH rfl A4 .m1 ((AG.l2.comp (AU.ar (n := 6) Ak.fl (by omega))).comp Ak.l3) rfl rfl) ?_
   refine Gm rfl (Ga rfl (Ga rfl (Gn (.t2 4 5) (Ab (AS (AD (AS ?_)))))))
   refine AD (AD (AS (AD ?_)))
   refine AY rfl (.tmp rfl (.tmp rfl .n)) ?_
   intro w1 hS; refine ⟨?_, hS.Am⟩; rw [hI13]; simp only [c1, c2, c3, c4, c5, ↓reduceIte, Bool.false_eq_true]; rfl
  have c4p := kz c4
  refine Gs (Gt (Af rfl rfl) (Ga rfl (Gn (.t5 2 6 7 8 44) ?_)))
  refine Gc (fun c6 => ?_) (fun c6 => ?_)
  ·
   have c6p := kz c6
   refine Aa ?_
   refine AB (.t4 2 6 7 8) ?_
   refine AV (AA (Gs (Gt (Ah DF rfl) (Gt (AH rfl A4 .m0 Ag.l3 rfl rfl) (Ga rfl (Gn (.t4 1 2 6 8) (Gs ?_)))))))
   refine Gm rfl (Gt (CM rfl rfl) (Gm rfl (Bm 50 rfl rfl (fun q => AF rfl) (Bm 50 rfl rfl (fun q => A9 (Bh rfl q) rfl) (Gt (BJ rfl rfl (fun h => h)) (Gm rfl (Bm 54 rfl rfl (fun q => AF rfl) ?_)))))))
   refine Bm 54 rfl rfl (fun q => Ah Ce rfl) ?_
   refine Bm 54 rfl rfl (fun q => by have q1 := q; (try simp at q1); exact AR FM (Bh rfl q) (Bh rfl q) (by omega) (by omega)) ?_
   refine Bm 54 rfl rfl (fun q => Ah F8 (Bh rfl q)) ?_
   refine Bm 54 rfl rfl (fun q => by have q1 := q; (try simp at q1); exact AH (Bh rfl q) Dh .m1 ((AG.l1.comp (AU.ar (n := 9) Ag.fl (by omega))).comp Ag.l4) rfl rfl) ?_
   refine Bm 54 rfl rfl (fun q => BX (Bh rfl q)) (Gt (BJ rfl rfl (fun h => h)) (Gn (.t5 1 2 6 8 61) ?_))
   refine Gc (fun c7 => ?_) (fun c7 => ?_)
   ·
    have c7p := kz c7
    refine AJ (Ga rfl ?_)
    refine AQ (AB (.t4 1 2 6 8) ?_)
    refine AV (AA (AJ ?_))
    refine Gt (Au rfl rfl (IntWalk.i64_in _ (by omega))) ?_
    refine Gm rfl ?_
    refine AQ (AB (.t4 1 2 6 8) ?_)
    refine Bw (k + 1) ((X.AL.at j).at_) (false) ?_ ?_ (.t4 1 6 8 2) (.cons _ (.refl _))
    · exact ⟨by omega, by omega, by rw [hI13]; simp only [c1, c2, c3, c4, c6, c7, ↓reduceIte, Bool.false_eq_true]⟩
    · omega
   have c7p := kz c7
   refine Aa ?_
   refine AB (.t4 1 2 6 8) ?_
   refine AV (AA (AJ ?_))
   refine Gt (Au rfl rfl (IntWalk.i64_in _ (by omega))) ?_
   refine Gm rfl ?_
   refine AQ (AB (.t4 1 2 6 8) ?_)
   refine Bw (k + 1) ((X.AL.at j).at_) (o) ?_ ?_ (.t4 1 6 8 2) (.cons _ (.refl _))
   · exact ⟨by omega, by omega, by rw [hI13]; simp only [c1, c2, c3, c4, c6, c7, ↓reduceIte, Bool.false_eq_true]⟩
   · omega
  refine Gs (Ga rfl (Ga rfl (Gn (.t2 4 5) (Ab (AS (AD (AS ?_)))))))
  refine AD (AD (AS (AD ?_)))
  refine AY rfl (.tmp rfl (.tmp rfl .n)) ?_
  intro w1 hS; refine ⟨?_, hS.Am⟩; rw [hI13]; simp only [c1, c2, c3, c4, c6, ↓reduceIte, Bool.false_eq_true]; rfl
 have c1p := kz c1
 obtain rfl : k = 10 := by omega
 refine Be (AX (AX (Aj ?_)))
 refine AB (.nil _) ?_
 refine AA (Gs (Ga rfl (Ga rfl (AQ (AA (Ab ?_))))))
 refine AY rfl (.tmp rfl (.tmp rfl .n)) ?_
 intro w1 hS; refine ⟨?_, hS.Am⟩; rw [hI13]; rfl
theorem Jt (b : Nat) (V : AO) (a : Bz) (r : Bl) (c : Nat) (hg : V.w.BZ = true) (hT : AE.LU AG.new [] V.w) : JL Tryz.prog 17 #[.pointer (some ⟨b, 0, none⟩), .agg a.enc.toArray, .agg r.enc.toArray, .pointer (some ⟨c, 0, none⟩)] [Ad.box b 101 (AO.enc V), Ad.box c 35 (AG.enc AG.new)] (fun v B => v = .bool true ∧ B = [Ad.box b 101 (AO.enc V), Ad.box c 35 (AG.enc AG.new)]) := by
 intro w hS0
 refine Al _ _ Tryz.func17 rfl rfl rfl (hS0) ?_
 refine Gs ?_
 refine B3 rfl rfl rfl (fun b1 => ?_)
 refine B3 rfl rfl rfl (fun b2 => ?_)
 refine Ga rfl (Gn (.t2 0 3) (Gs (Gm rfl ?_)))
 refine Ai rfl ch (.c rfl .n) (.c (.t (.t .h)) .n) (QU _ _) (fun v1 B hv => ?_)
 obtain ⟨rfl, rfl⟩ := hv
 refine BF rfl K1 rfl (fun b3 => ?_)
 refine AT (AK (AU.id AG.fl.len AG.fl.one) rfl rfl rfl Dm rfl .h) ?_
 refine Gn (.t2 3 8) (CD (Gm rfl (AQ (AA (Ae ?_)))))
 refine Bo (.t3 14 3 8) ?_
 refine CY (fun (k : Int) => 0 ≤ k ∧ k ≤ 9) (fun (k : Int) => (9 - k).toNat) (fun (k : Int) => [(14, .int .i64 k)]) (fun (k : Int) => []) (0) ?_ rfl rfl (fun k hI1 => ?_)
 · exact ⟨by omega, by omega⟩
 obtain ⟨hI11, hI12⟩ := hI1
 refine Gs (Gt (A9 rfl rfl) (AQ (AA (Ao ?_))))
 refine Gc (fun c1 => ?_) (fun c1 => ?_)
 ·
  have c1p := kz c1
  refine Aa ?_
  refine AB (.t3 3 8 14) ?_
  refine AA (Ao (Ae (Gs (Gm rfl (Ga rfl (Gn (.t4 3 8 9 14) (Ao ?_)))))))
  refine Ao ?_
  refine BD (N := 24) [0, 0, 3, 7, 15, 0, 0, 96, 224, 480, 1023, 2047, 4095, 4095, 16383, 32767, 65535, 4095, 4095, 397311, 921599, 1970175, 4194303, 8388607] mix (by kernel_rfl) rfl ?_
  refine Pf 0 rfl (AF rfl) (Pf 1 rfl (Ah Ce rfl) ?_)
  refine Pf 2 rfl (AR FM rfl rfl (by omega) (by omega)) ?_
  refine Pf 3 rfl (Ah JP rfl) ?_
  refine Pf 4 rfl (AH rfl CO .m0 ((AG.l1.comp (AU.ar (n := 9) Ag.fl (by omega))).comp Ag.l0) rfl rfl) ?_
  refine Pf 5 rfl (AF rfl) (Pf 6 rfl (Ah Ce rfl) ?_)
  refine Pf 7 rfl (AR FM rfl rfl (by omega) (by omega)) ?_
  refine Pf 8 rfl (Ah JP rfl) ?_
  refine Pf 9 rfl (AH rfl CO .m4 ((AG.l1.comp (AU.ar (n := 9) Ag.fl (by omega))).comp Ag.l0) rfl rfl) ?_
  refine Pf 10 rfl (Df rfl rfl) (Pf 11 rfl (AF rfl) (Gd 12 28 rfl rfl rfl (fun q => AF rfl) (Gd 13 28 rfl rfl rfl (fun q => Ah Ce rfl) ?_)))
  refine BQ 14 rfl rfl (by kernel_rfl) (FO (t := 28) rfl rfl (fun q => by have q1 := q; (try simp at q1); exact G3 (AR FM (cF rfl q) (cF rfl q) (by omega) (by omega)))) ?_
  refine Gd 15 28 rfl rfl rfl (fun q => Ah Fb (cF rfl q)) ?_
  refine BQ 16 rfl rfl (by kernel_rfl) (FO (t := 28) rfl rfl (fun q => by have q1 := q; (try simp at q1); exact G3 (AH (cF rfl q) A4 .m0 ((AG.l1.comp (AU.ar (n := 9) Ag.fl (by omega))).comp Ag.l1) rfl rfl))) ?_
  refine Gd 17 28 rfl rfl rfl (fun q => AF rfl) (Gd 18 28 rfl rfl rfl (fun q => Ah Ce rfl) ?_)
  refine BQ 19 rfl rfl (by kernel_rfl) (FO (t := 28) rfl rfl (fun q => by have q1 := q; (try simp at q1); exact G3 (AR FM (cF rfl q) (cF rfl q) (by omega) (by omega)))) ?_
  refine Gd 20 28 rfl rfl rfl (fun q => Ah Fb (cF rfl q)) ?_
  refine BQ 21 rfl rfl (by kernel_rfl) (FO (t := 28) rfl rfl (fun q => by have q1 := q; (try simp at q1); exact G3 (AH (cF rfl q) A4 .m4 ((AG.l1.comp (AU.ar (n := 9) Ag.fl (by omega))).comp Ag.l1) rfl rfl))) ?_
  refine Gd 22 28 rfl rfl rfl (fun q => Cg (cF rfl q) (cF rfl q)) ?_
  refine Pf 23 rfl (BS rfl rfl (fun h => by rw [h]; rfl)) ?_
  refine A3 (by kernel_rfl) ?_
  refine AB (.t5 3 8 9 14 40) ?_
  refine AA ?_
  refine D3 rfl (Se hT k) ?_
  refine Aa ?_
  refine AB (.t4 3 8 9 14) ?_
  refine AA (Gs (Gt (AZ rfl BU .m0 (AU.id AG.fl.len AG.fl.one) rfl) (Gm rfl ?_)))
  refine BA rfl bS (.c rfl (.c rfl .n)) (fun w hS => Jg _ _ w) ?_
  refine Gm rfl (Gt (AM rfl rfl) (Gt (AM rfl rfl) (Ga rfl (Ga rfl (Gn (.t4 3 8 10 14) (Gs (Gm rfl ?_)))))))
  refine Gt (A9 rfl rfl) (Gm rfl (Bc 49 rfl rfl (fun q => AF rfl) (Bc 49 rfl rfl (fun q => CM (cF rfl q) rfl) ?_)))
  refine Gt (BS rfl rfl (fun h => by rw [h]; rfl)) ?_
  refine Gn (.t4 3 8 14 52) ?_
  refine D3 rfl (Sp hg hI11 (by omega)) ?_
  refine Aa ?_
  refine AB (.t3 3 8 14) ?_
  refine AV (AA (AJ ?_))
  refine Gt (Au rfl rfl (IntWalk.i64_in _ (by omega))) ?_
  refine Gm rfl ?_
  refine AQ (AB (.t3 3 8 14) ?_)
  refine B4 (k + 1) ?_ ?_ (.t3 14 3 8) (.refl _)
  · exact ⟨by omega, by omega⟩
  · omega
 refine Be (AX (AX (Aj ?_)))
 refine AB (.nil _) ?_
 refine AA (Gs (Ga rfl (AQ (AA (Ab ?_)))))
 refine AY rfl (.tmp rfl .n) ?_
 intro w1 hS
 have hS := (hS.perm (As.perm (.c (.t .h) (.c (.t (.t (.t .h))) .n)))).A1
 exact ⟨_, ⟨rfl, rfl⟩, hS⟩
theorem JS  : JL Tryz.prog 37 #[] [] (fun v B => ∃ (b : Nat) (V : AO) (ls : Vector BI 4) (ev : List Ing.Event), v = .pointer (some ⟨b, 0, none⟩) ∧ A5 V ls ev = AI.new ∧ B = [Ad.box b 101 (AO.enc V), Ad.D6 (CR 9 (AO.Az V) ls), Ad.own (AO.last V) 56 16 ((ev).flatMap Ing.Event.enc)]) := by
 intro w hS0
 refine Al _ _ Tryz.func37 rfl rfl rfl (hS0) ?_
 refine Gs (Ga rfl (Gn (.nil _) (Gs ?_)))
 refine BA rfl cC .n (fun w hS => Kc w) ?_
 refine Gt (BC bI bE rfl (.cons AO.l0 rfl rfl rfl .nil)) ?_
 refine B3 rfl rfl rfl (fun b1 => ?_)
 refine Ga rfl (Gn (.t1 0) (Ab ?_))
 refine AY rfl (.tmp rfl .n) ?_
 intro w1 hS
 have hS := (hS.perm (As.perm (.c .h .n))).A1
 have h2 := (St.Yk hS (l := CR 9 NC NG) (fun r hr => Xb 9 w1 r hr)).Cl 56 16
 refine ⟨_, ⟨b1, ⟨AG.new, NC, 0, ⟨none, 0, 0⟩⟩, NG, [], rfl, rfl, rfl⟩, h2.perm (YU _ _ _)⟩
theorem Bv {t0 : Nat} (h : Hd) (xs : List Ap) (hb : xs.length ≤ 17592186044416) : FJ Tryz.prog 69 #[h.val] [] (fun w => Rd w h t0 1 (xs.flatMap A7)) (fun v B => ∃ h' : Hd, v = h'.val ∧ h'.len = xs.length ∧ B = [Ad.own h' 9 1 (xs.flatMap A7)]) := by
 intro w hS0 hH
 have r0 := hH
 have hl := r0.My DS (by decide)
 refine Al _ _ Tryz.func69 rfl rfl rfl (hS0) ?_
 refine Gs (Ga rfl (Gn (.t1 0) (CD (Gm rfl (Gt (TG Tryz.underlying52 rfl) (Gn (.t2 0 4) ?_))))))
 refine Gc (fun c1 => ?_) (fun c1 => ?_)
 ·
  refine Gs (Ga rfl (Gn (.t1 2) (Ab (AD ?_))))
  refine AY rfl (.tmp rfl .n) ?_
  intro w1 hS
  have hS := (hS.perm (As.perm .n)).A1
  have hx : xs = [] := by
    rcases xs with _ | ⟨x, xs⟩
    · rfl
    · exfalso
      obtain ⟨b, o, C, fz, e1, _⟩ := r0.2 (by simp [A7])
      rw [e1] at c1
      cases c1
  subst hx
  exact ⟨_, ⟨⟨none, 0, 0⟩, rfl, rfl, rfl⟩, hS.Cl _ _⟩
 have c1p := kz c1
 refine Aa ?_
 refine AB (.t1 0) ?_
 refine AA (Gs ?_)
 refine Xz A7 rfl Tryz.underlying52 Ey (fun b1 => ?_)
 refine Gm rfl ?_
 refine N2 (e := A7) rfl Tryz.underlying52 Ey TF rfl X1 (by decide) rfl rfl (fun w hS => Src.EG Tryz.underlying52 ((Kn.I7 r0) w hS)) rfl rfl (by omega) (fun _ => .h) (fun h1 h1l => ?_)
 refine Ga rfl (Gn (.t1 2) (Ab ?_))
 refine AY rfl (.tmp rfl .n) ?_
 intro w1 hS
 have hS := (hS.perm (As.perm (.c .h .n))).A1
 exact ⟨_, ⟨_, rfl, by omega, rfl⟩, hS⟩
theorem OB {t0 : Nat} (l : BN) (qs : List Ap) (hb : qs.length ≤ 17592186044416) : FJ Tryz.prog 91 #[.agg l.enc.toArray] [] (fun w => Rd w l.queue t0 1 (qs.flatMap A7) ∧ l.queue.len ≤ l.queue.cap) (fun v B => (qs = [] ∧ v = .tuple #[.agg l.enc.toArray, BT [], .bool false] ∧ B = []) ∨ (∃ q r, qs = q :: r ∧ ∃ h' : Hd, v = .tuple #[.agg (BN.enc ⟨l.now, l.Cs, l.ret, h'⟩).toArray, BT q, .bool true] ∧ h'.len = r.length ∧ B = [Ad.own h' 9 1 (r.flatMap A7)])) := by
 intro w hS0 hH
 obtain ⟨r0, k0⟩ := hH
 have hl0 := r0.My DS (by decide)
 refine Al _ _ Tryz.func91 rfl rfl rfl (hS0) ?_
 refine Gs ?_
 refine B3 rfl rfl rfl (fun b1 => ?_)
 refine BF rfl bL rfl (fun b2 => ?_)
 refine Ga rfl (Ga rfl (Gn (.t2 1 2) (CD (Gt (Ah F7 rfl) (Gt (AH rfl Fz .m1 BN.l3 rfl rfl) (Gt (Ar rfl Tryz.underlying52 rfl) (Gt (Af rfl rfl) ?_)))))))
 refine Gn (.t3 1 2 9) ?_
 refine Gc (fun c1 => ?_) (fun c1 => ?_)
 ·
  have c1p := kz c1
  have hq : qs = [] := List.length_eq_zero_iff.1 (by omega)
  refine Gs (Gt (AZ rfl Jx .m1 (AU.id BN.fl.len BN.fl.one) rfl) ?_)
  refine AT (AK (AU.id BN.fl.len BN.fl.one) rfl rfl rfl OE rfl .h) ?_
  refine Ga rfl (Ga rfl (Gn (.t3 2 3 4) (Ab (AD ?_))))
  refine AY rfl (.cell rfl .m0 (.inl ⟨(by rw [BN.fl.len]; exact Jx), rfl⟩) (.tmp rfl (.tmp rfl .n))) ?_
  intro w1 hS
  have hS := (hS.perm (As.perm .n)).A1
  exact ⟨_, .inl ⟨hq, rfl, rfl⟩, hS⟩
 have c1p := kz c1
 obtain ⟨q, r, rfl⟩ := Bf.Tq (qs := qs) (by omega)
 rw [List.length_cons] at hl0 hb
 refine Aa ?_
 refine AB (.t2 1 2) ?_
 refine AA (Gs (Gt (Ah F7 rfl) (Gt (AH rfl Fz .m1 BN.l3 rfl rfl) ?_)))
 refine Gt (Br JH (by decide) (Kn.I7 r0) rfl rfl (by omega) (by omega)) ?_
 refine Gt (Dd rfl CO (Kn.I7 r0) (by simp)) ?_
 refine Ga rfl (Gn (.t3 1 2 5) (Gs (Gt (Ah F7 rfl) (Gt (AH rfl Fz .m1 BN.l3 rfl rfl) ?_))))
 refine Gt (SY Tryz.underlying52 Ey rfl rfl (by decide) (by omega)) ?_
 refine BE rfl Vd (.c rfl .n) .n (Bv _ r (by omega)) (fun w hS => by have h := (Kn.cut (l := 1) (r := l.queue.len) DS (Kn.I7 r0) (by omega) (Nat.le_refl _) (VU.of k0)) w hS; rw [show (((q :: r).take l.queue.len).drop 1) = r from by rw [List.take_of_length_le (by simp; omega)]; rfl] at h; exact h) (fun v2 B hv => ?_)
 obtain ⟨y3, rfl, y4, rfl⟩ := hv
 refine Gt (Ah F7 rfl) ?_
 refine AT (AK BN.l3 rfl rfl rfl No rfl (.t (.t .h))) ?_
 refine Gn (.t3 1 2 5) (Gs (Gt (AZ rfl Jx .m2 (AU.id BN.fl.len BN.fl.one) rfl) (Gm rfl ?_)))
 refine AT (AK (AU.id BN.fl.len BN.fl.one) rfl rfl rfl OE rfl (.t .h)) ?_
 refine Ga rfl (Ga rfl (Gn (.t3 2 3 4) (Ab ?_)))
 refine AY rfl (.cell rfl .m1 (.inl ⟨(by rw [BN.fl.len]; exact Jx), rfl⟩) (.tmp rfl (.tmp rfl .n))) ?_
 intro w1 hS
 have hS := (hS.perm (As.perm (.c .h .n))).A1
 exact ⟨_, .inr ⟨q, r, rfl, _, rfl, by assumption, rfl⟩, hS⟩
theorem Mv (p : Aw) (w : World) : Ef Tryz.prog 92 #[.agg p.enc.toArray] w fun v w' => v = .agg (Aw.enc ⟨p.wait, 0, false, p.ring, p.cut⟩).toArray ∧ CA w w' := by
 refine Al [] [] Tryz.func92 rfl rfl rfl (St.start w []) ?_
 refine Gs ?_
 refine B3 rfl rfl rfl (fun b1 => ?_)
 refine BF rfl W5 rfl (fun b2 => ?_)
 refine Gn (.t2 1 2) (Gs (Gt (Ah QY rfl) ?_))
 refine AT (AK Aw.l2 rfl rfl rfl KX rfl (.t .h)) ?_
 refine Gt (Ah MB rfl) ?_
 refine AT (AK Aw.l1 rfl rfl rfl C9 rfl (.t .h)) ?_
 refine Gn (.t2 1 2) (Gs (Gt (AZ rfl Cw .m1 (AU.id Aw.fl.len Aw.fl.one) rfl) ?_))
 refine AT (AK (AU.id Aw.fl.len Aw.fl.one) rfl rfl rfl Fc rfl .h) ?_
 refine Gn (.t1 2) (Ab ?_)
 refine AY rfl (.cell rfl .m0 (.inl ⟨(by rw [Aw.fl.len]; exact Cw), rfl⟩) .n) ?_
 intro w1 hS; refine ⟨?_, hS.Am⟩; rfl
theorem HU (s : Ap) (c : UInt8) (hs : s.length ≤ 10000000) (w : World) : Ef Tryz.prog 116 #[BT s, .int .u8 (c.toNat : Int)] w fun v w' => v = BT (Words.Re c s) ∧ CA w w' := by
 refine Al [] [] Tryz.func116 rfl rfl rfl (St.start w []) ?_
 refine Gs (Ga rfl (Gn (.t2 0 1) (Ao (Ae ?_))))
 refine Bo (.t2 0 1) ?_
 refine CY (fun (r : Ap) => Words.Re c s = Words.Re c r ∧ r.length ≤ s.length) (fun (r : Ap) => r.length) (fun (r : Ap) => [(0, BT r)]) (fun (r : Ap) => []) (s) ?_ rfl rfl (fun r hI1 => ?_)
 · exact ⟨rfl, Nat.le_refl _⟩
 obtain ⟨hI11, hI12⟩ := hI1
 refine CD (Gm rfl (Gt (BG rfl Tryz.underlying9 rfl) (Gt (Ci rfl rfl) (Gm rfl (Bm 8 rfl rfl (fun q => AF rfl) (Bm 8 rfl rfl (fun q => AF rfl) (Bm 8 rfl rfl (fun q => BG rfl Tryz.underlying9 (Bh rfl q)) ?_)))))))
 refine Bm 8 rfl rfl (fun q => by have q1 := q; (try simp at q1); exact FK (Bh rfl q) rfl (IntWalk.i64_in _ (by omega))) ?_
 refine Bm 8 rfl rfl (fun q => by have q1 := q; (try simp at q1); exact Bk Tryz.underlying9 (Bh rfl q) (Bh rfl q) (by omega) (by omega)) ?_
 refine Bm 8 rfl rfl (fun q => AF rfl) (Bm 8 rfl rfl (fun q => Af (Bh rfl q) (Bh rfl q)) (Gt (BJ rfl rfl (fun h => h)) (Gn (.t3 0 1 16) ?_)))
 refine Gc (fun c1 => ?_) (fun c1 => ?_)
 ·
  have c1p := kz c1
  have hlt : 0 < r.length := by simp at c1; omega
  refine Aa ?_
  refine AB (.t2 0 1) ?_
  refine AA (Ae (AJ (Gm rfl (Gm rfl (Gt (BG rfl Tryz.underlying9 rfl) ?_)))))
  refine Gt (FK rfl rfl (IntWalk.i64_in _ (by omega))) ?_
  refine Gt (Ii Tryz.underlying9 rfl rfl (by omega) (by omega)) ?_
  refine Ga rfl ?_
  refine AQ (AB (.t2 0 1) ?_)
  refine AV ?_
  refine B4 _ ?_ ?_ (.t2 0 1) (.refl _)
  · exact ⟨by rw [hI11, Words.aW c1] <;> rfl, by first | (simp; done) | (simp; omega)⟩
  · first | (simp; done) | (simp; omega)
 refine Be (AX (AX (Aj ?_)))
 refine AB (.t1 0) ?_
 refine AA (Gs (Gm rfl (Ga rfl (Gn (.t1 4) (Ab ?_)))))
 refine AY rfl (.tmp rfl .n) ?_
 intro w1 hS; refine ⟨?_, hS.Am⟩; rw [hI11, Words.aV c1]; rfl
theorem Ex (s : Ap) (c : UInt8) (hs : s.length ≤ 10000000) (w : World) : Ef Tryz.prog 115 #[BT s, .int .u8 (c.toNat : Int)] w fun v w' => v = BT (Words.P5 c s) ∧ CA w w' := by
 refine Al [] [] Tryz.func115 rfl rfl rfl (St.start w []) ?_
 refine Gs (Ga rfl (Gn (.t2 0 1) (Ao (Ae ?_))))
 refine Bo (.t2 0 1) ?_
 refine CY (fun (r : Ap) => Words.P5 c s = Words.P5 c r ∧ r.length ≤ s.length) (fun (r : Ap) => r.length) (fun (r : Ap) => [(0, BT r)]) (fun (r : Ap) => []) (s) ?_ rfl rfl (fun r hI1 => ?_)
 · exact ⟨rfl, Nat.le_refl _⟩
 obtain ⟨hI11, hI12⟩ := hI1
 refine CD (Gm rfl (Gt (BG rfl Tryz.underlying9 rfl) (Gt (Ci rfl rfl) (Gm rfl (Bm 8 rfl rfl (fun q => AF rfl) ?_)))))
 refine Bm 8 rfl rfl (fun q => by have q1 := q; (try simp at q1); exact Bk Tryz.underlying9 (Bh rfl q) rfl (by decide) (by omega)) ?_
 refine Bm 8 rfl rfl (fun q => AF rfl) (Bm 8 rfl rfl (fun q => Af (Bh rfl q) (Bh rfl q)) (Gt (BJ rfl rfl (fun h => h)) (Gn (.t3 0 1 13) ?_)))
 refine Gc (fun c1 => ?_) (fun c1 => ?_)
 ·
  have c1p := kz c1
  have hlt : 0 < r.length := by simp at c1; omega
  refine Aa ?_
  refine AB (.t2 0 1) ?_
  refine AA (Ae (AJ (Gm rfl ?_)))
  refine Gt (GY Tryz.underlying9 rfl rfl (by decide) (by omega)) ?_
  refine Ga rfl ?_
  refine AQ (AB (.t2 0 1) ?_)
  refine AV ?_
  refine B4 _ ?_ ?_ (.t2 0 1) (.refl _)
  · exact ⟨by rw [hI11, Words.bd c1] <;> rfl, by first | (simp; done) | (simp; omega)⟩
  · first | (simp; done) | (simp; omega)
 refine Be (AX (AX (Aj ?_)))
 refine AB (.t1 0) ?_
 refine AA (Gs (Gm rfl (Ga rfl (Gn (.t1 4) (Ab ?_)))))
 refine AY rfl (.tmp rfl .n) ?_
 intro w1 hS; refine ⟨?_, hS.Am⟩; rw [hI11, Words.aU c1]; rfl
theorem Hw (s : Ap) (hs : s.length ≤ 10000000) (w : World) : Ef Tryz.prog 94 #[BT s, BT [32]] w fun v w' => v = BT (Words.P5 32 (Words.Re 32 s)) ∧ CA w w' := by
 refine Al [] [] Tryz.func94 rfl rfl rfl (St.start w []) ?_
 refine Gs (Ga rfl (Gn (.t2 0 1) (CD (Gm rfl (Gt (Bu rfl rfl) (Gm rfl (Bc 9 rfl rfl (fun q => AF rfl) ?_)))))))
 refine Bc 9 rfl rfl (fun q => Bu (cF rfl q) rfl) ?_
 refine Gt (BS rfl rfl (fun h => by rw [h]; rfl)) ?_
 refine Gn (.t3 0 1 12) ?_
 refine Gc (fun c1 => ?_) (fun c1 => ?_)
 ·
  refine Gs (Gm rfl (Ga rfl (Gn (.t1 4) (Ab (AD ?_)))))
  refine AY rfl (.tmp rfl .n) ?_
  intro w1 hS; refine ⟨?_, hS.Am⟩; have e : s = [] := by simpa using c1
  subst e; rfl
 have c1p := kz c1
 refine Aa ?_
 refine AB (.t2 0 1) ?_
 refine AA (CD (Gm rfl (Gt (BG rfl Tryz.underlying9 rfl) (Gt (Af rfl rfl) (Gm rfl (Bm 17 rfl rfl (fun q => AF rfl) ?_))))))
 refine Bm 17 rfl rfl (fun q => by have q1 := q; (try simp at q1); exact Bk Tryz.underlying9 (Bh rfl q) rfl (by decide) (by (try simp only [List.length_cons, List.length_nil]); omega)) ?_
 refine Bm 17 rfl rfl (fun q => A9 (Bh rfl q) rfl) (Gt (BJ rfl rfl (fun h => h)) (Gn (.t3 0 1 21) ?_))
 refine Gw rfl rfl ?_
 refine Ao ?_
 refine BD (N := 8) [0, 0, 2, 7, 0, 16, 63, 127] mix (by kernel_rfl) rfl ?_
 refine Pf 0 rfl (AF rfl) (Pf 1 rfl (AF rfl) ?_)
 refine Pf 2 rfl (Bk Tryz.underlying9 rfl rfl (by decide) (by (try simp only [List.length_cons, List.length_nil]); omega)) ?_
 refine BQ 3 rfl rfl (by kernel_rfl) (L1 (LD (D5 bb (.c rfl (.c rfl .n)) (fun w hS => HU _ 32 hs w)))) ?_
 refine Pf 4 rfl (AF rfl) ?_
 refine Pf 5 rfl (Bk Tryz.underlying9 rfl rfl (by decide) (by (try simp only [List.length_cons, List.length_nil]); omega)) ?_
 refine BQ 6 rfl rfl (by kernel_rfl) (L1 (LD (D5 Y9 (.c rfl (.c rfl .n)) (fun w hS => Ex _ 32 (by have := Words.QO 32 s; omega) w)))) ?_
 refine Pf 7 rfl (A0 rfl) ?_
 refine A3 (by kernel_rfl) ?_
 refine AB (.t1 4) ?_
 refine AA (Ab (AD ?_))
 refine AY rfl (.tmp rfl .n) ?_
 intro w1 hS; refine ⟨?_, hS.Am⟩; rfl
theorem KS (X : AG) (i : Int) (h0 : 0 ≤ i) (h9 : i < 9) (w : World) : Ef Tryz.prog 68 #[.agg X.enc.toArray, .int .i64 i] w fun v w' => v = .bool (X.Cd i) ∧ CA w w' := by
 refine Al [] [] Tryz.func68 rfl rfl rfl (St.start w []) ?_
 refine Gs ?_
 refine B3 rfl rfl rfl (fun b1 => ?_)
 refine Ga rfl (Gn (.t2 1 2) (Gs (Gm rfl (Gt (Ah Ce rfl) ?_))))
 refine Gt (AR FM rfl rfl (by omega) (by omega)) ?_
 refine Gt (AZ rfl Mo .m0 (AG.l1.comp (AU.ar (n := 9) Ag.fl (by omega))) rfl) ?_
 refine BF rfl KO rfl (fun b2 => ?_)
 refine AT (AK (AU.id Ag.fl.len Ag.fl.one) rfl rfl rfl Mr rfl .h) ?_
 refine Gn (.t2 2 5) (CD (Gt (Ah Fb rfl) (Gt (AH rfl A4 .m0 Ag.l1 rfl rfl) (Gt (A9 rfl rfl) (Gm rfl (Bc 15 rfl rfl (fun q => Ah Fb rfl) (Bc 15 rfl rfl (fun q => AH (cF rfl q) A4 .m0 Ag.l1 rfl rfl) ?_)))))))
 refine Bc 15 rfl rfl (fun q => Ci (cF rfl q) rfl) ?_
 refine Gt (BS rfl rfl (fun h => by rw [h]; rfl)) ?_
 refine Gm rfl (Bc 20 rfl rfl (fun q => Ah Fb rfl) (Bc 20 rfl rfl (fun q => AH (cF rfl q) A4 .m0 Ag.l1 rfl rfl) (Bc 20 rfl rfl (fun q => Af (cF rfl q) rfl) (Bc 20 rfl rfl (fun q => AF (cF rfl q)) ?_))))
 refine DJ (t := 24) rfl rfl rfl (fun qc q => Ah F8 rfl) ?_
 refine DJ (t := 24) rfl rfl rfl (fun qc q => AH (Bh rfl (by rw [qc, q]; rfl)) Dh .m0 Ag.l4 rfl rfl) ?_
 refine Bc 20 rfl rfl (fun q => BJ (cF rfl q) rfl (fun h => by rw [q, h]; rfl)) ?_
 refine Gt (BS rfl rfl (fun h => by rw [h]; rfl)) ?_
 refine Gm rfl (Bc 29 rfl rfl (fun q => Ah DF rfl) (Bc 29 rfl rfl (fun q => AH (cF rfl q) A4 .m0 Ag.l3 rfl rfl) (Bc 29 rfl rfl (fun q => A9 (cF rfl q) rfl) ?_)))
 refine Gt (BS rfl rfl (fun h => by rw [h]; rfl)) ?_
 refine Gn (.t3 2 5 33) ?_
 refine Gc (fun c1 => ?_) (fun c1 => ?_)
 ·
  refine Gs (Ga rfl (Gn (.t1 4) (Ab (AD ?_))))
  refine AY rfl (.tmp rfl .n) ?_
  intro w1 hS; refine ⟨congrArg Value.bool ?_, hS.Am⟩; simp only [AG.Cd, c1, ↓reduceIte, Bool.false_eq_true]
 have c1p := kz c1
 refine Aa ?_
 refine AB (.t2 2 5) ?_
 refine AA (Gs (Gt (Ah Fb rfl) (Gt (AH rfl A4 .m0 Ag.l1 rfl rfl) (Gt (Af rfl rfl) (Gm rfl (Bm 37 rfl rfl (fun q => Ah F8 rfl) (Bm 37 rfl rfl (fun q => AH (Bh rfl q) Dh .m0 Ag.l4 rfl rfl) ?_)))))))
 refine Gt (BJ rfl rfl (fun h => h)) (Ga rfl (Gn (.t3 2 5 6) (CD (Gt (Ah FL rfl) (Gt (AH rfl A4 .m0 Ag.l2 rfl rfl) (Gn (.t4 2 5 6 42) (Ae ?_)))))))
 refine Gs (Gt (Af rfl rfl) (Ga rfl (Gn (.t5 2 5 6 42 43) ?_)))
 refine Gc (fun c2 => ?_) (fun c2 => ?_)
 ·
  refine Gs (Gt (Ah DF rfl) (Gt (AH rfl A4 .m0 Ag.l3 rfl rfl) (Gt (A9 rfl rfl) (Gm rfl (Bm 48 rfl rfl (fun q => AF rfl) (Bm 48 rfl rfl (fun q => BX (Bh rfl q)) (Gt (BJ rfl rfl (fun h => h)) ?_)))))))
  refine Ga rfl (Gn (.t1 4) (Ab (AS (AD ?_))))
  refine AY rfl (.tmp rfl .n) ?_
  intro w1 hS; refine ⟨congrArg Value.bool ?_, hS.Am⟩; simp only [AG.Cd, c1, c2, ↓reduceIte, Bool.false_eq_true]
 have c2p := kz c2
 refine Gs (Gt (Af rfl rfl) (Ga rfl (Gn (.t5 2 5 6 42 52) ?_)))
 refine Gc (fun c3 => ?_) (fun c3 => ?_)
 ·
  have c3p := kz c3
  refine Gs (Gt (Ah DF rfl) (Gt (AH rfl A4 .m0 Ag.l3 rfl rfl) (Gt (A9 rfl rfl) (Gm rfl (Bm 57 rfl rfl (fun q => Ah DF rfl) (Bm 57 rfl rfl (fun q => AH (Bh rfl q) A4 .m0 Ag.l3 rfl rfl) (Bm 57 rfl rfl (fun q => Ah Bn rfl) ?_)))))))
  refine Bm 57 rfl rfl (fun q => by have q1 := q; (try simp at q1); exact AR C4 (Bh rfl q) (Bh rfl q) (by omega) (by omega)) ?_
  refine Bm 57 rfl rfl (fun q => Ah H5 (Bh rfl q)) ?_
  refine Bm 57 rfl rfl (fun q => by have q1 := q; (try simp at q1); exact AH (Bh rfl q) Dh .m1 ((AG.l2.comp (AU.ar (n := 6) Ak.fl (by omega))).comp Ak.l1) rfl rfl) ?_
  refine Gt (BJ rfl rfl (fun h => h)) (Ga rfl (Gn (.t1 4) (Ab (AS (AD ?_)))))
  refine AY rfl (.tmp rfl .n) ?_
  intro w1 hS; refine ⟨congrArg Value.bool ?_, hS.Am⟩; simp only [AG.Cd, c1, c2, c3, ↓reduceIte, Bool.false_eq_true]
 have c3p := kz c3
 refine Gs (Gt (Af rfl rfl) (Ga rfl (Gn (.t4 2 5 6 65) ?_)))
 refine Gc (fun c4 => ?_) (fun c4 => ?_)
 ·
  have c4p := kz c4
  refine CD (Gt (Ah DF rfl) (Gt (AH rfl A4 .m0 Ag.l3 rfl rfl) (Gt (CM rfl rfl) (Gm rfl (Bc 70 rfl rfl (fun q => Ah DF rfl) (Bc 70 rfl rfl (fun q => AH (cF rfl q) A4 .m0 Ag.l3 rfl rfl) (Bc 70 rfl rfl (fun q => Ah Ce rfl) ?_)))))))
  refine Bc 70 rfl rfl (fun q => by have q1 := q; (try simp at q1); exact AR FM (cF rfl q) (cF rfl q) (by omega) (by omega)) ?_
  refine Bc 70 rfl rfl (fun q => Ah Fb (cF rfl q)) ?_
  refine Bc 70 rfl rfl (fun q => by have q1 := q; (try simp at q1); exact AH (cF rfl q) A4 .m1 ((AG.l1.comp (AU.ar (n := 9) Ag.fl (by omega))).comp Ag.l1) rfl rfl) ?_
  refine Bc 70 rfl rfl (fun q => Cg (cF rfl q) rfl) ?_
  refine Gt (BS rfl rfl (fun h => by rw [h]; rfl)) ?_
  refine Gm rfl (Bc 79 rfl rfl (fun q => AF rfl) ?_)
  refine Gt (BS rfl rfl (fun h => by rw [h]; rfl)) ?_
  refine Gn (.t3 2 5 81) ?_
  refine Gc (fun c5 => ?_) (fun c5 => ?_)
  ·
   refine Gs (Ga rfl (Gn (.t1 4) (Ab (AD (AS (AD ?_))))))
   refine AY rfl (.tmp rfl .n) ?_
   intro w1 hS; refine ⟨congrArg Value.bool ?_, hS.Am⟩; simp only [AG.Cd, c1, c2, c3, c4, c5, ↓reduceIte, Bool.false_eq_true]
  have c5p := kz c5
  refine Aa ?_
  refine AB (.t2 2 5) ?_
  refine AA (Gs (Gm rfl (AQ (AA (Ae ?_)))))
  refine Bo (.t3 82 2 5) ?_
  refine HS (fun (k : Int) (t : Ag) => 0 ≤ k ∧ k ≤ 10 ∧ X.Cd i = X.Ja (10 - k).toNat t) (fun (k : Int) (t : Ag) => (10 - k).toNat) (fun (k : Int) (t : Ag) => [(82, .int .i64 k)]) (fun (k : Int) (t : Ag) => [Ad.box b2 29 (Ag.enc t)]) (0) (X.AL.at i) ?_ rfl rfl (fun k t hI1 => ?_)
  · refine ⟨Int.le_refl _, by omega, ?_⟩; simp only [AG.Cd, c1, c2, c3, c4, c5, ↓reduceIte, Bool.false_eq_true]; rfl
  obtain ⟨hI11, hI12, hI13⟩ := hI1
  refine Gs (Gt (A9 rfl rfl) (AQ (AA (Ao ?_))))
  refine Gc (fun c6 => ?_) (fun c6 => ?_)
  ·
   have c6p := kz c6
   rw [show (10 - k).toNat = (10 - (k + 1)).toNat + 1 from by omega, AG.Ja, show decide ((10 - (k + 1)).toNat = 0) = decide (k = 9) from decide_eq_decide.2 ⟨by omega, by omega⟩] at hI13
   refine Aa ?_
   refine AB (.t3 2 5 82) ?_
   refine AA (Ao (Ae (Gs (Gm rfl (Ga rfl (Gn (.t4 2 5 7 82) (CD ?_)))))))
   refine Gt (Ah FL rfl) (Gt (AH rfl A4 .m0 Ag.l2 rfl rfl) (Gt (Cg rfl rfl) (Gn (.t5 2 5 7 82 87) ?_)))
   refine Gc (fun c7 => ?_) (fun c7 => ?_)
   ·
    refine Gs (Ga rfl (Gn (.t1 4) (Ab (AD (AS (AD (AD ?_)))))))
    refine AS (AS (AD ?_))
    refine AY rfl (.tmp rfl .n) ?_
    intro w1 hS; refine ⟨congrArg Value.bool ?_, hS.Am⟩; rw [hI13]; simp only [c1, c2, c3, c4, c5, c6, c7, ↓reduceIte, Bool.false_eq_true]
   have c7p := kz c7
   refine Aa ?_
   refine AB (.t4 2 5 7 82) ?_
   refine AA (CD (Gm rfl (Gt (Af rfl rfl) (Gm rfl (Bc 90 rfl rfl (fun q => Ah DF rfl) (Bc 90 rfl rfl (fun q => AH (cF rfl q) A4 .m0 Ag.l3 rfl rfl) (Bc 90 rfl rfl (fun q => A9 (cF rfl q) rfl) ?_)))))))
   refine Gt (BS rfl rfl (fun h => by rw [h]; rfl)) ?_
   refine Gm rfl (Bc 95 rfl rfl (fun q => Ah DF rfl) (Bc 95 rfl rfl (fun q => AH (cF rfl q) A4 .m0 Ag.l3 rfl rfl) (Bc 95 rfl rfl (fun q => CM (cF rfl q) rfl) ?_)))
   refine Gt (BS rfl rfl (fun h => by rw [h]; rfl)) ?_
   refine Gn (.t4 2 5 82 99) ?_
   refine Gc (fun c8 => ?_) (fun c8 => ?_)
   ·
    refine Gs (Ga rfl (Gn (.t1 4) (Ab (AD (AS (AD (AD ?_)))))))
    refine AS (AS (AD ?_))
    refine AY rfl (.tmp rfl .n) ?_
    intro w1 hS; refine ⟨congrArg Value.bool ?_, hS.Am⟩; rw [hI13]; simp only [c1, c2, c3, c4, c5, c6, c7, c8, ↓reduceIte, Bool.false_eq_true]
   have c8p := kz c8
   refine Aa ?_
   refine AB (.t3 2 5 82) ?_
   refine AA (AJ (Gt (Ah DF rfl) (Gt (AH rfl A4 .m0 Ag.l3 rfl rfl) (Gt (Ah Ce rfl) ?_))))
   refine Gt (AR FM rfl rfl (by omega) (by omega)) ?_
   refine Gt (AZ rfl Mo .m1 (AG.l1.comp (AU.ar (n := 9) Ag.fl (by omega))) rfl) ?_
   refine AT (AK (AU.id Ag.fl.len Ag.fl.one) rfl rfl rfl Mr rfl .h) ?_
   refine AQ (AB (.t3 2 5 82) ?_)
   refine AV (AA (AJ ?_))
   refine Gt (Au rfl rfl (IntWalk.i64_in _ (by omega))) ?_
   refine Gm rfl ?_
   refine AQ (AB (.t3 2 5 82) ?_)
   refine Da (k + 1) (X.AL.at t.at_) ?_ ?_ (.t3 82 2 5) (.refl _)
   · exact ⟨by omega, by omega, by rw [hI13]; simp only [c1, c2, c3, c4, c5, c6, c7, c8, ↓reduceIte, Bool.false_eq_true]⟩
   · omega
  have c6p := kz c6
  obtain rfl : k = 10 := by omega
  refine Be (AX (AX (Aj ?_)))
  refine AB (.nil _) ?_
  refine AV (AA (Gs (Ga rfl (AQ (AA (Ab ?_))))))
  refine AY rfl (.tmp rfl .n) ?_
  intro w1 hS; refine ⟨congrArg Value.bool ?_, hS.Am⟩; rw [hI13]; rfl
 refine Aa ?_
 refine AB (.nil _) ?_
 refine AV (AA (Gs (Ga rfl (AQ (AA (Ab ?_))))))
 refine AY rfl (.tmp rfl .n) ?_
 intro w1 hS; refine ⟨congrArg Value.bool ?_, hS.Am⟩; simp only [AG.Cd, c1, c2, c3, c4, ↓reduceIte, Bool.false_eq_true]
theorem Hb (X : AG) (w : World) : Ef Tryz.prog 43 #[.agg X.enc.toArray] w fun v w' => v = .bool X.BZ ∧ CA w w' := by
 refine Al [] [] Tryz.func43 rfl rfl rfl (St.start w []) ?_
 refine Gs ?_
 refine B3 rfl rfl rfl (fun b1 => ?_)
 refine Ga rfl (Gn (.t1 1) (CD (Gt (Ah Gz rfl) (Gt (AZ rfl bc .m0 AG.l0 rfl) (Gm rfl (Gn (.t3 1 11 12) (Ae ?_)))))))
 refine Bo (.t3 12 1 11) ?_
 refine CY (fun (k : Int) => 0 ≤ k ∧ k ≤ 6 ∧ X.BZ = (B5 6 X.LX (6 - k).toNat && (B5 6 (fun k => !AG.DM (X.AN.at k)) 6 && B5 9 X.Cd 9))) (fun (k : Int) => (6 - k).toNat) (fun (k : Int) => [(12, .int .i64 k)]) (fun (k : Int) => []) (0) ?_ rfl rfl (fun k hI1 => ?_)
 · exact ⟨Int.le_refl _, by omega, rfl⟩
 obtain ⟨hI11, hI12, hI13⟩ := hI1
 refine Gs (Gt (A9 rfl rfl) (AQ (AA (Ao ?_))))
 refine Gc (fun c1 => ?_) (fun c1 => ?_)
 ·
  have c1p := kz c1
  rw [DT _ (by omega)] at hI13
  refine Aa ?_
  refine AB (.t3 1 11 12) ?_
  refine AA (Ao (Ae (Gs ?_)))
  refine Gt (GA Room.fl Tryz.underlying27 N5 rfl rfl (by omega) (by omega)) ?_
  refine BF rfl Nc rfl (fun b2 => ?_)
  refine AT (AK (AU.id Room.fl.len Room.fl.one) rfl rfl rfl QW rfl .h) ?_
  refine Gn (.t4 1 4 11 12) (Gs (Gt (Ah L9 rfl) (Gt (AZ rfl ZA .m0 Room.l2 rfl) (Gm rfl (Gn (.t6 1 4 11 12 16 17) (Ae ?_))))))
  refine Bo (.t6 17 1 4 11 12 16) ?_
  refine CY (fun (d : Int) => 0 ≤ d ∧ d ≤ 6 ∧ X.LX k = B5 6 (fun d => !AG.Hz (X.BR.at k) d) (6 - d).toNat) (fun (d : Int) => (6 - d).toNat) (fun (d : Int) => [(17, .int .i64 d)]) (fun (d : Int) => []) (0) ?_ rfl rfl (fun d hI2 => ?_)
  · exact ⟨Int.le_refl _, by omega, rfl⟩
  obtain ⟨hI21, hI22, hI23⟩ := hI2
  refine Gs (Gt (A9 rfl rfl) (AQ (AA (Ao ?_))))
  refine Gc (fun c2 => ?_) (fun c2 => ?_)
  ·
   have c2p := kz c2
   rw [DT _ (by omega)] at hI23
   refine Aa ?_
   refine AB (.t6 1 4 11 12 16 17) ?_
   refine AA (Ao (Ae (Gs (Gm rfl ?_))))
   refine Gt (KG B1 Tryz.underlying23 C9 A4 rfl rfl (by omega) (by omega) rfl) ?_
   refine Ga rfl (Ga rfl (Gn (.t8 1 4 5 6 11 12 16 17) (Gs (Gm rfl (Gt (A9 rfl rfl) (Gm rfl (Bc 23 rfl rfl (fun q => AF rfl) ?_)))))))
   refine Bc 23 rfl rfl (fun q => Ci (cF rfl q) rfl) ?_
   refine Gt (BS rfl rfl (fun h => by rw [h]; rfl)) ?_
   refine Gm rfl (Bc 27 rfl rfl (fun q => AF rfl) (Bc 27 rfl rfl (fun q => Af (cF rfl q) rfl) (Bc 27 rfl rfl (fun q => AF (cF rfl q)) ?_)))
   refine DJ (t := 30) rfl rfl rfl (fun qc q => AF rfl) ?_
   refine DJ (t := 30) rfl rfl rfl (fun qc q => Ah MV rfl) ?_
   refine DJ (t := 30) rfl rfl rfl (fun qc q => by have q1 := q; have qc1 := qc; (try simp at q1 qc1); exact AR Vy (Bh rfl (by rw [qc, q]; rfl)) (Bh rfl (by rw [qc, q]; rfl)) (by omega) (by omega)) ?_
   refine DJ (t := 30) rfl rfl rfl (fun qc q => by have q1 := q; have qc1 := qc; (try simp at q1 qc1); exact AH (Bh rfl (by rw [qc, q]; rfl)) Dh .m0 (Room.l3.comp (AU.ar (n := 6) HE (by omega))) rfl rfl) ?_
   refine Bc 27 rfl rfl (fun q => BJ (cF rfl q) rfl (fun h => by rw [q, h]; rfl)) ?_
   refine Gt (BS rfl rfl (fun h => by rw [h]; rfl)) ?_
   refine Gn (.t7 1 4 11 12 16 17 36) ?_
   refine Gc (fun c3 => ?_) (fun c3 => ?_)
   ·
    refine Gs (Ga rfl (Gn (.t1 2) (Ab (AS (AD (AD (AS ?_)))))))
    refine AS (AD (AD (AS (AD ?_))))
    refine AY rfl (.tmp rfl .n) ?_
    intro w1 hS; refine ⟨congrArg Value.bool ?_, hS.Am⟩; rw [hI13, hI23, AG.Hz, c3]; rfl
   have c3p := kz c3
   refine Aa ?_
   refine AB (.t6 1 4 11 12 16 17) ?_
   refine AV (AA (AJ ?_))
   refine Gt (Au rfl rfl (IntWalk.i64_in _ (by omega))) ?_
   refine Gm rfl ?_
   refine AQ (AB (.t6 1 4 11 12 16 17) ?_)
   refine B4 (d + 1) ?_ ?_ (.t6 17 1 4 11 12 16) (.refl _)
   · exact ⟨by omega, by omega, by rw [hI23, AG.Hz, c3]; rfl⟩
   · omega
  have c2p := kz c2
  obtain rfl : d = 6 := by omega
  refine Be (AX (AX (Aj ?_)))
  refine AB (.t3 1 11 12) ?_
  refine AV (AA (AJ ?_))
  refine Gt (Au rfl rfl (IntWalk.i64_in _ (by omega))) ?_
  refine Gm rfl ?_
  refine AQ (AB (.t3 1 11 12) ?_)
  refine B4 (k + 1) ?_ ?_ (.t3 12 1 11) (.cons _ (.refl _))
  · exact ⟨by omega, by omega, by rw [hI13, hI23]; rfl⟩
  · omega
 have c1p := kz c1
 obtain rfl : k = 6 := by omega
 refine Be (AX (AX (Aj ?_)))
 refine AB (.t1 1) ?_
 refine AA (CD (Gt (Ah Bn rfl) (Gt (AZ rfl Yq .m0 AG.l2 rfl) (Gm rfl (Gn (.t3 1 40 41) (Ae ?_))))))
 refine Bo (.t3 41 1 40) ?_
 refine CY (fun (b : Int) => 0 ≤ b ∧ b ≤ 6 ∧ X.BZ = (B5 6 (fun k => !AG.DM (X.AN.at k)) (6 - b).toNat && B5 9 X.Cd 9)) (fun (b : Int) => (6 - b).toNat) (fun (b : Int) => [(41, .int .i64 b)]) (fun (b : Int) => []) (0) ?_ rfl rfl (fun b hI3 => ?_)
 · exact ⟨Int.le_refl _, by omega, hI13⟩
 obtain ⟨hI31, hI32, hI33⟩ := hI3
 refine Gs (Gt (A9 rfl rfl) (AQ (AA (Ao ?_))))
 refine Gc (fun c4 => ?_) (fun c4 => ?_)
 ·
  have c4p := kz c4
  rw [DT _ (by omega)] at hI33
  refine Aa ?_
  refine AB (.t3 1 40 41) ?_
  refine AA (Ao (Ae (Gs ?_)))
  refine Gt (GA Ak.fl Tryz.underlying33 Fi rfl rfl (by omega) (by omega)) ?_
  refine BF rfl LZ rfl (fun b3 => ?_)
  refine AT (AK (AU.id Ak.fl.len Ak.fl.one) rfl rfl rfl KR rfl .h) ?_
  refine Gn (.t4 1 8 40 41) (Gs (Gt (Ah Cy rfl) (Gt (AH rfl A4 .m0 Ak.l3 rfl rfl) (Gt (A9 rfl rfl) (Gm rfl (Bc 47 rfl rfl (fun q => Ah Cy rfl) (Bc 47 rfl rfl (fun q => AH (cF rfl q) A4 .m0 Ak.l3 rfl rfl) ?_)))))))
  refine Bc 47 rfl rfl (fun q => CM (cF rfl q) rfl) ?_
  refine Gt (BS rfl rfl (fun h => by rw [h]; rfl)) ?_
  refine Gm rfl (Bc 52 rfl rfl (fun q => Ah Jm rfl) (Bc 52 rfl rfl (fun q => AH (cF rfl q) A4 .m0 Ak.l4 rfl rfl) (Bc 52 rfl rfl (fun q => A9 (cF rfl q) rfl) ?_)))
  refine Gt (BS rfl rfl (fun h => by rw [h]; rfl)) ?_
  refine Gm rfl (Bc 57 rfl rfl (fun q => Ah Jm rfl) (Bc 57 rfl rfl (fun q => AH (cF rfl q) A4 .m0 Ak.l4 rfl rfl) (Bc 57 rfl rfl (fun q => Ci (cF rfl q) rfl) ?_)))
  refine Gt (BS rfl rfl (fun h => by rw [h]; rfl)) ?_
  refine Gm rfl (Bc 62 rfl rfl (fun q => Ah GD rfl) (Bc 62 rfl rfl (fun q => AH (cF rfl q) A4 .m0 Ak.l5 rfl rfl) (Bc 62 rfl rfl (fun q => A9 (cF rfl q) rfl) ?_)))
  refine Gt (BS rfl rfl (fun h => by rw [h]; rfl)) ?_
  refine Gm rfl (Bc 67 rfl rfl (fun q => Ah GD rfl) (Bc 67 rfl rfl (fun q => AH (cF rfl q) A4 .m0 Ak.l5 rfl rfl) (Bc 67 rfl rfl (fun q => Ci (cF rfl q) rfl) ?_)))
  refine Gt (BS rfl rfl (fun h => by rw [h]; rfl)) ?_
  refine Gm rfl (Bc 72 rfl rfl (fun q => Ah H5 rfl) (Bc 72 rfl rfl (fun q => AH (cF rfl q) Dh .m0 Ak.l1 rfl rfl) (Bc 72 rfl rfl (fun q => BX (cF rfl q)) (Bc 72 rfl rfl (fun q => AF (cF rfl q)) ?_))))
  refine DJ (t := 76) rfl rfl rfl (fun qc q => Ah GD rfl) ?_
  refine DJ (t := 76) rfl rfl rfl (fun qc q => AH (Bh rfl (by rw [qc, q]; rfl)) A4 .m0 Ak.l5 rfl rfl) ?_
  refine DJ (t := 76) rfl rfl rfl (fun qc q => Cg (Bh rfl (by rw [qc, q]; rfl)) rfl) ?_
  refine Bc 72 rfl rfl (fun q => BJ (cF rfl q) rfl (fun h => by rw [q, h]; rfl)) ?_
  refine Gt (BS rfl rfl (fun h => by rw [h]; rfl)) ?_
  refine Gm rfl (Bc 82 rfl rfl (fun q => Ah H5 rfl) (Bc 82 rfl rfl (fun q => AH (cF rfl q) Dh .m0 Ak.l1 rfl rfl) (Bc 82 rfl rfl (fun q => Ah Jm rfl) (Bc 82 rfl rfl (fun q => AH (cF rfl q) A4 .m0 Ak.l4 rfl rfl) (Bc 82 rfl rfl (fun q => Ci (cF rfl q) rfl) (Bc 82 rfl rfl (fun q => Jr Tryz.underlying4 (cF rfl q) (cF rfl q)) ?_))))))
  refine Gt (BS rfl rfl (fun h => by rw [h]; rfl)) ?_
  refine Gn (.t4 1 40 41 89) ?_
  refine Gc (fun c5 => ?_) (fun c5 => ?_)
  ·
   refine Gs (Ga rfl (Gn (.t1 2) (Ab (AS (AD (AD (AS ?_)))))))
   refine AD ?_
   refine AY rfl (.tmp rfl .n) ?_
   intro w1 hS; refine ⟨congrArg Value.bool ?_, hS.Am⟩; rw [hI33, AG.DM, c5]; rfl
  have c5p := kz c5
  refine Aa ?_
  refine AB (.t3 1 40 41) ?_
  refine AV (AA (AJ ?_))
  refine Gt (Au rfl rfl (IntWalk.i64_in _ (by omega))) ?_
  refine Gm rfl ?_
  refine AQ (AB (.t3 1 40 41) ?_)
  refine B4 (b + 1) ?_ ?_ (.t3 41 1 40) (.cons _ (.refl _))
  · exact ⟨by omega, by omega, by rw [hI33, AG.DM, c5]; rfl⟩
  · omega
 have c4p := kz c4
 obtain rfl : b = 6 := by omega
 refine Be (AX (AX (Aj ?_)))
 refine AB (.t1 1) ?_
 refine AA (CD (Gm rfl (AQ (AA (Ae ?_)))))
 refine Bo (.t2 91 1) ?_
 refine CY (fun (t : Int) => 0 ≤ t ∧ t ≤ 9 ∧ X.BZ = B5 9 X.Cd (9 - t).toNat) (fun (t : Int) => (9 - t).toNat) (fun (t : Int) => [(91, .int .i64 t)]) (fun (t : Int) => []) (0) ?_ rfl rfl (fun t hI4 => ?_)
 · exact ⟨Int.le_refl _, by omega, hI33⟩
 obtain ⟨hI41, hI42, hI43⟩ := hI4
 refine Gs (Gt (A9 rfl rfl) (AQ (AA (Ao ?_))))
 refine Gc (fun c6 => ?_) (fun c6 => ?_)
 ·
  have c6p := kz c6
  rw [DT _ (by omega)] at hI43
  refine Aa ?_
  refine AB (.t2 1 91) ?_
  refine AA (Ao (Ae (Gs (Gm rfl (Ga rfl (Gn (.t3 1 9 91) (Gs ?_)))))))
  refine Gt (AZ rfl BU .m0 (AU.id AG.fl.len AG.fl.one) rfl) (Gm rfl ?_)
  refine BA rfl cr (.c rfl (.c rfl .n)) (fun w hS => KS X _ (by omega) (by omega) w) ?_
  refine Gt (BX rfl) (Gn (.t3 1 91 97) ?_)
  refine Gc (fun c7 => ?_) (fun c7 => ?_)
  ·
   refine Gs (Ga rfl (Gn (.t1 2) (Ab (AS (AD (AD (AS ?_)))))))
   refine AD ?_
   refine AY rfl (.tmp rfl .n) ?_
   intro w1 hS; refine ⟨congrArg Value.bool ?_, hS.Am⟩; rw [hI43, show X.Cd t = false by simpa using c7]; rfl
  have c7p := kz c7
  refine Aa ?_
  refine AB (.t2 1 91) ?_
  refine AV (AA (AJ ?_))
  refine Gt (Au rfl rfl (IntWalk.i64_in _ (by omega))) ?_
  refine Gm rfl ?_
  refine AQ (AB (.t2 1 91) ?_)
  refine B4 (t + 1) ?_ ?_ (.t2 91 1) (.refl _)
  · exact ⟨by omega, by omega, by rw [hI43, show X.Cd t = true by simpa using c7]; rfl⟩
  · omega
 have c6p := kz c6
 obtain rfl : t = 9 := by omega
 refine Be (AX (AX (Aj ?_)))
 refine AB (.nil _) ?_
 refine AA (Gs (Ga rfl (AQ (AA (Ab ?_)))))
 refine AY rfl (.tmp rfl .n) ?_
 intro w1 hS; refine ⟨congrArg Value.bool ?_, hS.Am⟩; rw [hI43]; rfl
theorem ME (s : Ap) (hs : s.length ≤ 100000000) (w : World) : Ef Tryz.prog 46 #[BT s] w fun v w' => v = .bool (AE.FE s) ∧ CA w w' := by
 refine Al [] [] Tryz.func46 rfl rfl rfl (St.start w []) ?_
 refine Gs (Ga rfl (Gn (.t1 0) (CD (Gm rfl (Gt (BG rfl Tryz.underlying9 rfl) (Gm rfl (Gn (.t3 0 5 6) ?_)))))))
 refine Ae ?_
 refine Bo (.t3 6 0 5) ?_
 refine CY (fun (k : Int) => 0 ≤ k ∧ k ≤ (s.length : Int) ∧ AE.Hf s 0 = AE.Hf s k.toNat) (fun (k : Int) => ((s.length : Int) - k).toNat) (fun (k : Int) => [(6, .int .i64 k)]) (fun (k : Int) => []) (0) ?_ rfl rfl (fun k hI1 => ?_)
 · exact ⟨by omega, by omega, rfl⟩
 obtain ⟨hI11, hI12, hI13⟩ := hI1
 refine Gs (Gt (A9 rfl rfl) (AQ (AA (Ao ?_))))
 refine Gc (fun c1 => ?_) (fun c1 => ?_)
 ·
  have c1p := kz c1
  have hst := AE.U9 (s := s) hI11 (by omega)
  refine Aa ?_
  refine AB (.t3 0 5 6) ?_
  refine AA (Ao (Ae (Gs (Gm rfl (Ga rfl (Gn (.t4 0 3 5 6) (Gs ?_)))))))
  refine Gm rfl (Gm rfl ?_)
  refine Gt (Bk Tryz.underlying9 rfl rfl (by omega) (by omega)) ?_
  refine Gt (A9 rfl rfl) (Gm rfl (Bc 13 rfl rfl (fun q => AF rfl) (Bc 13 rfl rfl (fun q => AF rfl) ?_)))
  refine Bc 13 rfl rfl (fun q => by have q1 := q; (try simp at q1); exact Bk Tryz.underlying9 (cF rfl q) (cF rfl q) (by omega) (by omega)) ?_
  refine Bc 13 rfl rfl (fun q => Ci (cF rfl q) rfl) ?_
  refine Gt (BS rfl rfl (fun h => by rw [h]; rfl)) ?_
  refine Gn (.t4 0 5 6 18) ?_
  refine Gc (fun c2 => ?_) (fun c2 => ?_)
  ·
   rw [show AE.low (s.getD k.toNat 0) = true from c2] at hst
   refine Gs (Ga rfl (Gn (.t1 2) (Ab (AS (AD (AD (AS ?_)))))))
   refine AD ?_
   refine AY rfl (.tmp rfl .n) ?_
   intro w1 hS; refine ⟨?_, hS.Am⟩; exact congrArg Value.bool (by rw [AE.FE, hI13, hst]; rfl)
  have c2p := kz c2
  rw [show AE.low (s.getD k.toNat 0) = false from c2] at hst
  refine Aa ?_
  refine AB (.t3 0 5 6) ?_
  refine AV (AA (AJ ?_))
  refine Gt (Au rfl rfl (IntWalk.i64_in _ (by omega))) ?_
  refine Gm rfl ?_
  refine AQ (AB (.t3 0 5 6) ?_)
  refine B4 (k + 1) ?_ ?_ (.t3 6 0 5) (.refl _)
  · exact ⟨by omega, by omega, by rw [hI13, hst]; rfl⟩
  · omega
 have c1p := kz c1
 obtain rfl : k = (s.length : Int) := by omega
 rw [AE.WV] at hI13
 refine Be (AX (AX (Aj ?_)))
 refine AB (.t1 0) ?_
 refine AA (Gs (Gm rfl (Gt (BG rfl Tryz.underlying9 rfl) (Gt (CM rfl rfl) (Gm rfl (Bm 23 rfl rfl (fun q => AF rfl) (Bm 23 rfl rfl (fun q => BG rfl Tryz.underlying9 (Bh rfl q)) ?_)))))))
 refine Bm 23 rfl rfl (fun q => H3 (Bh rfl q) rfl) (Gt (BJ rfl rfl (fun h => h)) (Gm rfl (Bm 28 rfl rfl (fun q => AF rfl) (Bm 28 rfl rfl (fun q => Df (Bh rfl q) rfl) (Gt (BJ rfl rfl (fun h => h)) (Gm rfl (Bm 32 rfl rfl (fun q => AF rfl) ?_)))))))
 refine Bm 32 rfl rfl (fun q => Df (Bh rfl q) rfl) (Gt (BJ rfl rfl (fun h => h)) (Ga rfl (Gn (.t1 2) (Ab ?_))))
 refine AY rfl (.tmp rfl .n) ?_
 intro w1 hS; refine ⟨?_, hS.Am⟩; exact congrArg Value.bool (by rw [AE.FE, hI13]; simp only [Bool.true_and]; rfl)
theorem F6 (X : AG) (b : Int) (w : World) : Ef Tryz.prog 159 #[.agg X.enc.toArray, .int .i64 b] w fun v w' => v = .bool (X.Ay b) ∧ CA w w' := by
 refine Al [] [] Tryz.func159 rfl rfl rfl (St.start w []) ?_
 refine Gs ?_
 refine B3 rfl rfl rfl (fun b1 => ?_)
 refine Ga rfl (Gn (.t2 1 2) (Gs (Gm rfl (Gt (CM rfl rfl) (Gm rfl (Bm 7 rfl rfl (fun q => AF rfl) (Bm 7 rfl rfl (fun q => A9 (Bh rfl q) rfl) ?_)))))))
 refine Gt (BJ rfl rfl (fun h => h)) (Gm rfl (Bm 11 rfl rfl (fun q => AF rfl) (Bm 11 rfl rfl (fun q => Ah Bn rfl) ?_)))
 refine Bm 11 rfl rfl (fun q => by have q1 := q; (try simp at q1); exact AR C4 (Bh rfl q) (Bh rfl q) (by omega) (by omega)) ?_
 refine Bm 11 rfl rfl (fun q => Ah H5 (Bh rfl q)) ?_
 refine Bm 11 rfl rfl (fun q => by have q1 := q; (try simp at q1); exact AH (Bh rfl q) Dh .m0 ((AG.l2.comp (AU.ar (n := 6) Ak.fl (by omega))).comp Ak.l1) rfl rfl) ?_
 refine Gt (BJ rfl rfl (fun h => h)) (Ga rfl (Gn (.t1 4) (Ab ?_)))
 refine AY rfl (.tmp rfl .n) ?_
 intro w1 hS; refine ⟨?_, hS.Am⟩; rfl
theorem EV (X : AG) (r : Int) (w : World) : Ef Tryz.prog 129 #[.agg X.enc.toArray, .int .i64 r] w fun v w' => v = .bool (X.HJ r) ∧ CA w w' := by
 refine Al [] [] Tryz.func129 rfl rfl rfl (St.start w []) ?_
 refine Gs ?_
 refine B3 rfl rfl rfl (fun b1 => ?_)
 refine Ga rfl (Gn (.t2 1 2) (CD (Gm rfl (Gt (A9 rfl rfl) (Gm rfl (Bc 11 rfl rfl (fun q => AF rfl) (Bc 11 rfl rfl (fun q => CM (cF rfl q) rfl) ?_)))))))
 refine Gt (BS rfl rfl (fun h => by rw [h]; rfl)) ?_
 refine Gn (.t3 1 2 14) ?_
 refine Gc (fun c1 => ?_) (fun c1 => ?_)
 ·
  refine Gs (Ga rfl (Gn (.t1 4) (Ab (AD ?_))))
  refine AY rfl (.tmp rfl .n) ?_
  intro w1 hS; refine ⟨congrArg Value.bool ?_, hS.Am⟩; rw [show X.HJ r = _ from BB c1]
 have c1p := kz c1
 have hr : 0 ≤ r ∧ r < 6 := by simp at c1; omega
 refine Aa ?_
 refine AB (.t2 1 2) ?_
 refine AA (CD (Gm rfl (Gt (Ah Gz rfl) ?_)))
 refine Gt (AR N9 rfl rfl (by omega) (by omega)) ?_
 refine Gt (Ah ZU rfl) ?_
 refine Gt (AH rfl Dh .m0 ((AG.l0.comp (AU.ar (n := 6) Room.fl (by omega))).comp Room.l1) rfl rfl) ?_
 refine Gt (BX rfl) (Gn (.t3 1 2 20) ?_)
 refine Gc (fun c2 => ?_) (fun c2 => ?_)
 ·
  refine Gs (Ga rfl (Gn (.t1 4) (Ab (AD ?_))))
  refine AY rfl (.tmp rfl .n) ?_
  intro w1 hS; refine ⟨congrArg Value.bool ?_, hS.Am⟩; rw [show X.HJ r = _ from (AW c1).trans (BB c2)]
 have c2p := kz c2
 refine Aa ?_
 refine AB (.t2 1 2) ?_
 refine AA (CD (Gt (Ah Ce rfl) (Gt (AZ rfl We .m0 AG.l1 rfl) (Gm rfl (Gn (.t4 1 2 22 23) (Ae ?_))))))
 refine Bo (.t4 23 1 2 22) ?_
 refine CY (fun (k : Int) => 0 ≤ k ∧ k ≤ 9 ∧ B5 9 (fun i => !X.lit r i) 9 = B5 9 (fun i => !X.lit r i) (9 - k).toNat) (fun (k : Int) => (9 - k).toNat) (fun (k : Int) => [(23, .int .i64 k)]) (fun (k : Int) => []) (0) ?_ rfl rfl (fun k hI1 => ?_)
 · exact ⟨by omega, by omega, rfl⟩
 obtain ⟨hI11, hI12, hI13⟩ := hI1
 refine Gs (Gt (A9 rfl rfl) (AQ (AA (Ao ?_))))
 refine Gc (fun c3 => ?_) (fun c3 => ?_)
 ·
  have c3p := kz c3
  rw [DT _ (by omega)] at hI13
  refine Aa ?_
  refine AB (.t4 1 2 22 23) ?_
  refine AA (Ao (Ae (Gs (Gm rfl ?_))))
  refine Gt (GA Ag.fl Tryz.underlying30 Mo rfl rfl (by omega) (by omega)) ?_
  refine BF rfl KO rfl (fun b2 => ?_)
  refine Ga rfl ?_
  refine AT (AK (AU.id Ag.fl.len Ag.fl.one) rfl rfl rfl Mr rfl .h) ?_
  refine Gn (.t6 1 2 5 6 22 23) (CD (Gt (Ah Fb rfl) (Gt (AH rfl A4 .m0 Ag.l1 rfl rfl) (Gt (Cg rfl rfl) (Gm rfl (Bc 30 rfl rfl (fun q => Ah F8 rfl) (Bc 30 rfl rfl (fun q => AH (cF rfl q) Dh .m0 Ag.l4 rfl rfl) ?_)))))))
  refine Bc 30 rfl rfl (fun q => BX (cF rfl q)) ?_
  refine Gt (BS rfl rfl (fun h => by rw [h]; rfl)) ?_
  refine Gn (.t6 1 2 5 22 23 34) ?_
  refine Gc (fun c4 => ?_) (fun c4 => ?_)
  ·
   have c4p := kz c4
   refine Be (AX (Aj ?_))
   refine AB (.t4 1 2 22 23) ?_
   refine AA (AJ ?_)
   refine Gt (Au rfl rfl (IntWalk.i64_in _ (by omega))) ?_
   refine Gm rfl ?_
   refine AQ (AB (.t4 1 2 22 23) ?_)
   refine B4 (k + 1) ?_ ?_ (.t4 23 1 2 22) (.cons _ (.refl _))
   · exact ⟨by omega, by omega, by rw [hI13, show X.lit r k = false from by rw [AG.lit, c4]; first | rfl | exact Bool.and_false _]; rfl⟩
   · omega
  have c4p := kz c4
  refine Aa ?_
  refine AB (.t5 1 2 5 22 23) ?_
  refine AA (Gs (Gt (AZ rfl BU .m1 (AU.id AG.fl.len AG.fl.one) rfl) (Gm rfl ?_)))
  refine BA rfl bS (.c rfl (.c rfl .n)) (fun w hS => Jg _ _ w) ?_
  refine Gm rfl (Gt (AM rfl rfl) (Gt (AM rfl rfl) (Ga rfl (Ga rfl (Gn (.t6 1 2 7 8 22 23) (Gs (Gm rfl ?_)))))))
  refine Gm rfl (Gt (Af rfl rfl) (Gm rfl (Bm 44 rfl rfl (fun q => AF rfl) (Gt (BJ rfl rfl (fun h => h)) (Gn (.t5 1 2 22 23 46) ?_)))))
  refine Gc (fun c5 => ?_) (fun c5 => ?_)
  ·
   refine Gs (Ga rfl (Gn (.t1 4) (Ab (AS (AD (AD (AS ?_)))))))
   refine AD ?_
   refine AY rfl (.tmp rfl .n) ?_
   intro w1 hS; refine ⟨congrArg Value.bool ?_, hS.Am⟩; rw [show X.HJ r = _ from (AW c1).trans (AW c2), hI13, show X.lit r k = true from by rw [AG.lit, c4, c5]; rfl]; rfl
  have c5p := kz c5
  refine Aa ?_
  refine AB (.t4 1 2 22 23) ?_
  refine AV (AA (AJ ?_))
  refine Gt (Au rfl rfl (IntWalk.i64_in _ (by omega))) ?_
  refine Gm rfl ?_
  refine AQ (AB (.t4 1 2 22 23) ?_)
  refine B4 (k + 1) ?_ ?_ (.t4 23 1 2 22) (.cons _ (.refl _))
  · exact ⟨by omega, by omega, by rw [hI13, show X.lit r k = false from by rw [AG.lit, c5]; first | rfl | exact Bool.and_false _]; rfl⟩
  · omega
 have c3p := kz c3
 obtain rfl : k = 9 := by omega
 refine Be (AX (AX (Aj ?_)))
 refine AB (.nil _) ?_
 refine AA (Gs (Ga rfl (AQ (AA (Ab ?_)))))
 refine AY rfl (.tmp rfl .n) ?_
 intro w1 hS; refine ⟨congrArg Value.bool ?_, hS.Am⟩; rw [show X.HJ r = _ from (AW c1).trans (AW c2), hI13]; rfl
theorem Hs (X : AG) (b : Int) (w : World) : Ef Tryz.prog 160 #[.agg X.enc.toArray, .int .i64 b] w fun v w' => v = .bool (X.hidden b) ∧ CA w w' := by
 refine Al [] [] Tryz.func160 rfl rfl rfl (St.start w []) ?_
 refine Gs ?_
 refine B3 rfl rfl rfl (fun b1 => ?_)
 refine Ga rfl (Gn (.t2 1 2) (CD (Gt (Ah Ce rfl) (Gt (AZ rfl We .m0 AG.l1 rfl) (Gm rfl (Gn (.t3 1 8 9) (Ae ?_)))))))
 refine Bo (.t3 9 1 8) ?_
 refine CY (fun (k : Int) => 0 ≤ k ∧ k ≤ 9 ∧ B5 9 (fun i => !X.Ly b i) 9 = B5 9 (fun i => !X.Ly b i) (9 - k).toNat) (fun (k : Int) => (9 - k).toNat) (fun (k : Int) => [(9, .int .i64 k)]) (fun (k : Int) => []) (0) ?_ rfl rfl (fun k hI1 => ?_)
 · exact ⟨by omega, by omega, rfl⟩
 obtain ⟨hI11, hI12, hI13⟩ := hI1
 refine Gs (Gt (A9 rfl rfl) (AQ (AA (Ao ?_))))
 refine Gc (fun c1 => ?_) (fun c1 => ?_)
 ·
  have c1p := kz c1
  rw [DT _ (by omega)] at hI13
  refine Aa ?_
  refine AB (.t3 1 8 9) ?_
  refine AA (Ao (Ae (Gs ?_)))
  refine Gt (GA Ag.fl Tryz.underlying30 Mo rfl rfl (by omega) (by omega)) ?_
  refine BF rfl KO rfl (fun b2 => ?_)
  refine AT (AK (AU.id Ag.fl.len Ag.fl.one) rfl rfl rfl Mr rfl .h) ?_
  refine Gn (.t4 1 6 8 9) (Gs (Gt (Ah Fb rfl) (Gt (AH rfl A4 .m0 Ag.l1 rfl rfl) (Gt (Af rfl rfl) (Gm rfl (Bm 15 rfl rfl (fun q => Ah F8 rfl) (Bm 15 rfl rfl (fun q => AH (Bh rfl q) Dh .m0 Ag.l4 rfl rfl) ?_)))))))
  refine Gt (BJ rfl rfl (fun h => h)) (Gm rfl (Bm 19 rfl rfl (fun q => Ah FL rfl) (Bm 19 rfl rfl (fun q => AH (Bh rfl q) A4 .m0 Ag.l2 rfl rfl) (Bm 19 rfl rfl (fun q => Af (Bh rfl q) rfl) (Gt (BJ rfl rfl (fun h => h)) (Gm rfl (Bm 24 rfl rfl (fun q => Ah DF rfl) ?_)))))))
  refine Bm 24 rfl rfl (fun q => AH (Bh rfl q) A4 .m0 Ag.l3 rfl rfl) (Bm 24 rfl rfl (fun q => AF rfl) (Bm 24 rfl rfl (fun q => Af (Bh rfl q) (Bh rfl q)) (Gt (BJ rfl rfl (fun h => h)) (Gn (.t4 1 8 9 29) ?_))))
  refine Gc (fun c2 => ?_) (fun c2 => ?_)
  ·
   refine Gs (Ga rfl (Gn (.t1 4) (Ab (AS (AD (AD (AS ?_)))))))
   refine AD ?_
   refine AY rfl (.tmp rfl .n) ?_
   intro w1 hS; refine ⟨congrArg Value.bool ?_, hS.Am⟩; rw [AG.hidden, hI13, show X.Ly b k = true from c2]; rfl
  have c2p := kz c2
  refine Aa ?_
  refine AB (.t3 1 8 9) ?_
  refine AV (AA (AJ ?_))
  refine Gt (Au rfl rfl (IntWalk.i64_in _ (by omega))) ?_
  refine Gm rfl ?_
  refine AQ (AB (.t3 1 8 9) ?_)
  refine B4 (k + 1) ?_ ?_ (.t3 9 1 8) (.cons _ (.refl _))
  · exact ⟨by omega, by omega, by rw [hI13, show X.Ly b k = false from c2]; rfl⟩
  · omega
 have c1p := kz c1
 obtain rfl : k = 9 := by omega
 refine Be (AX (AX (Aj ?_)))
 refine AB (.nil _) ?_
 refine AA (Gs (Ga rfl (AQ (AA (Ab ?_)))))
 refine AY rfl (.tmp rfl .n) ?_
 intro w1 hS; refine ⟨congrArg Value.bool ?_, hS.Am⟩; rw [AG.hidden, hI13]; rfl
theorem DK (X : AG) (a b : Int) (w : World) : Ef Tryz.prog 130 #[.agg X.enc.toArray, .int .i64 a, .int .i64 b] w fun v w' => v = .bool (X.Il a b) ∧ CA w w' := by
 refine Al [] [] Tryz.func130 rfl rfl rfl (St.start w []) ?_
 refine Gs ?_
 refine B3 rfl rfl rfl (fun b1 => ?_)
 refine Ga rfl (Gn (.t3 1 2 3) (CD (Gt (AZ rfl BU .m0 (AU.id AG.fl.len AG.fl.one) rfl) (Gm rfl ?_))))
 refine BA rfl XQ (.c rfl (.c rfl .n)) (fun w hS => F6 _ _ w) ?_
 refine Gt (BX rfl) (Gm rfl (Bc 13 rfl rfl (fun q => AZ rfl BU .m0 (AU.id AG.fl.len AG.fl.one) rfl) (Bc 13 rfl rfl (fun q => AF rfl) ?_)))
 refine Qt (t := 13) rfl rfl rfl (fun q => by have q1 := q; (try simp at q1); exact D5 XQ (.c (cF rfl q) (.c (cF rfl q) .n)) (fun w hS => F6 _ _ w)) ?_
 refine Bc 13 rfl rfl (fun q => BX (cF rfl q)) ?_
 refine Gt (BS rfl rfl (fun h => by rw [h]; rfl)) ?_
 refine Gn (.t4 1 2 3 18) ?_
 refine Gc (fun c1 => ?_) (fun c1 => ?_)
 ·
  refine Gs (Ga rfl (Gn (.t1 6) (Ab (AD ?_))))
  refine AY rfl (.tmp rfl .n) ?_
  intro w1 hS; refine ⟨congrArg Value.bool ?_, hS.Am⟩; rw [show X.Il a b = _ from (BB c1)]
 have c1p := kz c1
 have hr : (0 ≤ a ∧ a < 6) ∧ 0 ≤ b ∧ b < 6 := by simp at c1; have h1 := AG.HF c1.1; have h2 := AG.HF c1.2; omega
 refine Aa ?_
 refine AB (.t3 1 2 3) ?_
 refine AA (CD (Gm rfl (Gm rfl (Gt (Af rfl rfl) (Gn (.t4 1 2 3 21) ?_)))))
 refine Gc (fun c2 => ?_) (fun c2 => ?_)
 ·
  refine Gs (Ga rfl (Gn (.t1 6) (Ab (AD ?_))))
  refine AY rfl (.tmp rfl .n) ?_
  intro w1 hS; refine ⟨congrArg Value.bool ?_, hS.Am⟩; rw [show X.Il a b = _ from ((AW c1).trans (BB c2))]
 have c2p := kz c2
 refine Aa ?_
 refine AB (.t3 1 2 3) ?_
 refine AA (Ao ?_)
 refine BD (N := 12) [0, 0, 3, 7, 0, 0, 48, 112, 0, 0, 783, 2047] mix (by kernel_rfl) rfl ?_
 refine Pf 0 rfl (AF rfl) (Pf 1 rfl (Ah Bn rfl) ?_)
 refine Pf 2 rfl (AR C4 rfl rfl (by omega) (by omega)) ?_
 refine Pf 3 rfl (AZ rfl Fi .m0 (AG.l2.comp (AU.ar (n := 6) Ak.fl (by omega))) rfl) ?_
 refine Pf 4 rfl (AF rfl) (Pf 5 rfl (Ah Bn rfl) ?_)
 refine Pf 6 rfl (AR C4 rfl rfl (by omega) (by omega)) ?_
 refine Pf 7 rfl (AZ rfl Fi .m0 (AG.l2.comp (AU.ar (n := 6) Ak.fl (by omega))) rfl) ?_
 refine Jn 8 9 rfl rfl (by kernel_rfl) ?_ ?_
 ·
  refine BF rfl LZ rfl (fun b2 => ?_)
  refine Bp rfl ⟨?_, ?_⟩
  · exact (Po rfl (AZ rfl Fi .m1 (AG.l2.comp (AU.ar (n := 6) Ak.fl (by omega))) rfl) rfl rfl (Po rfl (AR C4 rfl rfl (by omega) (by omega)) rfl rfl (Po rfl (Ah Bn rfl) rfl rfl (Po rfl (AF rfl) rfl rfl (Po rfl (AZ rfl Fi .m1 (AG.l2.comp (AU.ar (n := 6) Ak.fl (by omega))) rfl) rfl rfl (Po rfl (AR C4 rfl rfl (by omega) (by omega)) rfl rfl (Po rfl (Ah Bn rfl) rfl rfl (Po rfl (AF rfl) rfl rfl Aq))))))))
  refine An 9 rfl (by kernel_rfl) ?_
  refine BF rfl LZ rfl (fun b3 => ?_)
  refine Bp rfl ⟨?_, ?_⟩
  · exact (Po rfl (AZ rfl Fi .m2 (AG.l2.comp (AU.ar (n := 6) Ak.fl (by omega))) rfl) rfl rfl (Po rfl (AR C4 rfl rfl (by omega) (by omega)) rfl rfl (Po rfl (Ah Bn rfl) rfl rfl (Po rfl (AF rfl) rfl rfl (Po rfl (AZ rfl Fi .m2 (AG.l2.comp (AU.ar (n := 6) Ak.fl (by omega))) rfl) rfl rfl (Po rfl (AR C4 rfl rfl (by omega) (by omega)) rfl rfl (Po rfl (Ah Bn rfl) rfl rfl (Po rfl (AF rfl) rfl rfl Aq))))))))
  refine An 10 rfl (by kernel_rfl) ?_
  refine AT (AK (AU.id Ak.fl.len Ak.fl.one) rfl rfl rfl KR rfl (.t .h)) ?_
  refine BM rfl ⟨?_, ?_⟩
  · exact (Po rfl (AZ rfl Fi .m2 (AG.l2.comp (AU.ar (n := 6) Ak.fl (by omega))) rfl) rfl rfl (Po rfl (AR C4 rfl rfl (by omega) (by omega)) rfl rfl (Po rfl (Ah Bn rfl) rfl rfl (Po rfl (AF rfl) rfl rfl (Pk (Pk (Pk (Pk Aq))))))))
  refine An 11 rfl (by kernel_rfl) ?_
  refine AT (AK (AU.id Ak.fl.len Ak.fl.one) rfl rfl rfl KR rfl .h) ?_
  refine BM rfl ⟨?_, ?_⟩
  · exact (Pk (Pk (Pk (Pk (Pk (Pk (Pk (Pk Aq))))))))
  refine A3 (by kernel_rfl) ?_
  refine AB (.t4 2 3 7 8) ?_
  refine AA (Gs (Gt (Ah Cy rfl) (Gt (AH rfl A4 .m1 Ak.l3 rfl rfl) (Gt (Ah Cy rfl) (Gt (AH rfl A4 .m0 Ak.l3 rfl rfl) (Gt (Af rfl rfl) (Gm rfl ?_)))))))
  refine Bm 35 rfl rfl (fun q => AZ rfl BU .m2 (AU.id AG.fl.len AG.fl.one) rfl) (Bm 35 rfl rfl (fun q => Ah Cy rfl) (Bm 35 rfl rfl (fun q => AH (Bh rfl q) A4 .m1 Ak.l3 rfl rfl) ?_))
  refine L4 (t := 35) rfl rfl rfl (fun q => D5 UY (.c (Bh rfl q) (.c (Bh rfl q) .n)) (fun w hS => EV _ _ w)) ?_
  refine Gt (BJ rfl rfl (fun h => h)) (Gm rfl (Bm 41 rfl rfl (fun q => Ah WO rfl) (Bm 41 rfl rfl (fun q => AH (Bh rfl q) Dh .m1 Ak.l2 rfl rfl) (Bm 41 rfl rfl (fun q => AF (Bh rfl q)) ?_))))
  refine C0 (t := 44) rfl rfl rfl (fun qc q => AZ rfl BU .m2 (AU.id AG.fl.len AG.fl.one) rfl) ?_
  refine C0 (t := 44) rfl rfl rfl (fun qc q => AF rfl) ?_
  refine UX (t := 44) rfl rfl rfl (fun qc q => by have q1 := q; have qc1 := qc; (try simp at q1 qc1); exact D5 Y6 (.c (Bh rfl (by rw [qc, q]; rfl)) (.c (Bh rfl (by rw [qc, q]; rfl)) .n)) (fun w hS => Hs _ _ w)) ?_
  refine C0 (t := 44) rfl rfl rfl (fun qc q => BX (Bh rfl (by rw [qc, q]; rfl))) ?_
  refine Bm 41 rfl rfl (fun q => BS (Bh rfl q) rfl (fun h => by rw [q, h]; rfl)) ?_
  refine Gt (BJ rfl rfl (fun h => h)) (Ga rfl (Gn (.t1 6) (Ab ?_)))
  refine AY rfl (.tmp rfl .n) ?_
  intro w1 hS; refine ⟨congrArg Value.bool ?_, hS.Am⟩; rw [show X.Il a b = _ from ((AW c1).trans (AW c2))]
 ·
  refine BF rfl LZ rfl (fun b4 => ?_)
  refine Bp rfl ⟨?_, ?_⟩
  · exact (Po rfl (AZ rfl Fi .m1 (AG.l2.comp (AU.ar (n := 6) Ak.fl (by omega))) rfl) rfl rfl (Po rfl (AR C4 rfl rfl (by omega) (by omega)) rfl rfl (Po rfl (Ah Bn rfl) rfl rfl (Po rfl (AF rfl) rfl rfl (Po rfl (AZ rfl Fi .m1 (AG.l2.comp (AU.ar (n := 6) Ak.fl (by omega))) rfl) rfl rfl (Po rfl (AR C4 rfl rfl (by omega) (by omega)) rfl rfl (Po rfl (Ah Bn rfl) rfl rfl (Po rfl (AF rfl) rfl rfl Aq))))))))
  refine An 8 rfl (by kernel_rfl) ?_
  refine BF rfl LZ rfl (fun b5 => ?_)
  refine Bp rfl ⟨?_, ?_⟩
  · exact (Po rfl (AZ rfl Fi .m2 (AG.l2.comp (AU.ar (n := 6) Ak.fl (by omega))) rfl) rfl rfl (Po rfl (AR C4 rfl rfl (by omega) (by omega)) rfl rfl (Po rfl (Ah Bn rfl) rfl rfl (Po rfl (AF rfl) rfl rfl (Po rfl (AZ rfl Fi .m2 (AG.l2.comp (AU.ar (n := 6) Ak.fl (by omega))) rfl) rfl rfl (Po rfl (AR C4 rfl rfl (by omega) (by omega)) rfl rfl (Po rfl (Ah Bn rfl) rfl rfl (Po rfl (AF rfl) rfl rfl Aq))))))))
  refine An 10 rfl (by kernel_rfl) ?_
  refine AT (AK (AU.id Ak.fl.len Ak.fl.one) rfl rfl rfl KR rfl .h) ?_
  refine BM rfl ⟨?_, ?_⟩
  · exact (Po rfl (AZ rfl Fi .m2 (AG.l2.comp (AU.ar (n := 6) Ak.fl (by omega))) rfl) rfl rfl (Po rfl (AR C4 rfl rfl (by omega) (by omega)) rfl rfl (Po rfl (Ah Bn rfl) rfl rfl (Po rfl (AF rfl) rfl rfl (Pk (Pk (Pk (Pk Aq))))))))
  refine An 11 rfl (by kernel_rfl) ?_
  refine AT (AK (AU.id Ak.fl.len Ak.fl.one) rfl rfl rfl KR rfl (.t .h)) ?_
  refine BM rfl ⟨?_, ?_⟩
  · exact (Pk (Pk (Pk (Pk (Pk (Pk (Pk (Pk Aq))))))))
  refine A3 (by kernel_rfl) ?_
  refine AB (.t4 2 3 7 8) ?_
  refine AA (Gs (Gt (Ah Cy rfl) (Gt (AH rfl A4 .m0 Ak.l3 rfl rfl) (Gt (Ah Cy rfl) (Gt (AH rfl A4 .m1 Ak.l3 rfl rfl) (Gt (Af rfl rfl) (Gm rfl ?_)))))))
  refine Bm 35 rfl rfl (fun q => AZ rfl BU .m2 (AU.id AG.fl.len AG.fl.one) rfl) (Bm 35 rfl rfl (fun q => Ah Cy rfl) (Bm 35 rfl rfl (fun q => AH (Bh rfl q) A4 .m0 Ak.l3 rfl rfl) ?_))
  refine L4 (t := 35) rfl rfl rfl (fun q => D5 UY (.c (Bh rfl q) (.c (Bh rfl q) .n)) (fun w hS => EV _ _ w)) ?_
  refine Gt (BJ rfl rfl (fun h => h)) (Gm rfl (Bm 41 rfl rfl (fun q => Ah WO rfl) (Bm 41 rfl rfl (fun q => AH (Bh rfl q) Dh .m0 Ak.l2 rfl rfl) (Bm 41 rfl rfl (fun q => AF (Bh rfl q)) ?_))))
  refine C0 (t := 44) rfl rfl rfl (fun qc q => AZ rfl BU .m2 (AU.id AG.fl.len AG.fl.one) rfl) ?_
  refine C0 (t := 44) rfl rfl rfl (fun qc q => AF rfl) ?_
  refine UX (t := 44) rfl rfl rfl (fun qc q => by have q1 := q; have qc1 := qc; (try simp at q1 qc1); exact D5 Y6 (.c (Bh rfl (by rw [qc, q]; rfl)) (.c (Bh rfl (by rw [qc, q]; rfl)) .n)) (fun w hS => Hs _ _ w)) ?_
  refine C0 (t := 44) rfl rfl rfl (fun qc q => BX (Bh rfl (by rw [qc, q]; rfl))) ?_
  refine Bm 41 rfl rfl (fun q => BS (Bh rfl q) rfl (fun h => by rw [q, h]; rfl)) ?_
  refine Gt (BJ rfl rfl (fun h => h)) (Ga rfl (Gn (.t1 6) (Ab ?_)))
  refine AY rfl (.tmp rfl .n) ?_
  intro w1 hS; refine ⟨congrArg Value.bool ?_, hS.Am⟩; rw [show X.Il a b = _ from ((AW c1).trans (AW c2))]
theorem M7 (k : Int) (w : World) : Ef Tryz.prog 173 #[.int .i64 k] w fun v w' => v = .bool (AG.aq k) ∧ CA w w' := by
 refine Al [] [] Tryz.func173 rfl rfl rfl (St.start w []) ?_
 refine Gs (Ga rfl (Gn (.t1 0) (Gs (Gm rfl (Gt (Af rfl rfl) (Gm rfl (Bc 5 rfl rfl (fun q => AF rfl) ?_)))))))
 refine Bc 5 rfl rfl (fun q => Af (cF rfl q) rfl) ?_
 refine Gt (BS rfl rfl (fun h => by rw [h]; rfl)) ?_
 refine Gm rfl (Bc 9 rfl rfl (fun q => AF rfl) (Bc 9 rfl rfl (fun q => Af (cF rfl q) rfl) ?_))
 refine Gt (BS rfl rfl (fun h => by rw [h]; rfl)) ?_
 refine Ga rfl (Gn (.t1 2) (Ab ?_))
 refine AY rfl (.tmp rfl .n) ?_
 intro w1 hS; refine ⟨?_, hS.Am⟩; rfl
theorem JX (X : AG) (b : Int) (e : Ing.Event) (w : World) : Ef Tryz.prog 157 #[.agg X.enc.toArray, .int .i64 b, .agg e.enc.toArray] w fun v w' => v = .int .i64 (X.Dk b e) ∧ CA w w' := by
 refine Al [] [] Tryz.func157 rfl rfl rfl (St.start w []) ?_
 refine Gs ?_
 refine B3 rfl rfl rfl (fun b1 => ?_)
 refine B3 rfl rfl rfl (fun b2 => ?_)
 refine Ga rfl (Gn (.t3 1 3 5) (Ao (Ae (Gs (Gt (AZ rfl BU .m1 (AU.id AG.fl.len AG.fl.one) rfl) (Gm rfl ?_))))))
 refine BA rfl XQ (.c rfl (.c rfl .n)) (fun w hS => F6 _ _ w) ?_
 refine Gt (BX rfl) (Ga rfl (Gn (.t4 1 3 5 8) ?_))
 refine Gc (fun c1 => ?_) (fun c1 => ?_)
 ·
  refine Gs (Ga rfl (Gn (.t1 6) (Ab (AS (AD ?_)))))
  refine AY rfl (.tmp rfl .n) ?_
  intro w1 hS; refine ⟨?_, hS.Am⟩; rw [show X.Dk b e = _ from (BB c1)]; rfl
 have c1p := kz c1
 have hr : 0 ≤ b ∧ b < 6 := by simp at c1; have h1 := AG.HF c1; omega
 refine Gs (Gm rfl (Gt (Ah Qx rfl) (Gt (AH rfl A4 .m0 Ing.Event.l2 rfl rfl) (Gt (Af rfl rfl) (Ga rfl (Gn (.t4 1 3 5 13) ?_))))))
 refine Gc (fun c2 => ?_) (fun c2 => ?_)
 ·
  refine CD (Gt (Ah Gu rfl) (Gt (AH rfl A4 .m0 Ing.Event.l3 rfl rfl) (Gt (A9 rfl rfl) (Gm rfl (Bc 21 rfl rfl (fun q => Ah Gu rfl) (Bc 21 rfl rfl (fun q => AH (cF rfl q) A4 .m0 Ing.Event.l3 rfl rfl) (Bc 21 rfl rfl (fun q => CM (cF rfl q) rfl) ?_)))))))
  refine Gt (BS rfl rfl (fun h => by rw [h]; rfl)) ?_
  refine Gm rfl (Bc 26 rfl rfl (fun q => AZ rfl BU .m1 (AU.id AG.fl.len AG.fl.one) rfl) (Bc 26 rfl rfl (fun q => AF rfl) (Bc 26 rfl rfl (fun q => Ah Gu rfl) (Bc 26 rfl rfl (fun q => AH (cF rfl q) A4 .m0 Ing.Event.l3 rfl rfl) ?_))))
  refine Qt (t := 26) rfl rfl rfl (fun q => by have q1 := q; (try simp at q1); exact D5 NZ (.c (cF rfl q) (.c (cF rfl q) (.c (cF rfl q) .n))) (fun w hS => DK _ _ _ w)) ?_
  refine Gt (BS rfl rfl (fun h => by rw [h]; rfl)) ?_
  refine Gn (.t1 32) ?_
  refine Gc (fun c3 => ?_) (fun c3 => ?_)
  ·
   refine Gs (Ga rfl (Gn (.t1 6) (Ab (AD (AS (AD ?_))))))
   refine AY rfl (.tmp rfl .n) ?_
   intro w1 hS; refine ⟨?_, hS.Am⟩; rw [show X.Dk b e = _ from ((AW c1).trans ((BB c2).trans (BB c3)))]; rfl
  refine Aa ?_
  refine AB (.nil _) ?_
  refine AA (Gs (Ga rfl (AQ (AA (Ab (AS (AD ?_)))))))
  refine AY rfl (.tmp rfl .n) ?_
  intro w1 hS; refine ⟨?_, hS.Am⟩; rw [show X.Dk b e = _ from ((AW c1).trans ((BB c2).trans (AW c3)))]; rfl
 have c2p := kz c2
 refine Ao ?_
 refine BD (N := 14) [0, 1, 3, 7, 15, 15, 63, 127, 255, 15, 527, 2047, 4095, 8191] mix (by kernel_rfl) rfl ?_
 refine Pf 0 rfl (Ah Sv rfl) (Pf 1 rfl (AH rfl A4 .m0 Ing.Event.l0 rfl rfl) (Pf 2 rfl (Af rfl rfl) (Pf 3 rfl (AF rfl) (Gd 4 37 rfl rfl rfl (fun q => AF rfl) (Gd 5 37 rfl rfl rfl (fun q => Ah Bn rfl) ?_)))))
 refine BQ 6 rfl rfl (by kernel_rfl) (FO (t := 37) rfl rfl (fun q => by have q1 := q; (try simp at q1); exact G3 (AR C4 (cF rfl q) (cF rfl q) (by omega) (by omega)))) ?_
 refine Gd 7 37 rfl rfl rfl (fun q => Ah Cy (cF rfl q)) ?_
 refine BQ 8 rfl rfl (by kernel_rfl) (FO (t := 37) rfl rfl (fun q => by have q1 := q; (try simp at q1); exact G3 (AH (cF rfl q) A4 .m1 ((AG.l2.comp (AU.ar (n := 6) Ak.fl (by omega))).comp Ak.l3) rfl rfl))) ?_
 refine Gd 9 37 rfl rfl rfl (fun q => Ah W0 rfl) (Gd 10 37 rfl rfl rfl (fun q => AH (cF rfl q) A4 .m0 Ing.Event.l1 rfl rfl) (Gd 11 37 rfl rfl rfl (fun q => Cg (cF rfl q) (cF rfl q)) ?_))
 refine Pf 12 rfl (BS rfl rfl (fun h => by rw [h]; rfl)) ?_
 refine Pf 13 rfl (A0 rfl) ?_
 refine A3 (by kernel_rfl) ?_
 refine AB (.t4 1 3 5 33) ?_
 refine AA ?_
 refine Gc (fun c4 => ?_) (fun c4 => ?_)
 ·
  refine Gs (Ga rfl (Gn (.t1 6) (Ab (AS (AD ?_)))))
  refine AY rfl (.tmp rfl .n) ?_
  intro w1 hS; refine ⟨?_, hS.Am⟩; rw [show X.Dk b e = _ from ((AW c1).trans ((AW c2).trans (BB c4)))]; rfl
 have c4p := kz c4
 refine Aa ?_
 refine AB (.t3 1 3 5) ?_
 refine AV (AA (Gs (Ga rfl (AQ (AA (CD (Gt (AZ rfl BU .m1 (AU.id AG.fl.len AG.fl.one) rfl) ?_)))))))
 refine Gm rfl (Gt (Ah Qx rfl) (Gt (AH rfl A4 .m0 Ing.Event.l2 rfl rfl) ?_))
 refine BA rfl NZ (.c rfl (.c rfl (.c rfl .n))) (fun w hS => DK _ _ _ w) ?_
 refine Gt (BX rfl) (Gn (.t5 1 3 5 7 52) ?_)
 refine Gc (fun c5 => ?_) (fun c5 => ?_)
 ·
  have c5p := kz c5
  refine CD (Gt (Ah Sv rfl) (Gt (AH rfl A4 .m0 Ing.Event.l0 rfl rfl) ?_))
  refine BA rfl aJ (.c rfl .n) (fun w hS => M7 _ w) ?_
  refine Gt (BX rfl) (Gn (.t5 1 3 5 7 56) ?_)
  refine Gc (fun c6 => ?_) (fun c6 => ?_)
  ·
   refine Gs (Ga rfl (Gn (.t1 6) (Ab (AD (AD ?_)))))
   refine AY rfl (.tmp rfl .n) ?_
   intro w1 hS; refine ⟨?_, hS.Am⟩; rw [show X.Dk b e = _ from ((AW c1).trans ((AW c2).trans ((AW c4).trans ((BB c5).trans (BB c6)))))]; rfl
  have c6p := kz c6
  refine Aa ?_
  refine AB (.t4 1 3 5 7) ?_
  refine AA (AJ (Gm rfl ?_))
  refine Gt (Au rfl rfl (IntWalk.i64_in _ (by omega))) ?_
  refine Ga rfl (Gn (.t4 1 3 5 7) (CD (Gt (Ah Gu rfl) (Gt (AH rfl A4 .m0 Ing.Event.l3 rfl rfl) (Gt (CM rfl rfl) (Gm rfl (Bm 62 rfl rfl (fun q => Ah Gu rfl) ?_)))))))
  refine Bm 62 rfl rfl (fun q => AH (Bh rfl q) A4 .m0 Ing.Event.l3 rfl rfl) (Bm 62 rfl rfl (fun q => A9 (Bh rfl q) rfl) (Gt (BJ rfl rfl (fun h => h)) (Gm rfl (Bm 67 rfl rfl (fun q => AZ rfl BU .m1 (AU.id AG.fl.len AG.fl.one) rfl) (Bm 67 rfl rfl (fun q => AF rfl) (Bm 67 rfl rfl (fun q => Ah Gu rfl) (Bm 67 rfl rfl (fun q => AH (Bh rfl q) A4 .m0 Ing.Event.l3 rfl rfl) ?_)))))))
  refine L4 (t := 67) rfl rfl rfl (fun q => D5 NZ (.c (Bh rfl q) (.c (Bh rfl q) (.c (Bh rfl q) .n))) (fun w hS => DK _ _ _ w)) ?_
  refine Bm 67 rfl rfl (fun q => BX (Bh rfl q)) (Gt (BJ rfl rfl (fun h => h)) (Gn (.t2 7 74) ?_))
  refine Gc (fun c7 => ?_) (fun c7 => ?_)
  ·
   have c7p := kz c7
   refine AJ (Gm rfl ?_)
   refine Gt (Au rfl rfl (IntWalk.i64_in _ (by omega))) ?_
   refine Ga rfl (Gn (.t1 7) (Gs (Gm rfl (Ga rfl (Gn (.t1 6) (Ab ?_))))))
   refine AY rfl (.tmp rfl .n) ?_
   intro w1 hS; refine ⟨?_, hS.Am⟩; rw [show X.Dk b e = _ from ((AW c1).trans ((AW c2).trans ((AW c4).trans ((BB c5).trans ((AW c6).trans (BB c7))))))]; rfl
  refine Aa ?_
  refine AB (.t1 7) ?_
  refine AA (Gs (Gm rfl (Ga rfl (Gn (.t1 6) (Ab ?_)))))
  refine AY rfl (.tmp rfl .n) ?_
  intro w1 hS; refine ⟨?_, hS.Am⟩; rw [show X.Dk b e = _ from ((AW c1).trans ((AW c2).trans ((AW c4).trans ((BB c5).trans ((AW c6).trans (AW c7))))))]; rfl
 have c5p := kz c5
 refine Aa ?_
 refine AB (.t4 1 3 5 7) ?_
 refine AA (CD (Gt (Ah Gu rfl) (Gt (AH rfl A4 .m0 Ing.Event.l3 rfl rfl) (Gt (CM rfl rfl) (Gm rfl (Bm 62 rfl rfl (fun q => Ah Gu rfl) (Bm 62 rfl rfl (fun q => AH (Bh rfl q) A4 .m0 Ing.Event.l3 rfl rfl) ?_)))))))
 refine Bm 62 rfl rfl (fun q => A9 (Bh rfl q) rfl) (Gt (BJ rfl rfl (fun h => h)) (Gm rfl (Bm 67 rfl rfl (fun q => AZ rfl BU .m1 (AU.id AG.fl.len AG.fl.one) rfl) (Bm 67 rfl rfl (fun q => AF rfl) (Bm 67 rfl rfl (fun q => Ah Gu rfl) (Bm 67 rfl rfl (fun q => AH (Bh rfl q) A4 .m0 Ing.Event.l3 rfl rfl) ?_))))))
 refine L4 (t := 67) rfl rfl rfl (fun q => D5 NZ (.c (Bh rfl q) (.c (Bh rfl q) (.c (Bh rfl q) .n))) (fun w hS => DK _ _ _ w)) ?_
 refine Bm 67 rfl rfl (fun q => BX (Bh rfl q)) (Gt (BJ rfl rfl (fun h => h)) (Gn (.t2 7 74) ?_))
 refine Gc (fun c8 => ?_) (fun c8 => ?_)
 ·
  have c8p := kz c8
  refine AJ (Gm rfl ?_)
  refine Gt (Au rfl rfl (IntWalk.i64_in _ (by omega))) ?_
  refine Ga rfl (Gn (.t1 7) (Gs (Gm rfl (Ga rfl (Gn (.t1 6) (Ab ?_))))))
  refine AY rfl (.tmp rfl .n) ?_
  intro w1 hS; refine ⟨?_, hS.Am⟩; rw [show X.Dk b e = _ from ((AW c1).trans ((AW c2).trans ((AW c4).trans ((AW c5).trans (BB c8)))))]; rfl
 refine Aa ?_
 refine AB (.t1 7) ?_
 refine AA (Gs (Gm rfl (Ga rfl (Gn (.t1 6) (Ab ?_)))))
 refine AY rfl (.tmp rfl .n) ?_
 intro w1 hS; refine ⟨?_, hS.Am⟩; rw [show X.Dk b e = _ from ((AW c1).trans ((AW c2).trans ((AW c4).trans ((AW c5).trans (AW c8)))))]; rfl
theorem Ju (X : AG) (e : Ing.Event) (w : World) : Ef Tryz.prog 123 #[.agg X.enc.toArray, .agg e.enc.toArray] w fun v w' => v = .agg (X.Hi e 6).enc.toArray ∧ CA w w' := by
 refine Al [] [] Tryz.func123 rfl rfl rfl (St.start w []) ?_
 refine Gs ?_
 refine B3 rfl rfl rfl (fun b1 => ?_)
 refine B3 rfl rfl rfl (fun b2 => ?_)
 refine BF rfl Ib rfl (fun b3 => ?_)
 refine Gn (.t3 2 3 4) (CD (Gm rfl (AQ (AA (Ae ?_)))))
 refine Bo (.t4 6 2 3 4) ?_
 refine Bg (.t .h) ?_
 refine CY (fun (k : Int) => 0 ≤ k ∧ k ≤ 6) (fun (k : Int) => (6 - k).toNat) (fun (k : Int) => [(6, .int .i64 k)]) (fun (k : Int) => [Ad.box b2 56 (Ing.Event.enc (X.Hi e k.toNat))]) (0) ?_ rfl rfl (fun k hI1 => ?_)
 · exact ⟨Int.le_refl _, by omega⟩
 obtain ⟨hI11, hI12⟩ := hI1
 refine Gs (Gt (A9 rfl rfl) (AQ (AA (Ao ?_))))
 refine Gc (fun c1 => ?_) (fun c1 => ?_)
 ·
  have c1p := kz c1
  refine Aa ?_
  refine AB (.t4 2 3 4 6) ?_
  refine AA (Ao (Ae (Gs (Gm rfl (Ga rfl (Gn (.t5 2 3 4 5 6) (AJ ?_)))))))
  refine Gm rfl (Gt (AZ rfl BU .m2 (AU.id AG.fl.len AG.fl.one) rfl) (Gm rfl (Gt (AZ rfl NR .m0 (AU.id Ing.Event.fl.len Ing.Event.fl.one) rfl) ?_)))
  refine BA rfl bm (.c rfl (.c rfl (.c rfl .n))) (fun w hS => JX _ _ _ w) ?_
  refine Gt (Ah NB rfl) ?_
  refine Gt (AR SX rfl rfl (by omega) (by omega)) ?_
  refine AT (AK (Ing.Event.l10.comp (AU.ar (n := 6) B1 (by omega))) rfl rfl rfl C9 rfl .h) ?_
  refine AQ (AB (.t4 2 3 4 6) ?_)
  refine AV (AA (AJ ?_))
  refine Gt (Au rfl rfl (IntWalk.i64_in _ (by omega))) ?_
  refine Gm rfl ?_
  refine AQ (AB (.t4 2 3 4 6) ?_)
  refine B4 (k + 1) ?_ ?_ (.t4 6 2 3 4) (by rw [AG.Vh (by omega)]; exact (.refl _))
  · exact ⟨by omega, by omega⟩
  · omega
 have c1p := kz c1
 obtain rfl : k = 6 := by omega
 refine Be (AX (AX (Aj ?_)))
 refine AB (.t2 3 4) ?_
 refine AA (Gs (Gt (AZ rfl NR .m0 (AU.id Ing.Event.fl.len Ing.Event.fl.one) rfl) ?_))
 refine AT (AK (AU.id Ing.Event.fl.len Ing.Event.fl.one) rfl rfl rfl N8 rfl (.t .h)) ?_
 refine Gn (.t1 4) (Ab ?_)
 refine AY rfl (.cell rfl .m1 (.inl ⟨(by rw [Ing.Event.fl.len]; exact NR), rfl⟩) .n) ?_
 intro w1 hS; refine ⟨?_, hS.Am⟩; rfl
theorem CL (b : Nat) (T : AE) (g : Hd) (e : Ing.Event) (hg : g.len = T.out.length) (hb : 0 ≤ T.b ∧ T.b < 6) (ho : e.other < 6) (hn : T.out.length ≤ 100000) : JL Tryz.prog 96 #[.pointer (some ⟨b, 0, none⟩), .agg e.enc.toArray] [Ad.box b 163 (Ac.enc ⟨T.w, T.b, g⟩), Ad.own g 56 16 (T.out.flatMap Ing.Event.enc)] (fun v B => ∃ g' : Hd, v = .tuple #[] ∧ g'.len = (T.BO e).out.length ∧ B = [Ad.box b 163 (Ac.enc ⟨(T.BO e).w, (T.BO e).b, g'⟩), Ad.own g' 56 16 ((T.BO e).out.flatMap Ing.Event.enc)]) := by
 intro w hS0
 refine Al _ _ Tryz.func96 rfl rfl rfl (hS0) ?_
 refine Gs ?_
 refine B3 rfl rfl rfl (fun b1 => ?_)
 refine Gn (.t2 0 3) (Ao ?_)
 refine BD (N := 12) [0, 0, 2, 6, 14, 1, 33, 97, 255, 511, 0, 2047] mix (by kernel_rfl) rfl ?_
 refine Pf 0 rfl (AF rfl) (Pf 1 rfl (AF rfl) (Pf 2 rfl (BV rfl) (Pf 3 rfl (Ah CN rfl) (Pf 4 rfl (AH rfl A4 .m1 Ac.l1 rfl rfl) (Pf 5 rfl (BV rfl) (Pf 6 rfl (Ah A8 rfl) (Pf 7 rfl (Ah Bn rfl) ?_)))))))
 refine Pf 8 rfl (AR C4 rfl rfl (by (try dsimp only at *); omega) (by (try dsimp only at *); omega)) ?_
 refine Pf 9 rfl (AZ rfl Fi .m1 ((Ac.l0.comp AG.l2).comp (AU.arr (n := 6) Ak.fl (by (try dsimp only at *); omega) (by (try dsimp only at *); omega))) rfl) ?_
 refine An 10 rfl (by kernel_rfl) ?_
 refine BF rfl LZ rfl (fun b2 => ?_)
 refine Bp rfl ⟨?_, ?_⟩
 · exact (Po rfl (AZ rfl Fi .m2 ((Ac.l0.comp AG.l2).comp (AU.arr (n := 6) Ak.fl (by (try dsimp only at *); omega) (by (try dsimp only at *); omega))) rfl) rfl rfl (Po rfl (AR C4 rfl rfl (by (try dsimp only at *); omega) (by (try dsimp only at *); omega)) rfl rfl (Po rfl (Ah Bn rfl) rfl rfl (Po rfl (Ah A8 rfl) rfl rfl (Po rfl (BV rfl) rfl rfl (Po rfl (AH rfl A4 .m2 Ac.l1 rfl rfl) rfl rfl (Po rfl (Ah CN rfl) rfl rfl (Po rfl (BV rfl) rfl rfl (Po rfl (AF rfl) rfl rfl (Po rfl (AF rfl) rfl rfl Aq))))))))))
 refine An 11 rfl (by kernel_rfl) ?_
 refine AT (AK (AU.id Ak.fl.len Ak.fl.one) rfl rfl rfl KR rfl .h) ?_
 refine BM rfl ⟨?_, ?_⟩
 · exact (Pk (Pk (Pk (Pk (Pk (Pk (Pk (Pk (Pk (Pk Aq))))))))))
 refine A3 (by kernel_rfl) ?_
 refine AB (.t3 0 3 4) ?_
 refine AA (Ao ?_)
 refine BD (N := 14) [0, 1, 3, 7, 0, 16, 0, 64, 15, 271, 831, 1855, 4095, 8191] mix (by kernel_rfl) rfl ?_
 refine Pf 0 rfl (AF rfl) (Pf 1 rfl (BV rfl) (Pf 2 rfl (Ah CN rfl) (Pf 3 rfl (AH rfl A4 .m2 Ac.l1 rfl rfl) (Pf 4 rfl (Ah LB rfl) (Pf 5 rfl (AH rfl CO .m0 Ak.l0 rfl rfl) (Pf 6 rfl (Ah Cy rfl) (Pf 7 rfl (AH rfl A4 .m0 Ak.l3 rfl rfl) ?_)))))))
 refine Pf 8 rfl (Ah Qx rfl) ?_
 refine An 9 rfl (by kernel_rfl) ?_
 refine AT (AK Ing.Event.l2 rfl rfl rfl C9 rfl (.t .h)) ?_
 refine BM rfl ⟨?_, ?_⟩
 · exact (Pk (Po rfl (AH rfl A4 .m0 Ak.l3 rfl rfl) rfl rfl (Po rfl (Ah Cy rfl) rfl rfl (Po rfl (AH rfl CO .m0 Ak.l0 rfl rfl) rfl rfl (Po rfl (Ah LB rfl) rfl rfl (Pk (Pk (Pk (Pk Aq)))))))))
 refine Pf 10 rfl (Ah XM rfl) ?_
 refine An 11 rfl (by kernel_rfl) ?_
 refine AT (AK Ing.Event.l6 rfl rfl rfl Ey rfl (.t .h)) ?_
 refine BM rfl ⟨?_, ?_⟩
 · exact (Pk (Pk (Po rfl (AH rfl A4 .m0 Ak.l3 rfl rfl) rfl rfl (Po rfl (Ah Cy rfl) rfl rfl (Pk (Pk (Pk (Pk (Pk (Pk Aq))))))))))
 refine Pf 12 rfl (Ah W0 rfl) ?_
 refine An 13 rfl (by kernel_rfl) ?_
 refine AT (AK Ing.Event.l1 rfl rfl rfl C9 rfl (.t .h)) ?_
 refine BM rfl ⟨?_, ?_⟩
 · exact (Pk (Pk (Pk (Pk (Pk (Pk (Pk (Pk (Pk (Pk (Pk Aq)))))))))))
 refine A3 (by kernel_rfl) ?_
 refine AB (.t2 0 3) ?_
 refine AA (CD (Gt (Ah Gu rfl) (Gt (AH rfl A4 .m1 Ing.Event.l3 rfl rfl) (Gt (CM rfl rfl) (Gn (.t3 0 3 28) ?_)))))
 refine Gc (fun c1 => ?_) (fun c1 => ?_)
 ·
  have c1p := kz c1
  refine BD (N := 11) [0, 0, 2, 1, 9, 25, 63, 127, 255, 511, 1023] mix (by kernel_rfl) rfl ?_
  refine Pf 0 rfl (AF rfl) (Pf 1 rfl (Ah Gu rfl) (Pf 2 rfl (AH rfl A4 .m1 Ing.Event.l3 rfl rfl) (Pf 3 rfl (BV rfl) (Pf 4 rfl (Ah A8 rfl) (Pf 5 rfl (Ah Bn rfl) ?_)))))
  refine Pf 6 rfl (AR C4 rfl rfl (by (try dsimp only at *); omega) (by (try dsimp only at *); omega)) ?_
  refine Pf 7 rfl (Ah LB rfl) ?_
  refine Pf 8 rfl (AH rfl CO .m2 (((Ac.l0.comp AG.l2).comp (AU.arr (n := 6) Ak.fl (by (try dsimp only at *); omega) (by (try dsimp only at *); omega))).comp Ak.l0) rfl rfl) ?_
  refine Pf 9 rfl (Ah XK rfl) ?_
  refine An 10 rfl (by kernel_rfl) ?_
  refine AT (AK Ing.Event.l7 rfl rfl rfl Ey rfl (.t .h)) ?_
  refine BM rfl ⟨?_, ?_⟩
  · exact (Pk (Pk (Pk (Pk (Pk (Pk (Pk (Pk (Pk (Pk Aq))))))))))
  refine A3 (by kernel_rfl) ?_
  refine AB (.t2 0 3) ?_
  refine AA ?_
  refine BD (N := 16) [0, 0, 2, 6, 14, 0, 32, 96, 224, 0, 992, 2016, 4094, 8191, 16383, 32767] mix (by kernel_rfl) rfl ?_
  refine Pf 0 rfl (AF rfl) (Pf 1 rfl (AF rfl) (Pf 2 rfl (BV rfl) (Pf 3 rfl (Ah CG rfl) (Pf 4 rfl (AH rfl Dg .m2 Ac.l2 rfl rfl) (Pf 5 rfl (AF rfl) (Pf 6 rfl (BV rfl) (Pf 7 rfl (Ah A8 rfl) ?_)))))))
  refine Pf 8 rfl (AZ rfl BU .m2 Ac.l0 rfl) (Pf 9 rfl (AZ rfl NR .m1 (AU.id Ing.Event.fl.len Ing.Event.fl.one) rfl) ?_)
  refine BQ 10 rfl rfl (by kernel_rfl) (L1 (LD (D5 ZC (.c rfl (.c rfl .n)) (fun w hS => Ju _ _ w)))) ?_
  refine An 11 rfl (by kernel_rfl) ?_
  refine Fa Ing.Event.enc Ing.Event.fl rfl Tryz.underlying53 N8 Ib rfl (by decide) (by decide) rfl rfl (fun b3 => ?_)
  refine Bp rfl ⟨?_, ?_⟩
  · exact (Pk (Pk (Pk (Pk (Pk (Pk (Po rfl (AH rfl Dg .m3 Ac.l2 rfl rfl) rfl rfl (Po rfl (Ah CG rfl) rfl rfl (Po rfl (BV rfl) rfl rfl (Po rfl (AF rfl) rfl rfl (Po rfl (AF rfl) rfl rfl Aq)))))))))))
  refine An 12 rfl (by kernel_rfl) ?_
  refine Ca Ing.Event.fl rfl Tryz.underlying53 N8 Ib rfl Wf (by decide) (by decide) rfl rfl (fun w hS => Src.EG Tryz.underlying53 ((Kn.own .m0) w hS)) (by (try dsimp only); omega) (fun _ => (.t (.t (.t (.t .h))))) (fun h1 h1l h1z => ?_)
  refine Bp rfl ⟨?_, ?_⟩
  · exact (Pk (Pk (Pk (Pk (Pk (Pk (Pk (Pk (Pk (Pk (Po rfl (AF rfl) rfl rfl Aq)))))))))))
  refine Pf 13 rfl (BV rfl) (Pf 14 rfl (Ah CG rfl) ?_)
  refine An 15 rfl (by kernel_rfl) ?_
  refine AT (AK Ac.l2 rfl rfl rfl R5 rfl (.t (.t (.t .h)))) ?_
  refine BM rfl ⟨?_, ?_⟩
  · exact (Pk (Pk (Pk (Pk (Pk (Pk (Pk (Pk (Pk (Pk (Pk (Pk (Pk Aq)))))))))))))
  refine A3 (by kernel_rfl) ?_
  refine Bj rfl .n ?_
  intro w1 hS
  have hS := (hS.perm (As.perm (.c (.t (.t (.t .h))) (.c (.t (.t (.t .h))) .n)))).A1
  refine ⟨_, ⟨?gqTrue, rfl, ?hlTrue, ?hBTrue⟩, hS⟩
  case hBTrue => rw [AE.BO, show T.Di e = _ from BB c1]; rfl
  case hlTrue => simp only [AE.CZ]; (try dsimp only at *); omega
 have c1p := kz c1
 refine Aa ?_
 refine AB (.t2 0 3) ?_
 refine AA ?_
 refine BD (N := 16) [0, 0, 2, 6, 14, 0, 32, 96, 224, 0, 992, 2016, 4094, 8191, 16383, 32767] mix (by kernel_rfl) rfl ?_
 refine Pf 0 rfl (AF rfl) (Pf 1 rfl (AF rfl) (Pf 2 rfl (BV rfl) (Pf 3 rfl (Ah CG rfl) (Pf 4 rfl (AH rfl Dg .m2 Ac.l2 rfl rfl) (Pf 5 rfl (AF rfl) (Pf 6 rfl (BV rfl) (Pf 7 rfl (Ah A8 rfl) ?_)))))))
 refine Pf 8 rfl (AZ rfl BU .m2 Ac.l0 rfl) (Pf 9 rfl (AZ rfl NR .m1 (AU.id Ing.Event.fl.len Ing.Event.fl.one) rfl) ?_)
 refine BQ 10 rfl rfl (by kernel_rfl) (L1 (LD (D5 ZC (.c rfl (.c rfl .n)) (fun w hS => Ju _ _ w)))) ?_
 refine An 11 rfl (by kernel_rfl) ?_
 refine Fa Ing.Event.enc Ing.Event.fl rfl Tryz.underlying53 N8 Ib rfl (by decide) (by decide) rfl rfl (fun b4 => ?_)
 refine Bp rfl ⟨?_, ?_⟩
 · exact (Pk (Pk (Pk (Pk (Pk (Pk (Po rfl (AH rfl Dg .m3 Ac.l2 rfl rfl) rfl rfl (Po rfl (Ah CG rfl) rfl rfl (Po rfl (BV rfl) rfl rfl (Po rfl (AF rfl) rfl rfl (Po rfl (AF rfl) rfl rfl Aq)))))))))))
 refine An 12 rfl (by kernel_rfl) ?_
 refine Ca Ing.Event.fl rfl Tryz.underlying53 N8 Ib rfl Wf (by decide) (by decide) rfl rfl (fun w hS => Src.EG Tryz.underlying53 ((Kn.own .m0) w hS)) (by (try dsimp only); omega) (fun _ => (.t (.t (.t (.t .h))))) (fun h2 h2l h2z => ?_)
 refine Bp rfl ⟨?_, ?_⟩
 · exact (Pk (Pk (Pk (Pk (Pk (Pk (Pk (Pk (Pk (Pk (Po rfl (AF rfl) rfl rfl Aq)))))))))))
 refine Pf 13 rfl (BV rfl) (Pf 14 rfl (Ah CG rfl) ?_)
 refine An 15 rfl (by kernel_rfl) ?_
 refine AT (AK Ac.l2 rfl rfl rfl R5 rfl (.t (.t (.t .h)))) ?_
 refine BM rfl ⟨?_, ?_⟩
 · exact (Pk (Pk (Pk (Pk (Pk (Pk (Pk (Pk (Pk (Pk (Pk (Pk (Pk Aq)))))))))))))
 refine A3 (by kernel_rfl) ?_
 refine Bj rfl .n ?_
 intro w1 hS
 have hS := (hS.perm (As.perm (.c (.t (.t (.t .h))) (.c (.t (.t (.t .h))) .n)))).A1
 refine ⟨_, ⟨?gqFalse, rfl, ?hlFalse, ?hBFalse⟩, hS⟩
 case hBFalse => rw [AE.BO, show T.Di e = _ from AW c1]; rfl
 case hlFalse => simp only [AE.CZ]; (try dsimp only at *); omega
theorem GJ (b : Nat) (T : AE) (g : Hd) (k : Int) (hg : g.len = T.out.length) (hb : 0 ≤ T.b ∧ T.b < 6) (hn : T.out.length ≤ 100000) : JL Tryz.prog 124 #[.pointer (some ⟨b, 0, none⟩), .int .i64 k] [Ad.box b 163 (Ac.enc ⟨T.w, T.b, g⟩), Ad.own g 56 16 (T.out.flatMap Ing.Event.enc)] (fun v B => ∃ g' : Hd, v = .tuple #[] ∧ g'.len = (T.kind k).out.length ∧ B = [Ad.box b 163 (Ac.enc ⟨(T.kind k).w, (T.kind k).b, g'⟩), Ad.own g' 56 16 ((T.kind k).out.flatMap Ing.Event.enc)]) := by
 intro w hS0
 refine Al _ _ Tryz.func124 rfl rfl rfl (hS0) ?_
 refine AJ (Gm rfl (Gm rfl (Gt (BC Nf Ib rfl (.cons Ing.Event.l0 rfl rfl rfl (.cons Ing.Event.l3 rfl rfl rfl .nil))) ?_)))
 refine Ai rfl OZ (.c rfl (.c rfl .n)) (.c .h (.c .h .n)) (CL _ _ _ (AE.Fj k) hg hb (show (-1 : Int) < 6 by decide) hn) (fun v1 B hv => ?_)
 obtain ⟨y2, rfl, y3, rfl⟩ := hv
 refine AQ ?_
 refine Bj rfl .n ?_
 intro w1 hS
 have hS := (hS.perm (As.perm (.c .h (.c .h .n)))).A1
 exact ⟨_, ⟨_, rfl, by assumption, rfl⟩, hS⟩
theorem Ba (b : Nat) (T : AE) (g : Hd) (u : Ap) (hg : g.len = T.out.length) (hb : 0 ≤ T.b ∧ T.b < 6) (hn : T.out.length ≤ 100000) : JL Tryz.prog 127 #[.pointer (some ⟨b, 0, none⟩), BT u] [Ad.box b 163 (Ac.enc ⟨T.w, T.b, g⟩), Ad.own g 56 16 (T.out.flatMap Ing.Event.enc)] (fun v B => ∃ g' : Hd, v = .tuple #[] ∧ g'.len = (T.tell u).out.length ∧ B = [Ad.box b 163 (Ac.enc ⟨(T.tell u).w, (T.tell u).b, g'⟩), Ad.own g' 56 16 ((T.tell u).out.flatMap Ing.Event.enc)]) := by
 intro w hS0
 refine Al _ _ Tryz.func127 rfl rfl rfl (hS0) ?_
 refine AJ (Gm rfl (Gm rfl (Gt (BC Nf Ib rfl (.cons Ing.Event.l0 rfl rfl rfl (.cons Ing.Event.l3 rfl rfl rfl (.cons Ing.Event.l9 rfl rfl rfl .nil)))) ?_)))
 refine Ai rfl OZ (.c rfl (.c rfl .n)) (.c .h (.c .h .n)) (CL _ _ _ { AE.Fj 16 with text := u } hg hb (show (-1 : Int) < 6 by decide) hn) (fun v1 B hv => ?_)
 obtain ⟨y2, rfl, y3, rfl⟩ := hv
 refine AQ ?_
 refine Bj rfl .n ?_
 intro w1 hS
 have hS := (hS.perm (As.perm (.c .h (.c .h .n)))).A1
 exact ⟨_, ⟨_, rfl, by assumption, rfl⟩, hS⟩
theorem Hn (d : Int) (w : World) (gl0 : GV 0 AG.DD w) : Ef Tryz.prog 52 #[.int .i64 d] w fun v w' => v = BT (AG.called d) ∧ CA w w' := by
 refine Al [] [] Tryz.func52 rfl rfl rfl (St.start w []) ?_
 refine Gs (Ga rfl (Gn (.t1 0) (CD (Gm rfl (Gt (A9 rfl rfl) (Gm rfl (Bc 5 rfl rfl (fun q => AF rfl) ?_)))))))
 refine Bc 5 rfl rfl (fun q => CM (cF rfl q) rfl) ?_
 refine Gt (BS rfl rfl (fun h => by rw [h]; rfl)) ?_
 refine Gn (.t2 0 8) ?_
 refine Gc (fun c1 => ?_) (fun c1 => ?_)
 ·
  refine Gs (Ga rfl (Gn (.t1 2) (Ab (AD ?_))))
  refine AY rfl (.tmp rfl .n) ?_
  intro w1 hS; refine ⟨?_, hS.Am⟩; rw [show AG.called d = _ from BB c1]; rfl
 have c1p := kz c1
 have hr : 0 ≤ d ∧ d < 6 := by simp at c1; omega
 refine Aa ?_
 refine AB (.t1 0) ?_
 refine AA (Gs (Gm rfl ?_))
 refine Gt (AR Wi rfl rfl (by omega) (by omega)) ?_
 refine Gt (QN gl0 rfl CO (AG.OA hr.1 hr.2)) (Ga rfl (Gn (.t1 2) (Ab ?_)))
 refine AY rfl (.tmp rfl .n) ?_
 intro w1 hS; refine ⟨?_, hS.Am⟩; rw [show AG.called d = _ from AW c1]; rfl
theorem E9 (X : AG) (CJ at_ : Int) : JL Tryz.prog 102 #[.agg X.enc.toArray, .int .i64 CJ, .int .i64 at_] [] (fun v B => ∃ h' : Hd, v = h'.val ∧ h'.len = (X.has CJ at_).length ∧ B = [Ad.own h' 3 1 ((X.has CJ at_).flatMap Av)]) := by
 intro w hS0
 refine Al _ _ Tryz.func102 rfl rfl rfl (hS0) ?_
 refine Gs ?_
 refine B3 rfl rfl rfl (fun b1 => ?_)
 refine Ga rfl (Gn (.t3 1 2 3) (Gs (Ga rfl (AQ (AA (CD (Gt (Ah Ce rfl) ?_)))))))
 refine Gt (AZ rfl We .m0 AG.l1 rfl) (Gm rfl (Gn (.t5 1 2 7 11 12) (Ae ?_)))
 refine Bo (.t5 7 12 1 2 11) ?_
 refine Ez Av 3 1 ?_
 refine Dq (fun (k : Int) (xs : List Int) (g : Hd) => 0 ≤ k ∧ k ≤ 9 ∧ xs = X.PV CJ at_ k.toNat ∧ g.len = xs.length) (fun (k : Int) (xs : List Int) (g : Hd) => (9 - k).toNat) (fun (k : Int) (xs : List Int) (g : Hd) => [(7, g.val), (12, .int .i64 k)]) (fun (k : Int) (xs : List Int) (g : Hd) => [Ad.own g 3 1 (xs.flatMap Av)]) (0) ([]) (_) ?_ rfl rfl (fun k xs g hI1 => ?_)
 · exact ⟨by omega, by omega, rfl, rfl⟩
 obtain ⟨hI11, hI12, hI13, hI14⟩ := hI1
 refine Gs (Gt (A9 rfl rfl) (AQ (AA (Ao ?_))))
 refine Gc (fun c1 => ?_) (fun c1 => ?_)
 ·
  have c1p := kz c1
  have hxl := AG.SL X CJ at_ k.toNat
  rw [← hI13] at hxl
  refine Aa ?_
  refine AB (.t5 1 2 7 11 12) ?_
  refine AA (Ao (Ae (Gs (Gm rfl ?_))))
  refine Gt (GA Ag.fl Tryz.underlying30 Mo rfl rfl (by omega) (by omega)) ?_
  refine BF rfl KO rfl (fun b2 => ?_)
  refine Ga rfl ?_
  refine AT (AK (AU.id Ag.fl.len Ag.fl.one) rfl rfl rfl Mr rfl .h) ?_
  refine Gn (.t7 1 2 7 8 9 11 12) (Gs (Gt (Ah FL rfl) (Gt (AH rfl A4 .m0 Ag.l2 rfl rfl) (Gm rfl (Gt (Af rfl rfl) (Gm rfl (Bm 20 rfl rfl (fun q => Ah DF rfl) ?_)))))))
  refine Bm 20 rfl rfl (fun q => AH (Bh rfl q) A4 .m0 Ag.l3 rfl rfl) (Bm 20 rfl rfl (fun q => AF rfl) (Bm 20 rfl rfl (fun q => Af (Bh rfl q) (Bh rfl q)) (Gt (BJ rfl rfl (fun h => h)) (Gn (.t7 1 2 7 8 11 12 25) ?_))))
  refine Gc (fun c2 => ?_) (fun c2 => ?_)
  ·
   have c2p := kz c2
   refine AJ (Gm rfl (Gm rfl ?_))
   refine Fa Av B1 rfl Tryz.underlying169 C9 aA rfl (by decide) (by decide) rfl rfl (fun b3 => ?_)
   refine Ca B1 rfl Tryz.underlying169 C9 aA rfl cK (by decide) (by decide) rfl rfl (fun w hS => Src.EG Tryz.underlying169 ((Kn.own .m0) w hS)) (by (try dsimp only); omega) (fun _ => (.t (.t .h))) (fun h1 h1l h1z => ?_)
   refine Ga rfl ?_
   refine AQ (AB (.t5 1 2 7 11 12) ?_)
   refine AV (AA (AJ ?_))
   refine Gt (Au rfl rfl (IntWalk.i64_in _ (by omega))) ?_
   refine Gm rfl ?_
   refine AQ (AB (.t5 1 2 7 11 12) ?_)
   refine Bw (k + 1) _ _ ?_ ?_ (.t5 7 12 1 2 11) (.cons _ (.cons _ (.refl _)))
   · exact ⟨by omega, by omega, by rw [AG.ZP hI11 c2, ← hI13], (by (try dsimp only at *) <;> (try simp only [List.length_append, List.length_cons, List.length_nil]) <;> omega)⟩
   · omega
  have c2p := kz c2
  refine Aa ?_
  refine AB (.t5 1 2 7 11 12) ?_
  refine AV (AA (AJ ?_))
  refine Gt (Au rfl rfl (IntWalk.i64_in _ (by omega))) ?_
  refine Gm rfl ?_
  refine AQ (AB (.t5 1 2 7 11 12) ?_)
  refine Bw (k + 1) _ _ ?_ ?_ (.t5 7 12 1 2 11) (.cons _ (.refl _))
  · exact ⟨by omega, by omega, by rw [AG.Z4 hI11 c2, ← hI13], (by (try dsimp only at *) <;> (try simp only [List.length_append, List.length_cons, List.length_nil]) <;> omega)⟩
  · omega
 have c1p := kz c1
 obtain rfl : k = 9 := by omega
 refine Be (AX (AX (Aj ?_)))
 refine AB (.t1 7) ?_
 refine AA (Gs (Gm rfl (Ga rfl (Gn (.t1 6) (Ab ?_)))))
 refine AY rfl (.tmp rfl .n) ?_
 intro w1 hS
 have hS := (hS.perm (As.perm (.c .h .n))).A1
 exact ⟨_, ⟨_, rfl, by rw [AG.Tj, ← hI13]; assumption, by rw [AG.Tj, ← hI13]⟩, hS⟩
theorem LV (b : Nat) (T : AE) (g : Hd) (u : Ap) (f : Hd) (l : List Int) (hg : g.len = T.out.length) (hb : 0 ≤ T.b ∧ T.b < 6) (hf : f.len = l.length) (hl : l.length ≤ 9) (hi : ∀ i ∈ l, 0 ≤ i ∧ i < 9) (hw : T.w.DE) (hu : u.length ≤ 1000) (hn : T.out.length ≤ 100000) : JL Tryz.prog 101 #[.pointer (some ⟨b, 0, none⟩), BT u, f.val] [Ad.box b 163 (Ac.enc ⟨T.w, T.b, g⟩), Ad.own g 56 16 (T.out.flatMap Ing.Event.enc), Ad.own f 3 1 (l.flatMap Av)] (fun v B => ∃ g' : Hd, v = .tuple #[] ∧ g'.len = (T.list u l).out.length ∧ B = [Ad.box b 163 (Ac.enc ⟨(T.list u l).w, (T.list u l).b, g'⟩), Ad.own g' 56 16 ((T.list u l).out.flatMap Ing.Event.enc), Ad.own f 3 1 (l.flatMap Av)]) := by
 intro w hS0
 refine Al _ _ Tryz.func101 rfl rfl rfl (hS0) ?_
 refine CD (Gm rfl (Gt (Ar rfl Tryz.underlying169 rfl) (Gm rfl (AQ (AA (Ae ?_))))))
 refine Bo (.t6 1 10 0 2 8 9) ?_
 refine HS (fun (k : Int) (x : Ap) => 0 ≤ k ∧ k ≤ (l.length : Int) ∧ AE.H2 T.w u l = AE.H2 T.w x (l.drop k.toNat) ∧ x.length ≤ 1000 + k.toNat * 140737488351300) (fun (k : Int) (x : Ap) => ((l.length : Int) - k).toNat) (fun (k : Int) (x : Ap) => [(1, BT x), (10, .int .i64 k)]) (fun (k : Int) (x : Ap) => []) (0) (u) ?_ rfl rfl (fun k x hI1 => ?_)
 · exact ⟨by omega, by omega, by simp, by simp; omega⟩
 obtain ⟨hI11, hI12, hI13, hI14⟩ := hI1
 refine Gs (Gt (A9 rfl rfl) (AQ (AA (Ao ?_))))
 refine Gc (fun c1 => ?_) (fun c1 => ?_)
 ·
  have c1p := kz c1
  have hx := hi _ (Bf.Ev (xs := l) (i := k.toNat) (by omega))
  have hnl := hw.th (l.getD k.toNat 0)
  refine Aa ?_
  refine AB (.t6 0 1 2 8 9 10) ?_
  refine AA (Ao (Ae (Gs ?_)))
  refine Gt (Br GU (by decide) (Kn.own .m2) rfl rfl (by omega) (by omega)) ?_
  refine Gt (DC rfl A4 (Kn.own .m2) (by omega)) ?_
  refine Ga rfl (Gn (.t7 0 1 2 7 8 9 10) (Gs (Gm rfl (Gm rfl (Gm rfl (Gt (BV rfl) (Gt (Ah A8 rfl) ?_)))))))
  refine Gt (Ah Ce rfl) ?_
  refine Gt (AR FM rfl rfl (by (try dsimp only at *); (try simp only [List.length_append, List.length_cons, List.length_nil]); omega) (by (try dsimp only at *); (try simp only [List.length_append, List.length_cons, List.length_nil]); omega)) ?_
  refine Gt (Ah JP rfl) ?_
  refine Gt (AH rfl CO .m0 (((Ac.l0.comp AG.l1).comp (AU.arr (n := 9) Ag.fl (by (try dsimp only at *); (try simp only [List.length_append, List.length_cons, List.length_nil]); omega) (by (try dsimp only at *); (try simp only [List.length_append, List.length_cons, List.length_nil]); omega))).comp Ag.l0) rfl rfl) ?_
  refine Gt (CT rfl rfl (by (try dsimp only at *); (try simp only [List.length_append, List.length_cons, List.length_nil]); omega)) ?_
  refine Gt (CT rfl rfl (by (try dsimp only at *); (try simp only [List.length_append, List.length_cons, List.length_nil]); omega)) ?_
  refine Ga rfl (Gn (.t7 0 1 2 7 8 9 10) (Gs (Gm rfl (Gm rfl (Gt (BV rfl) (Gt (Ah A8 rfl) (Gt (Ah Ce rfl) ?_)))))))
  refine Gt (AR FM rfl rfl (by (try dsimp only at *); (try simp only [List.length_append, List.length_cons, List.length_nil]); omega) (by (try dsimp only at *); (try simp only [List.length_append, List.length_cons, List.length_nil]); omega)) ?_
  refine Gt (Ah F8 rfl) ?_
  refine Gt (AH rfl Dh .m0 (((Ac.l0.comp AG.l1).comp (AU.arr (n := 9) Ag.fl (by (try dsimp only at *); (try simp only [List.length_append, List.length_cons, List.length_nil]); omega) (by (try dsimp only at *); (try simp only [List.length_append, List.length_cons, List.length_nil]); omega))).comp Ag.l4) rfl rfl) ?_
  refine Gn (.t7 0 1 2 8 9 10 32) ?_
  refine Gc (fun c2 => ?_) (fun c2 => ?_)
  ·
   have c2p := kz c2
   refine AJ (Gm rfl ?_)
   refine Gt (CT rfl rfl (by (try dsimp only at *); (try simp only [List.length_append, List.length_cons, List.length_nil]); omega)) ?_
   refine Ga rfl ?_
   refine AQ (AB (.t6 0 1 2 8 9 10) ?_)
   refine AV (AA (AJ ?_))
   refine Gt (Au rfl rfl (IntWalk.i64_in _ (by (try dsimp only at *); (try simp only [List.length_append, List.length_cons, List.length_nil]); omega))) ?_
   refine Gm rfl ?_
   refine AQ (AB (.t6 0 1 2 8 9 10) ?_)
   refine Da (k + 1) _ ?_ ?_ (.t6 1 10 0 2 8 9) (.refl _)
   · exact ⟨by omega, by omega, by rw [hI13, AE.YH hI11 (by omega) c2], by simp only [List.length_append, List.length_cons, List.length_nil]; omega⟩
   · omega
  have c2p := kz c2
  refine Aa ?_
  refine AB (.t6 0 1 2 8 9 10) ?_
  refine AV (AA (AJ ?_))
  refine Gt (Au rfl rfl (IntWalk.i64_in _ (by (try dsimp only at *); (try simp only [List.length_append, List.length_cons, List.length_nil]); omega))) ?_
  refine Gm rfl ?_
  refine AQ (AB (.t6 0 1 2 8 9 10) ?_)
  refine Da (k + 1) _ ?_ ?_ (.t6 1 10 0 2 8 9) (.refl _)
  · exact ⟨by omega, by omega, by rw [hI13, AE.YQ hI11 (by omega) c2], by simp only [List.length_append, List.length_cons, List.length_nil]; omega⟩
  · omega
 have c1p := kz c1
 obtain rfl : k = (l.length : Int) := by omega
 rw [show (l.length : Int).toNat = l.length by omega, List.drop_length] at hI13
 refine Be (AX (AX (Aj ?_)))
 refine AB (.t3 0 1 2) ?_
 refine AA (CD (Gm rfl (Gt (Ar rfl Tryz.underlying169 rfl) (Gt (Af rfl rfl) (Gn (.t3 0 1 38) ?_)))))
 refine Gc (fun c3 => ?_) (fun c3 => ?_)
 ·
  have c3p := kz c3
  rw [hf] at c3
  refine AJ (Gm rfl ?_)
  refine Gt (CT rfl rfl (by (try dsimp only at *); (try simp only [List.length_append, List.length_cons, List.length_nil]); omega)) ?_
  refine Ga rfl (Gn (.t2 0 1) (AJ (Gm rfl (Gm rfl ?_))))
  refine Gt (CT rfl rfl (by (try dsimp only at *); (try simp only [List.length_append, List.length_cons, List.length_nil]); omega)) ?_
  refine Ai rfl D9 (.c rfl (.c rfl .n)) (.c .h (.c .h .n)) (Ba _ _ _ _ hg hb hn) (fun v1 B hv => ?_)
  obtain ⟨y2, rfl, y3, rfl⟩ := hv
  refine AQ ?_
  refine Bj rfl .n ?_
  intro w1 hS
  have hS := (hS.perm (As.perm (.c .h (.c .h (.c .h .n))))).A1
  refine ⟨_, ⟨?gqTrue, rfl, ?hlTrue, ?hBTrue⟩, hS⟩
  case hBTrue => rw [AE.list, show AE.SR T.w u l = _ from BB c3, hI13]; rfl
  case hlTrue => (try simp only [AE.CC] at *); rw [(AE.HY T u l).2.2]; assumption
 have c3p := kz c3
 rw [hf] at c3
 refine Aa ?_
 refine AB (.t2 0 1) ?_
 refine AA (AJ (Gm rfl (Gm rfl ?_)))
 refine Gt (CT rfl rfl (by (try dsimp only at *); (try simp only [List.length_append, List.length_cons, List.length_nil]); omega)) ?_
 refine Ai rfl D9 (.c rfl (.c rfl .n)) (.c .h (.c .h .n)) (Ba _ _ _ _ hg hb hn) (fun v4 B hv => ?_)
 obtain ⟨y5, rfl, y6, rfl⟩ := hv
 refine AQ ?_
 refine Bj rfl .n ?_
 intro w1 hS
 have hS := (hS.perm (As.perm (.c .h (.c .h (.c .h .n))))).A1
 refine ⟨_, ⟨?gqFalse, rfl, ?hlFalse, ?hBFalse⟩, hS⟩
 case hBFalse => rw [AE.list, show AE.SR T.w u l = _ from AW c3, hI13]; rfl
 case hlFalse => (try simp only [AE.CC] at *); rw [(AE.HY T u l).2.2]; assumption
end Go.Proofs.YtoidpggbbfncpaaGreatDoor
