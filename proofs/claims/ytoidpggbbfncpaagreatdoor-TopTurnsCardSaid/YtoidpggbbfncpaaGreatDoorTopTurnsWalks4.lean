/- What the functions that the law TopTurns reaches compute: walks, part 4. No condition. -/
import Derived.Test.YtoidpggbbfncpaaGreatDoorCards
import Derived.Test.YtoidpggbbfncpaaGreatDoorTie
import Derived.Deep.DeepHandedRow
import Derived.Test.YtoidpggbbfncpaaGreatDoorRows
import Derived.Test.YtoidpggbbfncpaaGreatDoorTopTurnsEc3
import Derived.Test.YtoidpggbbfncpaaGreatDoorTopTurnsRa1
import Derived.Test.YtoidpggbbfncpaaGreatDoorTopTurnsRb1
import Derived.Test.YtoidpggbbfncpaaGreatDoorTopTurnsRc1
import Derived.Test.YtoidpggbbfncpaaGreatDoorTopTurnsWalks
import Derived.Test.YtoidpggbbfncpaaGreatDoorTopTurnsWalks2
import Derived.Test.YtoidpggbbfncpaaGreatDoorTopTurnsWalks3
set_option linter.unusedSimpArgs false
set_option linter.unusedVariables false
set_option maxRecDepth 100000
set_option maxHeartbeats 1000000
namespace Go.Proofs.YtoidpggbbfncpaaGreatDoor
open Go Go.Ing Go.RowKit Go.ChangeShapes Go.WideShapes Go.ChangeAt
theorem R8 (b : Nat) (T : AF) (g : Hd) (o : Order) (hg : g.len = T.out.length) (hF : T.Fit) (hv : o.verb = 8 ∨ o.verb = 9 ∨ o.verb = 10) (hu : o.second.length ≤ 5000000) (hn : T.out.length ≤ 90000) : FL Tryz.prog 106 #[.pointer (some ⟨b, 0, none⟩), .agg o.enc.toArray] [Ac.box b 163 (Ad.enc ⟨T.w, T.b, g⟩), Ac.own g 56 16 (T.out.flatMap Ing.Event.enc)] (fun w => (Gl 7 w ∧ 7 ∉ Cd [Ac.box b 163 (Ad.enc ⟨T.w, T.b, g⟩), Ac.own g 56 16 (T.out.flatMap Ing.Event.enc)]) ∧ (Gl 8 w ∧ 8 ∉ Cd [Ac.box b 163 (Ad.enc ⟨T.w, T.b, g⟩), Ac.own g 56 16 (T.out.flatMap Ing.Event.enc)])) (fun v B => ∃ g' : Hd, v = .tuple #[] ∧ g'.len = (T.E8 o).out.length ∧ B = [Ac.box b 163 (Ad.enc ⟨(T.E8 o).w, (T.E8 o).b, g'⟩), Ac.own g' 56 16 ((T.E8 o).out.flatMap Ing.Event.enc)]) := by
 intro w hS0 hH
 obtain ⟨⟨gl0, gm0⟩, ⟨gl1, gm1⟩⟩ := hH
 have hb := hF.b
 have hr := hF.room
 refine Al _ _ Tryz.func106 rfl rfl rfl (hS0) ?_
 refine Gs ?_
 refine B4 rfl rfl rfl (fun b1 => ?_)
 refine Gn (.t2 0 3) (Gs (Ga rfl (Ga rfl (AQ (AA ?_)))))
 refine Be (.t (.t .h)) ?_
 refine Be (.t (.t .h)) ?_
 refine YH (Lm := [_, _]) (fun (X : AF) (to : Int) (p : Bool) (j : Hd) => X = (T.Cs o).1 ∧ to = (T.Cs o).2.1 ∧ p = (T.Cs o).2.2 ∧ j.len = X.out.length) (fun (X : AF) (to : Int) (p : Bool) (j : Hd) => [(4, .int .i64 to), (5, .bool p)]) (fun (X : AF) (to : Int) (p : Bool) (j : Hd) => [Ac.box b 163 (Ad.enc ⟨X.w, X.b, j⟩), Ac.own j 56 16 (X.out.flatMap Ing.Event.enc)]) (.t2 0 3) rfl ?_ (fun X to p j hC => ?_)
 ·
  refine Gs (Gt (Ah DD rfl) (Gt (AG rfl A3 .m2 Order.l0 rfl rfl) (Gn (.t5 0 3 4 5 11) (Af (Gs (Gt (Ae rfl rfl) (Ga rfl ?_)))))))
  refine Gn (.t6 0 3 4 5 11 12) ?_
  refine Gc (fun c1 => ?_) (fun c1 => ?_)
  ·
   have c1p := kz c1
   refine AJ (Gm rfl (Gt (Ah Hr rfl) (Gt (AG rfl CV .m2 Order.l4 rfl rfl) ?_)))
   refine BF rfl ZE (.c rfl (.c rfl .n)) (.c .h (.c .h .n)) (Ml _ T _ _ hg hF hu (by omega)) (fun w hS => ⟨gl0.pull gm0 hS (.c .h (.c .h .n)), gl1.pull gm1 hS (.c .h (.c .h .n))⟩) (fun v1 B hv => ?_)
   obtain ⟨y2, rfl, y3, rfl⟩ := hv
   refine Gm rfl (Gt (AM rfl rfl) (Gt (AM rfl rfl) (Ga rfl (Ga rfl ?_))))
   refine AQ (AB (.t4 0 3 4 5) ?_)
   refine AV ?_
   refine RI _ _ _ _ ?_ (.t4 4 5 0 3) (.refl _)
   · have ht : T.Cs o = _ := BB c1
     exact ⟨by rw [ht], by rw [ht], by rw [ht], by assumption⟩
  have c1p := kz c1
  refine Gs (Gt (Ae rfl rfl) (Ga rfl (Gn (.t5 0 3 4 5 21) ?_)))
  refine Gc (fun c2 => ?_) (fun c2 => ?_)
  ·
   have c2p := kz c2
   refine AJ (Gm rfl (Gt (Ah Hr rfl) (Gt (AG rfl CV .m2 Order.l4 rfl rfl) ?_)))
   refine BF rfl ZO (.c rfl (.c rfl .n)) (.c .h (.c .h .n)) (Io _ T _ _ hg hF hu (by omega)) (fun w hS => ⟨gl0.pull gm0 hS (.c .h (.c .h .n)), gl1.pull gm1 hS (.c .h (.c .h .n))⟩) (fun v4 B hv => ?_)
   obtain ⟨y5, rfl, y6, rfl⟩ := hv
   refine Gm rfl (Gt (AM rfl rfl) (Gt (AM rfl rfl) (Ga rfl (Ga rfl ?_))))
   refine AQ (AB (.t4 0 3 4 5) ?_)
   refine AV ?_
   refine RI _ _ _ _ ?_ (.t4 4 5 0 3) (.refl _)
   · have ht : T.Cs o = _ := (AW c1).trans (BB c2)
     exact ⟨by rw [ht], by rw [ht], by rw [ht], by assumption⟩
  have c2p := kz c2
  refine Aa ?_
  refine AB (.t4 0 3 4 5) ?_
  refine AV ?_
  refine RI _ _ _ _ ?_ (.t4 4 5 0 3) (.refl _)
  · have ht : T.Cs o = _ := (AW c1).trans (AW c2)
    exact ⟨by rw [ht], by rw [ht], by rw [ht], by assumption⟩
 obtain ⟨hD1, hD2, hD3, hD4⟩ := hC
 have hXw := T.Tx o
 have hXo : X.out.length ≤ T.out.length + 1 := by rw [hD1]; exact T.P5 o
 rw [← hD1] at hXw
 have hXF : X.Fit := hF.Ed hXw.1 hXw.2
 have hPl : ((AF.BP X.w X.own o.nth o.name o.Bj)).length ≤ 9 := AF.SD.2.2
 refine CG (Gm rfl (Gt (BV rfl) (Gn (.t4 0 3 4 31) ?_)))
 refine Gc (fun c3 => ?_) (fun c3 => ?_)
 ·
  refine Ab (AD ?_)
  refine AY rfl .n ?_
  intro w1 hS
  have hS := (hS.perm (Ax.perm (.c .h (.c .h .n)))).A1
  have hq : T.E8 o = X := AF.VD hD1 hD3 c3
  refine ⟨_, ⟨?gq1, rfl, ?hl1, ?hB1⟩, hS⟩
  case hB1 => rw [hq]; (try rfl)
  case hl1 => rw [hq]; exact hD4
 have c3p := kz c3
 obtain ⟨hgo, hn0, hn9, hok⟩ := AF.Tc hD1 hD2 hD3 c3
 refine Aa ?_
 refine AB (.t3 0 3 4) ?_
 refine AA (Ao ?_)
 refine BE (N := 11) [0, 0, 2, 0, 8, 0, 32, 0, 128, 511, 1023] mix (by kernel_rfl) rfl ?_
 refine Pf 0 rfl (AE rfl) (Pf 1 rfl (AE rfl) (Pf 3 rfl (Ah GK rfl) (Pf 4 rfl (AG rfl A3 .m2 Order.l1 rfl rfl) (Pf 5 rfl (Ah Fi rfl) (Pf 6 rfl (AG rfl CV .m2 Order.l3 rfl rfl) (Pf 7 rfl (Ah G5 rfl) (Pf 8 rfl (AG rfl Dj .m2 Order.l2 rfl rfl) ?_)))))))
 refine An 2 rfl (by kernel_rfl) ?_
 refine Ag rfl UX (.c rfl .n) (.c .h .n) (H2 _ X _ hXF) (fun v7 B hv => ?_)
 obtain ⟨y8, rfl, y9, rfl⟩ := hv
 refine Bp rfl ⟨?_, ?_⟩
 · exact (Po rfl (AG rfl Dj .m3 Order.l2 rfl rfl) rfl rfl (Po rfl (Ah G5 rfl) rfl rfl (Po rfl (AG rfl CV .m3 Order.l3 rfl rfl) rfl rfl (Po rfl (Ah Fi rfl) rfl rfl (Po rfl (AG rfl A3 .m3 Order.l1 rfl rfl) rfl rfl (Po rfl (Ah GK rfl) rfl rfl (Pk (Po rfl (AE rfl) rfl rfl Aq))))))))
 refine An 9 rfl (by kernel_rfl) ?_
 refine Ag rfl Pa (.c rfl (.c rfl (.c rfl (.c rfl (.c rfl .n))))) (.c .h (.c .h .n)) (Ev _ X _ _ X.own _ _ _ hXF (by assumption) (Nat.le_trans X.KN (by decide)) (fun i hi => AF.Ld hi)) (fun v11 B hv => ?_)
 obtain ⟨y12, rfl, y13, rfl⟩ := hv
 refine Bp rfl ⟨?_, ?_⟩
 · exact (Pk (Pk (Pk (Pk (Pk (Pk (Pk (Pk Aq))))))))
 refine Pf 10 rfl (A0 rfl) ?_
 refine A4 (by kernel_rfl) ?_
 refine AB (.t4 0 3 4 6) ?_
 refine AA ?_
 refine Be (.t (.t (.t .h))) ?_
 refine Be (.t .h) ?_
 refine QV (Lm := [_, _]) (fun (Z : AF) (m : Hd) => Z = X.Qd o ∧ m.len = Z.out.length) (fun (Z : AF) (m : Hd) => []) (fun (Z : AF) (m : Hd) => [Ac.box b 163 (Ad.enc ⟨Z.w, Z.b, m⟩), Ac.own m 56 16 (Z.out.flatMap Ing.Event.enc)]) (.t4 0 3 4 6) rfl ?_ (fun Z m hC => ?_)
 ·
  refine Gs (Gm rfl (Gt (Ar rfl Tryz.underlying169 rfl) (Gt (Ae rfl rfl) (Gn (.t5 0 3 4 6 44) ?_))))
  refine Gc (fun c4 => ?_) (fun c4 => ?_)
  ·
   have c4p := kz c4
   rw [y13] at c4
   refine AJ (Gm rfl ?_)
   refine Ag rfl ED (.c rfl (.c rfl .n)) (.c .h (.c .h .n)) (Bc _ X _ _ (by assumption) (by rw [hXw.2]; exact hb) (by omega)) (fun v15 B hv => ?_)
   obtain ⟨y16, rfl, y17, rfl⟩ := hv
   refine AQ (AB (.t4 0 3 4 6) ?_)
   refine Eb _ _ ?_ (.t4 0 3 4 6) (.refl _)
   · exact ⟨(AF.Zo (T := X) (o := o) c4).symm, by assumption⟩
  rw [y13] at c4
  refine Aa ?_
  refine AB (.t4 0 3 4 6) ?_
  refine Eb _ _ ?_ (.t4 0 3 4 6) (.refl _)
  · exact ⟨(AF.Zx (T := X) (o := o) c4).symm, by exact hD4⟩
 obtain ⟨hE1, hE2⟩ := hC
 refine Gs (Gm rfl (Gt (Ar rfl Tryz.underlying169 rfl) (Gm rfl (Gn (.t6 0 3 4 47 48 49) (Af ?_)))))
 refine Bo (.t6 49 0 3 4 47 48) ?_
 refine Be (.t .h) ?_
 refine Be (.t .h) ?_
 refine Dt (fun (k : Int) (V : AF) (f : Hd) => 0 ≤ k ∧ V = X.Q4 to o k.toNat ∧ k ≤ ((AF.BP X.w X.own o.nth o.name o.Bj).length : Int) ∧ f.len = V.out.length) (fun (k : Int) (V : AF) (f : Hd) => (((AF.BP X.w X.own o.nth o.name o.Bj).length : Int) - k).toNat) (fun (k : Int) (V : AF) (f : Hd) => [(49, .int .i64 k)]) (fun (k : Int) (V : AF) (f : Hd) => [Ac.box b 163 (Ad.enc ⟨V.w, V.b, f⟩), Ac.own f 56 16 (V.out.flatMap Ing.Event.enc)]) (0) (_) (_) ?_ rfl rfl (fun k V f hI1 => ?_)
 · exact ⟨by omega, hE1, by omega, hE2⟩
 obtain ⟨hI11, hI12, hI13, hI14⟩ := hI1
 refine Gs (Gt (A8 rfl rfl) (AQ (AA (Ao ?_))))
 refine Gc (fun c5 => ?_) (fun c5 => ?_)
 ·
  have c5p := kz c5
  have hx : 0 ≤ ((AF.BP X.w X.own o.nth o.name o.Bj).getD k.toNat 0) ∧ ((AF.BP X.w X.own o.nth o.name o.Bj).getD k.toNat 0) < 9 := AF.Ld (AF.Dn (Bb.Ep (xs := (AF.BP X.w X.own o.nth o.name o.Bj)) (i := k.toNat) (by omega)))
  have hVK := AF.XD X to o k.toNat
  rw [← hI12] at hVK
  have hVb := hVK.2
  have hVo := hVK.1
  have hbV : 0 ≤ V.b ∧ V.b < 6 := by rw [hVb, hXw.2]; exact hb
  refine Aa ?_
  refine AB (.t6 0 3 4 47 48 49) ?_
  refine AA (Ao (Af (Gs ?_)))
  refine Gt (Br GW (by decide) (Kn.own .m3) rfl rfl (by omega) (by omega)) ?_
  refine Gt (DH rfl A3 (Kn.own .m3) (by omega)) ?_
  refine Ga rfl (Gn (.t7 0 3 4 8 47 48 49) (Gs (Gm rfl (Gm rfl (Gt (BT rfl) (Gt (Ah A9 rfl) (Gt (Ah Cw rfl) ?_)))))))
  refine Gt (AR GA rfl rfl (by first | omega | exact hbV.1 | exact hbV.2 | (dsimp only; omega)) (by first | omega | exact hbV.1 | exact hbV.2 | (dsimp only; omega))) ?_
  refine Ga rfl (Gn (.t8 0 3 4 8 9 47 48 49) (Af (Gs (Gm rfl (Gt (BT rfl) (Gt (Ah Gy rfl) ?_))))))
  refine Gt (AG rfl A3 .m0 (((Ad.l0.comp AH.l1).comp (AU.ar (n := 9) Ak.fl (by first | omega | exact hbV | (dsimp only; omega)))).comp Ak.l1) rfl rfl) ?_
  refine Gt (Ae rfl rfl) (Gm rfl (Bi 87 rfl rfl (fun q => AE rfl) (Bi 87 rfl rfl (fun q => BT (Bh rfl q)) (Bi 87 rfl rfl (fun q => Ah F5 (Bh rfl q)) ?_))))
  refine Bi 87 rfl rfl (fun q => by have q1 := q; (try simp at q1); exact AG (Bh rfl q) Dj .m0 (((Ad.l0.comp AH.l1).comp (AU.ar (n := 9) Ak.fl (by first | omega | exact hbV | (dsimp only; omega)))).comp Ak.l4) rfl rfl) ?_
  refine Gt (BK rfl rfl (fun h => h)) (Ga rfl (Gn (.t9 0 3 4 8 9 47 48 49 81) ?_))
  refine Gc (fun c6 => ?_) (fun c6 => ?_)
  ·
   have c6p := kz c6
   refine AJ (Gm rfl ?_)
   refine Ag rfl ED (.c rfl (.c rfl .n)) (.c .h (.c .h .n)) (Bc _ V _ _ (by assumption) hbV (by omega)) (fun v18 B hv => ?_)
   obtain ⟨y19, rfl, y20, rfl⟩ := hv
   refine AQ (AB (.t6 0 3 4 47 48 49) ?_)
   refine AV (AV (AA (AJ ?_)))
   refine Gt (Av rfl rfl (IntWalk.i64_in _ (by first | omega | exact hbV.1 | exact hbV.2 | (dsimp only; omega)))) ?_
   refine Gm rfl ?_
   refine AQ (AB (.t6 0 3 4 47 48 49) ?_)
   refine Bz (k + 1) _ _ ?_ ?_ (.t6 49 0 3 4 47 48) (.refl _)
   · have hq : V.Cn o.verb to ((AF.BP X.w X.own o.nth o.name o.Bj).getD k.toNat 0) = _ := (BB c6)
     (try rw [AF.Du hx.1 hx.2] at *)
     (try rw [AF.Db hx.1 hx.2 hn0] at *)
     exact ⟨by omega, (by (try rw [AF.Du hx.1 hx.2]); (try rw [AF.Db hx.1 hx.2 hn0]); exact hq.symm.trans ((congrArg (fun q => AF.Cn q o.verb to ((AF.BP X.w X.own o.nth o.name o.Bj).getD k.toNat 0)) hI12).trans (AF.Ic hI11 (by show k < (((AF.BP X.w X.own o.nth o.name o.Bj)).length : Int); omega)).symm)), by omega, by assumption⟩
   · omega
  have c6p := kz c6
  refine Gs (Gt (Ah DD rfl) (Gt (AG rfl A3 .m4 Order.l0 rfl rfl) (Gt (Ae rfl rfl) (Ga rfl (Gn (.t9 0 3 4 8 9 47 48 49 95) ?_)))))
  refine Gc (fun c7 => ?_) (fun c7 => ?_)
  ·
   have c7p := kz c7
   refine Ao ?_
   refine BE (N := 19) [0, 0, 0, 0, 8, 24, 56, 4, 132, 388, 1020, 2044, 4092, 8189, 16381, 32765, 65535, 131071, 262143] mix (by kernel_rfl) rfl ?_
   refine Pf 0 rfl (AE rfl) (Pf 1 rfl (AE rfl) (Pf 2 rfl (AE rfl) (Pf 3 rfl (AE rfl) (Pf 4 rfl (BT rfl) (Pf 5 rfl (Ah CP rfl) (Pf 6 rfl (AG rfl A3 .m0 Ad.l1 rfl rfl) (Pf 7 rfl (BT rfl) ?_)))))))
   refine Pf 8 rfl (Ah A9 rfl) (Pf 9 rfl (Ah Bn rfl) ?_)
   refine Pf 10 rfl (AR C6 rfl rfl (by first | omega | exact hbV.1 | exact hbV.2 | (dsimp only; omega)) (by first | omega | exact hbV.1 | exact hbV.2 | (dsimp only; omega))) ?_
   refine Pf 11 rfl (Ah C2 rfl) ?_
   refine Pf 12 rfl (AG rfl A3 .m0 (((Ad.l0.comp AH.l2).comp (AU.ar (n := 6) Aj.fl (by first | omega | exact hbV | (dsimp only; omega)))).comp Aj.l3) rfl rfl) ?_
   refine Pf 13 rfl (BT rfl) (Pf 14 rfl (Ah FU rfl) ?_)
   refine An 15 rfl (by kernel_rfl) ?_
   refine AT (AK (((Ad.l0.comp AH.l1).comp (AU.ar (n := 9) Ak.fl (by first | omega | exact hbV | (dsimp only; omega)))).comp Ak.l2) rfl rfl rfl C5 rfl .h) ?_
   refine BN rfl ⟨?_, ?_⟩
   · exact (Pk (Pk (Pk (Pk (Pk (Pk (Pk (Pk (Pk (Pk (Pk (Pk (Pk (Po rfl (AE rfl) rfl rfl (Pk Aq)))))))))))))))
   refine Pf 16 rfl (BT rfl) (Pf 17 rfl (Ah DF rfl) ?_)
   refine An 18 rfl (by kernel_rfl) ?_
   refine AT (AK (((Ad.l0.comp AH.l1).comp (AU.ar (n := 9) Ak.fl (by first | omega | exact hbV | (dsimp only; omega)))).comp Ak.l3) rfl rfl rfl C5 rfl .h) ?_
   refine BN rfl ⟨?_, ?_⟩
   · exact (Pk (Pk (Pk (Pk (Pk (Pk (Pk (Pk (Pk (Pk (Pk (Pk (Pk (Pk (Pk (Pk (Pk Aq)))))))))))))))))
   refine A4 (by kernel_rfl) ?_
   refine AB (.t7 0 3 4 8 47 48 49) ?_
   refine AA ?_
   refine GC (fun _ => .h) (congrArg (fun q => Ad.enc ⟨q, _, _⟩) (AF.HM V hx.1 hx.2 0 (V.w.AN.at V.b).room)) ?_
   refine AJ (Gm rfl (Gm rfl ?_))
   refine Ag rfl Nd (.c rfl (.c rfl (.c rfl .n))) (.c .h (.c .h .n)) (Dx _ (V.place ((AF.BP X.w X.own o.nth o.name o.Bj).getD k.toNat 0) 0 (V.w.AN.at V.b).room) _ 4 ((AF.BP X.w X.own o.nth o.name o.Bj).getD k.toNat 0) (by assumption) hbV hx (show V.out.length ≤ 100000 by omega)) (fun v21 B hv => ?_)
   obtain ⟨y22, rfl, y23, rfl⟩ := hv
   refine AQ (AB (.t6 0 3 4 47 48 49) ?_)
   refine AV (AV (AA (AJ ?_)))
   refine Gt (Av rfl rfl (IntWalk.i64_in _ (by first | omega | exact hbV.1 | exact hbV.2 | (dsimp only; omega)))) ?_
   refine Gm rfl ?_
   refine AQ (AB (.t6 0 3 4 47 48 49) ?_)
   refine Bz (k + 1) _ _ ?_ ?_ (.t6 49 0 3 4 47 48) (.refl _)
   · have hq : V.Cn o.verb to ((AF.BP X.w X.own o.nth o.name o.Bj).getD k.toNat 0) = _ := ((AW c6).trans (BB c7))
     (try rw [AF.Du hx.1 hx.2] at *)
     (try rw [AF.Db hx.1 hx.2 hn0] at *)
     exact ⟨by omega, (by (try rw [AF.Du hx.1 hx.2]); (try rw [AF.Db hx.1 hx.2 hn0]); exact hq.symm.trans ((congrArg (fun q => AF.Cn q o.verb to ((AF.BP X.w X.own o.nth o.name o.Bj).getD k.toNat 0)) hI12).trans (AF.Ic hI11 (by show k < (((AF.BP X.w X.own o.nth o.name o.Bj)).length : Int); omega)).symm)), by omega, by assumption⟩
   · omega
  have c7p := kz c7
  refine Gs (Gt (Ah DD rfl) (Gt (AG rfl A3 .m4 Order.l0 rfl rfl) (Gt (Ae rfl rfl) (Ga rfl (Gn (.t9 0 3 4 8 9 47 48 49 119) ?_)))))
  refine Gc (fun c8 => ?_) (fun c8 => ?_)
  ·
   have c8p := kz c8
   refine Gs (Gm rfl (Gm rfl (Gm rfl (Gt (BT rfl) (Gt (Ah FU rfl) ?_)))))
   refine AT (AK (((Ad.l0.comp AH.l1).comp (AU.ar (n := 9) Ak.fl (by first | omega | exact hbV | (dsimp only; omega)))).comp Ak.l2) rfl rfl rfl C5 rfl .h) ?_
   refine Gt (BT rfl) (Gt (Ah DF rfl) ?_)
   refine AT (AK (((Ad.l0.comp AH.l1).comp (AU.ar (n := 9) Ak.fl (by first | omega | exact hbV | (dsimp only; omega)))).comp Ak.l3) rfl rfl rfl C5 rfl .h) ?_
   refine Gn (.t7 0 3 4 9 47 48 49) ?_
   refine GC (fun _ => .h) (congrArg (fun q => Ad.enc ⟨q, _, _⟩) (AF.HM V hx.1 hx.2 1 to)) ?_
   refine AJ (Gm rfl (Gm rfl (Gm rfl (Gt (BT rfl) (Gt (Ah MS rfl) ?_)))))
   refine Gt (AG rfl CV .m0 (((Ad.l0.comp AH.l1).comp (AU.ar (n := 9) Ak.fl (by first | omega | exact hbV | (dsimp only; omega)))).comp Ak.l0) rfl rfl) ?_
   refine Gt (BC N9 IP rfl (.cons Ing.Event.l0 rfl rfl rfl (.cons Ing.Event.l3 rfl rfl rfl (.cons Ing.Event.l8 rfl rfl rfl .nil)))) ?_
   refine Ag rfl O9 (.c rfl (.c rfl .n)) (.c .h (.c .h .n)) (CL _ (V.place ((AF.BP X.w X.own o.nth o.name o.Bj).getD k.toNat 0) 1 to) _ { AF.Fk 6 with other := to, Bs := ((V.place ((AF.BP X.w X.own o.nth o.name o.Bj).getD k.toNat 0) 1 to).w.AO.at ((AF.BP X.w X.own o.nth o.name o.Bj).getD k.toNat 0)).name } (by assumption) hbV (show to < 6 from (hok hv).dz (by omega)) (show V.out.length ≤ 100000 by omega)) (fun v24 B hv => ?_)
   obtain ⟨y25, rfl, y26, rfl⟩ := hv
   refine AQ (AB (.t6 0 3 4 47 48 49) ?_)
   refine AV (AV (AA (AJ ?_)))
   refine Gt (Av rfl rfl (IntWalk.i64_in _ (by first | omega | exact hbV.1 | exact hbV.2 | (dsimp only; omega)))) ?_
   refine Gm rfl ?_
   refine AQ (AB (.t6 0 3 4 47 48 49) ?_)
   refine Bz (k + 1) _ _ ?_ ?_ (.t6 49 0 3 4 47 48) (.refl _)
   · have hq : V.Cn o.verb to ((AF.BP X.w X.own o.nth o.name o.Bj).getD k.toNat 0) = _ := ((AW c6).trans ((AW c7).trans (BB c8)))
     (try rw [AF.Du hx.1 hx.2] at *)
     (try rw [AF.Db hx.1 hx.2 hn0] at *)
     exact ⟨by omega, (by (try rw [AF.Du hx.1 hx.2]); (try rw [AF.Db hx.1 hx.2 hn0]); exact hq.symm.trans ((congrArg (fun q => AF.Cn q o.verb to ((AF.BP X.w X.own o.nth o.name o.Bj).getD k.toNat 0)) hI12).trans (AF.Ic hI11 (by show k < (((AF.BP X.w X.own o.nth o.name o.Bj)).length : Int); omega)).symm)), by omega, by assumption⟩
   · omega
  have c8p := kz c8
  refine Gs (Gm rfl (Gt (BT rfl) (Gt (Ah A9 rfl) (Gt (AZ rfl BW .m0 Ad.l0 rfl) (Gm rfl (Gm rfl ?_))))))
  refine BA rfl aZ (.c rfl (.c rfl (.c rfl .n))) (fun w hS => MT _ _ _ w) ?_
  refine Ga rfl (Gn (.t8 0 3 4 9 47 48 49 138) ?_)
  refine Gc (fun c9 => ?_) (fun c9 => ?_)
  ·
   have c9p := kz c9
   refine AJ (Gm rfl ?_)
   refine Ag rfl ED (.c rfl (.c rfl .n)) (.c .h (.c .h .n)) (Bc _ V _ _ (by assumption) hbV (by omega)) (fun v27 B hv => ?_)
   obtain ⟨y28, rfl, y29, rfl⟩ := hv
   refine AQ (AB (.t6 0 3 4 47 48 49) ?_)
   refine AV (AV (AA (AJ ?_)))
   refine Gt (Av rfl rfl (IntWalk.i64_in _ (by first | omega | exact hbV.1 | exact hbV.2 | (dsimp only; omega)))) ?_
   refine Gm rfl ?_
   refine AQ (AB (.t6 0 3 4 47 48 49) ?_)
   refine Bz (k + 1) _ _ ?_ ?_ (.t6 49 0 3 4 47 48) (.refl _)
   · have hq : V.Cn o.verb to ((AF.BP X.w X.own o.nth o.name o.Bj).getD k.toNat 0) = _ := ((AW c6).trans ((AW c7).trans ((AW c8).trans (BB c9))))
     (try rw [AF.Du hx.1 hx.2] at *)
     (try rw [AF.Db hx.1 hx.2 hn0] at *)
     exact ⟨by omega, (by (try rw [AF.Du hx.1 hx.2]); (try rw [AF.Db hx.1 hx.2 hn0]); exact hq.symm.trans ((congrArg (fun q => AF.Cn q o.verb to ((AF.BP X.w X.own o.nth o.name o.Bj).getD k.toNat 0)) hI12).trans (AF.Ic hI11 (by show k < (((AF.BP X.w X.own o.nth o.name o.Bj)).length : Int); omega)).symm)), by omega, by assumption⟩
   · omega
  have c9p := kz c9
  refine Gs (Gm rfl (Gm rfl (Gm rfl (Gt (BT rfl) (Gt (Ah FU rfl) ?_)))))
  refine AT (AK (((Ad.l0.comp AH.l1).comp (AU.ar (n := 9) Ak.fl (by first | omega | exact hbV | (dsimp only; omega)))).comp Ak.l2) rfl rfl rfl C5 rfl .h) ?_
  refine Gt (BT rfl) (Gt (Ah DF rfl) ?_)
  refine AT (AK (((Ad.l0.comp AH.l1).comp (AU.ar (n := 9) Ak.fl (by first | omega | exact hbV | (dsimp only; omega)))).comp Ak.l3) rfl rfl rfl C5 rfl .h) ?_
  refine Gn (.t7 0 3 4 9 47 48 49) ?_
  refine GC (fun _ => .h) (congrArg (fun q => Ad.enc ⟨q, _, _⟩) (AF.HM V hx.1 hx.2 2 to)) ?_
  refine BE (N := 15) [0, 0, 2, 6, 14, 0, 0, 32, 160, 416, 992, 2016, 4064, 8190, 16383] mix (by kernel_rfl) rfl ?_
  refine Pf 0 rfl (AE rfl) (Pf 1 rfl (AE rfl) (Pf 2 rfl (BT rfl) (Pf 3 rfl (Ah MS rfl) ?_)))
  refine Pf 4 rfl (AG rfl CV .m0 (((Ad.l0.comp AH.l1).comp (AU.ar (n := 9) Ak.fl (by first | omega | exact hbV | (dsimp only; omega)))).comp Ak.l0) rfl rfl) ?_
  refine Pf 5 rfl (AE rfl) (Pf 6 rfl (AE rfl) (Pf 7 rfl (BT rfl) (Pf 8 rfl (Ah A9 rfl) (Pf 9 rfl (Ah Cw rfl) ?_))))
  refine Pf 10 rfl (AR GA rfl rfl (by first | omega | exact hbV.1 | exact hbV.2 | (dsimp only; omega)) (by first | omega | exact hbV.1 | exact hbV.2 | (dsimp only; omega))) ?_
  refine Pf 11 rfl (Ah MS rfl) ?_
  refine Pf 12 rfl (AG rfl CV .m0 (((Ad.l0.comp AH.l1).comp (AU.ar (n := 9) Ak.fl (by first | omega | exact hbV | (dsimp only; omega)))).comp Ak.l0) rfl rfl) ?_
  refine Pf 13 rfl (BC N9 IP rfl (.cons Ing.Event.l0 rfl rfl rfl (.cons Ing.Event.l3 rfl rfl rfl (.cons Ing.Event.l8 rfl rfl rfl (.cons Ing.Event.l9 rfl rfl rfl .nil))))) ?_
  refine An 14 rfl (by kernel_rfl) ?_
  refine Ag rfl O9 (.c rfl (.c rfl .n)) (.c .h (.c .h .n)) (CL _ (V.place ((AF.BP X.w X.own o.nth o.name o.Bj).getD k.toNat 0) 2 to) _ { AF.Fk 5 with Bs := ((V.place ((AF.BP X.w X.own o.nth o.name o.Bj).getD k.toNat 0) 2 to).w.AO.at ((AF.BP X.w X.own o.nth o.name o.Bj).getD k.toNat 0)).name, text := ((V.place ((AF.BP X.w X.own o.nth o.name o.Bj).getD k.toNat 0) 2 to).w.AO.at to).name } (by assumption) hbV (show (-1 : Int) < 6 by decide) (show V.out.length ≤ 100000 by omega)) (fun v30 B hv => ?_)
  obtain ⟨y31, rfl, y32, rfl⟩ := hv
  refine Bp rfl ⟨?_, ?_⟩
  · exact (Pk (Pk (Pk (Pk (Pk (Pk (Pk (Pk (Pk (Pk (Pk (Pk (Pk (Pk Aq))))))))))))))
  refine A4 (by kernel_rfl) ?_
  refine AB (.t6 0 3 4 47 48 49) ?_
  refine AV (AV (AA (AJ ?_)))
  refine Gt (Av rfl rfl (IntWalk.i64_in _ (by first | omega | exact hbV.1 | exact hbV.2 | (dsimp only; omega)))) ?_
  refine Gm rfl ?_
  refine AQ (AB (.t6 0 3 4 47 48 49) ?_)
  refine Bz (k + 1) _ _ ?_ ?_ (.t6 49 0 3 4 47 48) (.refl _)
  · have hq : V.Cn o.verb to ((AF.BP X.w X.own o.nth o.name o.Bj).getD k.toNat 0) = _ := ((AW c6).trans ((AW c7).trans ((AW c8).trans (AW c9))))
    (try rw [AF.Du hx.1 hx.2] at *)
    (try rw [AF.Db hx.1 hx.2 hn0] at *)
    exact ⟨by omega, (by (try rw [AF.Du hx.1 hx.2]); (try rw [AF.Db hx.1 hx.2 hn0]); exact hq.symm.trans ((congrArg (fun q => AF.Cn q o.verb to ((AF.BP X.w X.own o.nth o.name o.Bj).getD k.toNat 0)) hI12).trans (AF.Ic hI11 (by show k < (((AF.BP X.w X.own o.nth o.name o.Bj)).length : Int); omega)).symm)), by omega, by assumption⟩
  · omega
 have c5p := kz c5
 obtain rfl : k = ((AF.BP X.w X.own o.nth o.name o.Bj).length : Int) := by omega
 refine Bf (AX (AX (Ai ?_)))
 refine Bk rfl .n ?_
 intro w1 hS
 have hS := (hS.perm (Ax.perm (.c .h (.c .h .n)))).A1
 have hq : T.E8 o = V := hgo.trans (hI12.trans AF.WX).symm
 refine ⟨_, ⟨?gq2, rfl, ?hl2, ?hB2⟩, hS⟩
 case hB2 => rw [hq]; (try rfl)
 case hl2 => rw [hq]; exact hI14
theorem Jx (s : Ap) (w : World) (gl0 : GV 0 AH.DG w) : Ei Tryz.prog 138 #[BS s] w fun v w' => v = .tuple #[.int .i64 (Words.dir s).1, .bool (Words.dir s).2] ∧ CB w w' := by
 refine Al [] [] Tryz.func138 rfl rfl rfl (St.start w []) ?_
 refine Gs (Ga rfl (Ga rfl (Gn (.t1 0) (CG (Gm rfl (AQ (AA ?_)))))))
 refine Af ?_
 refine Bo (.t2 5 0) ?_
 refine Ci (fun (k : Int) => 0 ≤ k ∧ k ≤ 6 ∧ Words.Oo s 6 = Words.Oo s (6 - k).toNat) (fun (k : Int) => (6 - k).toNat) (fun (k : Int) => [(5, .int .i64 k)]) (fun (k : Int) => []) (0) ?_ rfl rfl (fun k hI1 => ?_)
 · exact ⟨by omega, by omega, rfl⟩
 obtain ⟨hI11, hI12, hI13⟩ := hI1
 refine Gs (Gt (A8 rfl rfl) (AQ (AA (Ao ?_))))
 refine Gc (fun c1 => ?_) (fun c1 => ?_)
 ·
  have c1p := kz c1
  rw [Words.Vx hI11 (by omega)] at hI13
  refine Aa ?_
  refine AB (.t2 0 5) ?_
  refine AA (Ao (Af (Gs (Gm rfl (Ga rfl (Gn (.t3 0 4 5) (Gs ?_)))))))
  refine Gm rfl ?_
  refine Gt (AR WJ rfl rfl (by omega) (by omega)) ?_
  refine Gt (RF gl0 rfl CV (AH.OX (by omega) (by omega))) ?_
  refine Gm rfl (Gt (Bw rfl rfl) (Gn (.t4 0 4 5 12) ?_))
  refine Gc (fun c2 => ?_) (fun c2 => ?_)
  ·
   refine Gs (Gm rfl (Ga rfl (Ga rfl (Gn (.t2 2 3) (Ab (AS (AD ?_)))))))
   refine AD (AS (AD ?_))
   refine AY rfl (.tmp rfl (.tmp rfl .n)) ?_
   intro w1 hS; refine ⟨?_, hS.Am⟩; rw [Words.dir, hI13, BB c2]; rfl
  have c2p := kz c2
  refine Aa ?_
  refine AB (.t2 0 5) ?_
  refine AV (AA (AJ ?_))
  refine Gt (Av rfl rfl (IntWalk.i64_in _ (by omega))) ?_
  refine Gm rfl ?_
  refine AQ (AB (.t2 0 5) ?_)
  refine B8 (k + 1) ?_ ?_ (.t2 5 0) (.refl _)
  · exact ⟨by omega, by omega, by rw [hI13, AW c2]⟩
  · omega
 have c1p := kz c1
 obtain rfl : k = 6 := by omega
 refine Bf (AX (AX (Ai ?_)))
 refine AB (.nil _) ?_
 refine AA (Gs (Ga rfl (Ga rfl (AQ (AA (Ab ?_))))))
 refine AY rfl (.tmp rfl (.tmp rfl .n)) ?_
 intro w1 hS; refine ⟨?_, hS.Am⟩; rw [Words.dir, hI13]; rfl
theorem Qz (b : Nat) (T : AF) (g : Hd) (d : Int) (p : Bool) (k : Int) (hg : g.len = T.out.length) (hF : T.Fit) (hd : 0 ≤ d ∧ d < 6) (hn : T.out.length ≤ 90000) : JS Tryz.prog 139 #[.pointer (some ⟨b, 0, none⟩), .int .i64 d, .bool p, .int .i64 k] [Ac.box b 163 (Ad.enc ⟨T.w, T.b, g⟩), Ac.own g 56 16 (T.out.flatMap Ing.Event.enc)] (fun v B => ∃ g' : Hd, v = .tuple #[] ∧ g'.len = (T.Gz d p k).out.length ∧ B = [Ac.box b 163 (Ad.enc ⟨(T.Gz d p k).w, (T.Gz d p k).b, g'⟩), Ac.own g' 56 16 ((T.Gz d p k).out.flatMap Ing.Event.enc)]) := by
 intro w hS0
 have hb := hF.b
 have hr := hF.room
 have hx := hF.exit hd.1 hd.2
 have hop := AH.L3 d
 refine Al _ _ Tryz.func139 rfl rfl rfl (hS0) ?_
 refine Ao ?_
 refine BE (N := 12) [0, 0, 2, 6, 14, 1, 33, 97, 255, 511, 1023, 2047] mix (by kernel_rfl) rfl ?_
 refine Pf 0 rfl (AE rfl) (Pf 1 rfl (AE rfl) (Pf 2 rfl (BT rfl) (Pf 3 rfl (Ah CP rfl) (Pf 4 rfl (AG rfl A3 .m0 Ad.l1 rfl rfl) (Pf 5 rfl (BT rfl) (Pf 6 rfl (Ah A9 rfl) (Pf 7 rfl (Ah Bn rfl) ?_)))))))
 refine Pf 8 rfl (AR C6 rfl rfl (by first | omega | exact hb.1 | exact hb.2 | exact hr.1 | exact hr.2 | (dsimp only; omega)) (by first | omega | exact hb.1 | exact hb.2 | exact hr.1 | exact hr.2 | (dsimp only; omega))) ?_
 refine Pf 9 rfl (Ah C2 rfl) ?_
 refine Pf 10 rfl (AG rfl A3 .m0 (((Ad.l0.comp AH.l2).comp (AU.ar (n := 6) Aj.fl (by first | omega | exact hb | exact hr | (dsimp only; omega)))).comp Aj.l3) rfl rfl) ?_
 refine Pf 11 rfl (A0 rfl) ?_
 refine A4 (by kernel_rfl) ?_
 refine AB (.t5 0 1 2 3 8) ?_
 refine AA (Gs (Gm rfl (Gm rfl (Gm rfl (Gt (BT rfl) (Gt (Ah A9 rfl) (Gt (Ah Gv rfl) ?_)))))))
 refine Gt (AR Ox rfl rfl (by first | omega | exact hb.1 | exact hb.2 | exact hr.1 | exact hr.2 | (dsimp only; omega)) (by first | omega | exact hb.1 | exact hb.2 | exact hr.1 | exact hr.2 | (dsimp only; omega))) ?_
 refine Gt (Ah MM rfl) ?_
 refine Gt (AR SU rfl rfl (by first | omega | exact hb.1 | exact hb.2 | exact hr.1 | exact hr.2 | (dsimp only; omega)) (by first | omega | exact hb.1 | exact hb.2 | exact hr.1 | exact hr.2 | (dsimp only; omega))) ?_
 refine Gt (AG rfl A3 .m0 ((((Ad.l0.comp AH.l0).comp (AU.ar (n := 6) Room.fl (by first | omega | exact hb | exact hr | (dsimp only; omega)))).comp Room.l2).comp (AU.ar (n := 6) Bv (by first | omega | exact hb | exact hr | (dsimp only; omega)))) rfl rfl) ?_
 refine Gt (E3 rfl rfl (IntWalk.i64_in _ (by first | omega | exact hb.1 | exact hb.2 | exact hr.1 | exact hr.2 | (dsimp only; omega)))) ?_
 refine Ga rfl (Gn (.t6 0 1 2 3 8 9) (Af (Gs (Gm rfl (Gt (A8 rfl rfl) (Ga rfl (Gn (.t7 0 1 2 3 8 9 74) ?_)))))))
 refine Gc (fun c1 => ?_) (fun c1 => ?_)
 ·
  have c1p := kz c1
  try dsimp only at c1p
  refine AJ (Gm rfl ?_)
  refine Ag rfl ED (.c rfl (.c rfl .n)) (.c .h (.c .h .n)) (Bc _ _ _ _ hg hb (by omega)) (fun v1 B hv => ?_)
  obtain ⟨y2, rfl, y3, rfl⟩ := hv
  refine AQ (AB (.nil _) ?_)
  refine AV ?_
  refine Bk rfl .n ?_
  intro w1 hS
  have hS := (hS.perm (Ax.perm (.c .h (.c .h .n)))).A1
  have hq : T.Gz d p k = _ := (BB c1)
  refine ⟨_, ⟨?gq1, rfl, ?hl1, ?hB1⟩, hS⟩
  case hB1 => rw [hq]; (try rfl)
  case hl1 => rw [hq]; assumption
 have c1p := kz c1
 try dsimp only at c1p
 refine Gs (Gm rfl (Gm rfl (Gm rfl (Gt (BT rfl) (Gt (Ah A9 rfl) (Gt (Ah Gv rfl) ?_))))))
 refine Gt (AR Ox rfl rfl (by first | omega | exact hb.1 | exact hb.2 | exact hr.1 | exact hr.2 | (dsimp only; omega)) (by first | omega | exact hb.1 | exact hb.2 | exact hr.1 | exact hr.2 | (dsimp only; omega))) ?_
 refine Gt (Ah Mc rfl) ?_
 refine Gt (AR VO rfl rfl (by first | omega | exact hb.1 | exact hb.2 | exact hr.1 | exact hr.2 | (dsimp only; omega)) (by first | omega | exact hb.1 | exact hb.2 | exact hr.1 | exact hr.2 | (dsimp only; omega))) ?_
 refine Gt (AG rfl Dj .m0 ((((Ad.l0.comp AH.l0).comp (AU.ar (n := 6) Room.fl (by first | omega | exact hb | exact hr | (dsimp only; omega)))).comp Room.l3).comp (AU.ar (n := 6) HF (by first | omega | exact hb | exact hr | (dsimp only; omega)))) rfl rfl) ?_
 refine Gm rfl (Gt (Jg Tryz.underlying4 rfl rfl) (Ga rfl (Gn (.t7 0 1 2 3 8 9 79) ?_)))
 refine Gc (fun c2 => ?_) (fun c2 => ?_)
 ·
  have c2p := kz c2
  try dsimp only at c2p
  refine AJ (Gm rfl ?_)
  refine Ag rfl ED (.c rfl (.c rfl .n)) (.c .h (.c .h .n)) (Bc _ _ _ _ hg hb (by omega)) (fun v4 B hv => ?_)
  obtain ⟨y5, rfl, y6, rfl⟩ := hv
  refine AQ (AB (.nil _) ?_)
  refine AV ?_
  refine Bk rfl .n ?_
  intro w1 hS
  have hS := (hS.perm (Ax.perm (.c .h (.c .h .n)))).A1
  have hq : T.Gz d p k = _ := ((AW c1).trans (BB c2))
  refine ⟨_, ⟨?gq2, rfl, ?hl2, ?hB2⟩, hS⟩
  case hB2 => rw [hq]; (try rfl)
  case hl2 => rw [hq]; assumption
 have c2p := kz c2
 try dsimp only at c2p
 refine Gs (Gm rfl (Gm rfl (Gm rfl (Gm rfl (Gt (BV rfl) (Gt (BT rfl) (Gt (Ah A9 rfl) ?_)))))))
 refine Gt (Ah Gv rfl) ?_
 refine Gt (AR Ox rfl rfl (by first | omega | exact hb.1 | exact hb.2 | exact hr.1 | exact hr.2 | (dsimp only; omega)) (by first | omega | exact hb.1 | exact hb.2 | exact hr.1 | exact hr.2 | (dsimp only; omega))) ?_
 refine Gt (Ah Mc rfl) ?_
 refine Gt (AR VO rfl rfl (by first | omega | exact hb.1 | exact hb.2 | exact hr.1 | exact hr.2 | (dsimp only; omega)) (by first | omega | exact hb.1 | exact hb.2 | exact hr.1 | exact hr.2 | (dsimp only; omega))) ?_
 refine AT (AK ((((Ad.l0.comp AH.l0).comp (AU.ar (n := 6) Room.fl (by first | omega | exact hb | exact hr | (dsimp only; omega)))).comp Room.l3).comp (AU.ar (n := 6) HF (by first | omega | exact hb | exact hr | (dsimp only; omega)))) rfl rfl rfl KX rfl .h) ?_
 refine Gn (.t6 0 1 2 3 8 9) (CG (Gm rfl ?_))
 refine BA rfl Yy (.c rfl .n) (fun w hS => HJ _ w) ?_
 refine Ga rfl (Gn (.t6 0 2 3 8 9 10) (Gs (Gm rfl (Gm rfl (Gm rfl (Gt (BT rfl) (Gt (Ah A9 rfl) ?_)))))))
 refine Gt (Ah Gv rfl) ?_
 refine Gt (AR Ox rfl rfl (by first | omega | exact hb.1 | exact hb.2 | exact hr.1 | exact hr.2 | (dsimp only; omega)) (by first | omega | exact hb.1 | exact hb.2 | exact hr.1 | exact hr.2 | (dsimp only; omega))) ?_
 refine Gt (Ah MM rfl) ?_
 refine Gt (AR SU rfl rfl (by first | omega | exact hb.1 | exact hb.2 | exact hr.1 | exact hr.2 | (dsimp only; omega)) (by first | omega | exact hb.1 | exact hb.2 | exact hr.1 | exact hr.2 | (dsimp only; omega))) ?_
 refine Gt (AG rfl A3 .m0 ((((Ad.l0.comp AH.l0).comp (AU.ar (n := 6) Room.fl (by first | omega | exact hb | exact hr | (dsimp only; omega)))).comp Room.l2).comp (AU.ar (n := 6) Bv (by first | omega | exact hb | exact hr | (dsimp only; omega)))) rfl rfl) ?_
 refine Gm rfl ?_
 refine Gt (Av rfl rfl (IntWalk.i64_in _ (by first | omega | exact hb.1 | exact hb.2 | exact hr.1 | exact hr.2 | (dsimp only; omega)))) ?_
 refine Gt (Ae rfl rfl) (Gn (.t6 0 2 3 9 10 58) ?_)
 refine Gc (fun c3 => ?_) (fun c3 => ?_)
 ·
  have c3p := kz c3
  try dsimp only at c3p
  refine AJ (Gm rfl (Gm rfl (Gm rfl (Gm rfl (Gt (BV rfl) (Gt (BT rfl) (Gt (Ah A9 rfl) ?_)))))))
  refine Gt (Ah Gv rfl) ?_
  refine Gt (AR Ox rfl rfl (by first | omega | exact hb.1 | exact hb.2 | exact hr.1 | exact hr.2 | (dsimp only; omega)) (by first | omega | exact hb.1 | exact hb.2 | exact hr.1 | exact hr.2 | (dsimp only; omega))) ?_
  refine Gt (Ah Mc rfl) ?_
  refine Gt (AR VO rfl rfl (by first | omega | exact hb.1 | exact hb.2 | exact hr.1 | exact hr.2 | (dsimp only; omega)) (by first | omega | exact hb.1 | exact hb.2 | exact hr.1 | exact hr.2 | (dsimp only; omega))) ?_
  refine AT (AK ((((Ad.l0.comp AH.l0).comp (AU.ar (n := 6) Room.fl (by first | omega | exact hb | exact hr | (dsimp only; omega)))).comp Room.l3).comp (AU.ar (n := 6) HF (by first | omega | exact hb | exact hr | (dsimp only; omega)))) rfl rfl rfl KX rfl .h) ?_
  refine Gn (.t2 0 3) (AJ (Gm rfl (Gm rfl (Gt (BC N9 IP rfl (.cons Ing.Event.l0 rfl rfl rfl (.cons Ing.Event.l3 rfl rfl rfl (.cons Ing.Event.l8 rfl rfl rfl .nil)))) ?_))))
  refine Ag rfl O9 (.c rfl (.c rfl .n)) (.c .h (.c .h .n)) (CL _ (AF.C4 (T.C4 T.me.room d (!p)) ((T.w.BQ.at (T.w.AN.at T.b).room).CM.at d - 1) (AH.opposite d) (!p)) _ { AF.Fk k with Bs := AF.Pb } hg hb (show (-1 : Int) < 6 by decide) (show T.out.length ≤ 100000 by omega)) (fun v7 B hv => ?_)
  obtain ⟨y8, rfl, y9, rfl⟩ := hv
  refine AQ (AB (.nil _) ?_)
  refine AV ?_
  refine Bk rfl .n ?_
  intro w1 hS
  have hS := (hS.perm (Ax.perm (.c .h (.c .h .n)))).A1
  have hq : T.Gz d p k = _ := (show T.Gz d p k = _ from (AW c1).trans (AW c2)).trans (congrArg (fun q => AF.BO q { AF.Fk k with Bs := AF.Pb }) (BB c3))
  refine ⟨_, ⟨?gq3, rfl, ?hl3, ?hB3⟩, hS⟩
  case hB3 => rw [hq]; (try rfl)
  case hl3 => rw [hq]; assumption
 have c3p := kz c3
 try dsimp only at c3p
 refine Aa ?_
 refine AB (.t2 0 3) ?_
 refine AA (AJ (Gm rfl (Gm rfl (Gt (BC N9 IP rfl (.cons Ing.Event.l0 rfl rfl rfl (.cons Ing.Event.l3 rfl rfl rfl (.cons Ing.Event.l8 rfl rfl rfl .nil)))) ?_))))
 refine Ag rfl O9 (.c rfl (.c rfl .n)) (.c .h (.c .h .n)) (CL _ (T.C4 T.me.room d (!p)) _ { AF.Fk k with Bs := AF.Pb } hg hb (show (-1 : Int) < 6 by decide) (show T.out.length ≤ 100000 by omega)) (fun v10 B hv => ?_)
 obtain ⟨y11, rfl, y12, rfl⟩ := hv
 refine AQ (AB (.nil _) ?_)
 refine AV ?_
 refine Bk rfl .n ?_
 intro w1 hS
 have hS := (hS.perm (Ax.perm (.c .h (.c .h .n)))).A1
 have hq : T.Gz d p k = _ := (show T.Gz d p k = _ from (AW c1).trans (AW c2)).trans (congrArg (fun q => AF.BO q { AF.Fk k with Bs := AF.Pb }) (AW c3))
 refine ⟨_, ⟨?gq4, rfl, ?hl4, ?hB4⟩, hS⟩
 case hB4 => rw [hq]; (try rfl)
 case hl4 => rw [hq]; assumption
theorem Fy (b : Nat) (T : AF) (g : Hd) (a : Bool) (i : Int) (p : Bool) (k : Int) (hg : g.len = T.out.length) (hb : 0 ≤ T.b ∧ T.b < 6) (hi : 0 ≤ i ∧ i < 9) (hn : T.out.length ≤ 90000) : JS Tryz.prog 140 #[.pointer (some ⟨b, 0, none⟩), .bool a, .int .i64 i, .bool p, .int .i64 k] [Ac.box b 163 (Ad.enc ⟨T.w, T.b, g⟩), Ac.own g 56 16 (T.out.flatMap Ing.Event.enc)] (fun v B => ∃ g' : Hd, v = .tuple #[] ∧ g'.len = (T.before a i p k).out.length ∧ B = [Ac.box b 163 (Ad.enc ⟨(T.before a i p k).w, (T.before a i p k).b, g'⟩), Ac.own g' 56 16 ((T.before a i p k).out.flatMap Ing.Event.enc)]) := by
 intro w hS0
 refine Al _ _ Tryz.func140 rfl rfl rfl (hS0) ?_
 refine CG (Gm rfl (Gn (.t5 0 2 3 4 10) ?_))
 refine Gc (fun c1 => ?_) (fun c1 => ?_)
 ·
  have c1p := kz c1
  refine Gs (Gm rfl (Gm rfl (Gm rfl (Gt (BT rfl) (Gt (Ah A9 rfl) (Gt (Ah Cw rfl) ?_))))))
  refine Gt (AR GA rfl rfl (by first | omega | exact hb.1 | exact hb.2 | (dsimp only; omega)) (by first | omega | exact hb.1 | exact hb.2 | (dsimp only; omega))) ?_
  refine Gt (Ah F5 rfl) ?_
  refine AT (AK (((Ad.l0.comp AH.l1).comp (AU.ar (n := 9) Ak.fl (by first | omega | exact hb | (dsimp only; omega)))).comp Ak.l4) rfl rfl rfl KX rfl .h) ?_
  refine Gn (.t3 0 2 4) (Gs (Gm rfl (Gm rfl (Gm rfl ?_))))
  refine Ag rfl Nd (.c rfl (.c rfl (.c rfl .n))) (.c .h (.c .h .n)) (Dx _ (T.C7 i { T.w.AO.at i with on := p }) _ k i hg hb hi (show T.out.length ≤ 100000 by omega)) (fun v1 B hv => ?_)
  obtain ⟨y2, rfl, y3, rfl⟩ := hv
  refine Gn (.nil _) (Ab (AD ?_))
  refine AY rfl .n ?_
  intro w1 hS
  have hS := (hS.perm (Ax.perm (.c .h (.c .h .n)))).A1
  have hq : T.before a i p k = _ := (BB c1)
  refine ⟨_, ⟨?gq1, rfl, ?hl1, ?hB1⟩, hS⟩
  case hB1 => rw [hq]; (try rfl)
  case hl1 => rw [hq]; assumption
 have c1p := kz c1
 refine Aa ?_
 refine AB (.t4 0 2 3 4) ?_
 refine AA (Gs (Gm rfl (Gm rfl (Gm rfl ?_))))
 refine Ag rfl Nd (.c rfl (.c rfl (.c rfl .n))) (.c .h (.c .h .n)) (Dx _ T _ k i hg hb hi (show T.out.length ≤ 100000 by omega)) (fun v4 B hv => ?_)
 obtain ⟨y5, rfl, y6, rfl⟩ := hv
 refine Gn (.t3 0 2 3) (AJ (Gm rfl (Gm rfl (Gm rfl (Gt (BT rfl) (Gt (Ah A9 rfl) (Gt (Ah Cw rfl) ?_)))))))
 refine Gt (AR GA rfl rfl (by first | omega | exact hb.1 | exact hb.2 | (dsimp only; omega)) (by first | omega | exact hb.1 | exact hb.2 | (dsimp only; omega))) ?_
 refine Gt (Ah F5 rfl) ?_
 refine AT (AK (((Ad.l0.comp AH.l1).comp (AU.ar (n := 9) Ak.fl (by first | omega | exact hb | (dsimp only; omega)))).comp Ak.l4) rfl rfl rfl KX rfl .h) ?_
 refine AQ ?_
 refine Bk rfl .n ?_
 intro w1 hS
 have hS := (hS.perm (Ax.perm (.c .h (.c .h .n)))).A1
 have hq : T.before a i p k = _ := (AW c1)
 refine ⟨_, ⟨?gq2, rfl, ?hl2, ?hB2⟩, hS⟩
 case hB2 => rw [hq]; (try rfl)
 case hl2 => rw [hq]; assumption
theorem R5 (b : Nat) (T : AF) (g : Hd) (o : Order) (hg : g.len = T.out.length) (hF : T.Fit) (hv : 12 ≤ o.verb ∧ o.verb ≤ 17) (hn : T.out.length ≤ 80000) : FL Tryz.prog 107 #[.pointer (some ⟨b, 0, none⟩), .agg o.enc.toArray] [Ac.box b 163 (Ad.enc ⟨T.w, T.b, g⟩), Ac.own g 56 16 (T.out.flatMap Ing.Event.enc)] (fun w => (GV 0 AH.DG w ∧ 0 ∉ Cd [Ac.box b 163 (Ad.enc ⟨T.w, T.b, g⟩), Ac.own g 56 16 (T.out.flatMap Ing.Event.enc)])) (fun v B => ∃ g' : Hd, v = .tuple #[] ∧ g'.len = (T.set o).out.length ∧ B = [Ac.box b 163 (Ad.enc ⟨(T.set o).w, (T.set o).b, g'⟩), Ac.own g' 56 16 ((T.set o).out.flatMap Ing.Event.enc)]) := by
 intro w hS0 hH
 obtain ⟨gl0, gm0⟩ := hH
 have hb := hF.b
 have hr := hF.room
 have ho9 := T.KN
 have hs9 := T.Ip
 refine Al _ _ Tryz.func107 rfl rfl rfl (hS0) ?_
 refine Gs ?_
 refine B4 rfl rfl rfl (fun b1 => ?_)
 refine Gn (.t2 0 3) (Gs (Gt (Ah DD rfl) (Gt (AG rfl A3 .m0 Order.l0 rfl rfl) (Gt (Ae rfl rfl) (Gm rfl (Ba 13 rfl rfl (fun q => Ah DD rfl) (Ba 13 rfl rfl (fun q => AG (cF rfl q) A3 .m0 Order.l0 rfl rfl) ?_)))))))
 refine Ba 13 rfl rfl (fun q => Ae (cF rfl q) rfl) ?_
 refine Gt (BR rfl rfl (fun h => by rw [h]; rfl)) ?_
 refine Gm rfl (Ba 18 rfl rfl (fun q => Ah DD rfl) (Ba 18 rfl rfl (fun q => AG (cF rfl q) A3 .m0 Order.l0 rfl rfl) (Ba 18 rfl rfl (fun q => Ae (cF rfl q) rfl) ?_)))
 refine Gt (BR rfl rfl (fun h => by rw [h]; rfl)) ?_
 refine Ga rfl (Gn (.t3 0 3 4) (Gs (Ga rfl (Ga rfl (AQ (AA ?_))))))
 refine QV (Lm := []) (fun (kd : Int) (ev : Int) => kd = AF.setKind o.verb ∧ ev = AF.O7 o.verb) (fun (kd : Int) (ev : Int) => [(5, .int .i64 kd), (6, .int .i64 ev)]) (fun (kd : Int) (ev : Int) => []) (.t3 0 3 4) rfl ?_ (fun kd ev hC => ?_)
 ·
  refine Gs (Gt (Ah DD rfl) (Gt (AG rfl A3 .m0 Order.l0 rfl rfl) (Gn (.t6 0 3 4 5 6 24) (Af (Gs (Gt (Ae rfl rfl) (Ga rfl ?_)))))))
  refine Gn (.t7 0 3 4 5 6 24 25) ?_
  refine Gc (fun c1 => ?_) (fun c1 => ?_)
  ·
   have c1p := kz c1
   refine AJ (Ga rfl ?_)
   refine AQ (AB (.t5 0 3 4 5 6) ?_)
   refine AV ?_
   refine Eb _ _ ?_ (.t5 5 6 0 3 4) (.refl _)
   · have hv6 : o.verb = 12 ∨ o.verb = 13 ∨ o.verb = 14 ∨ o.verb = 15 ∨ o.verb = 16 ∨ o.verb = 17 := by omega
     rcases hv6 with e | e | e | e | e | e <;> (try rw [e] at c1) <;> first | exact ⟨by rw [e]; rfl, by rw [e]; rfl⟩ | exact absurd c1 (by decide)
  have c1p := kz c1
  refine CG (Gt (Ae rfl rfl) (Ga rfl (Gn (.t7 0 3 4 5 6 24 27) ?_)))
  refine Gc (fun c2 => ?_) (fun c2 => ?_)
  ·
   have c2p := kz c2
   refine Aa (AA ?_)
   refine G0 rfl c2 ?_
   refine Gs (Ga rfl (Ga rfl (Gn (.t5 0 3 4 5 6) (Gs (Gm rfl (Gt (BV rfl) (Gn (.t6 0 3 4 5 6 31) ?_)))))))
   refine Gc (fun c3 => ?_) (fun c3 => ?_)
   ·
    have c3p := kz c3
    refine AJ (Ga rfl ?_)
    refine AQ (AB (.t5 0 3 4 5 6) ?_)
    refine AV ?_
    refine Eb _ _ ?_ (.t5 5 6 0 3 4) (.refl _)
    · have hv6 : o.verb = 12 ∨ o.verb = 13 ∨ o.verb = 14 ∨ o.verb = 15 ∨ o.verb = 16 ∨ o.verb = 17 := by omega
      rcases hv6 with e | e | e | e | e | e <;> (try rw [e] at c1) <;> (try rw [e] at c2) <;> (try rw [e] at c3) <;> first | exact ⟨by rw [e]; rfl, by rw [e]; rfl⟩ | exact absurd c1 (by decide) | exact absurd c2 (by decide) | exact absurd c3 (by decide)
   have c3p := kz c3
   refine Aa ?_
   refine AB (.t5 0 3 4 5 6) ?_
   refine AV ?_
   refine Eb _ _ ?_ (.t5 5 6 0 3 4) (.refl _)
   · have hv6 : o.verb = 12 ∨ o.verb = 13 ∨ o.verb = 14 ∨ o.verb = 15 ∨ o.verb = 16 ∨ o.verb = 17 := by omega
     rcases hv6 with e | e | e | e | e | e <;> (try rw [e] at c1) <;> (try rw [e] at c2) <;> (try rw [e] at c3) <;> first | exact ⟨by rw [e]; rfl, by rw [e]; rfl⟩ | exact absurd c1 (by decide) | exact absurd c2 (by decide) | exact absurd c3 (by decide)
  have c2p := kz c2
  refine AJ (Gt (Ae rfl rfl) (Ga rfl (Gn (.t7 0 3 4 5 6 24 27) ?_)))
  refine Gc (fun c4 => ?_) (fun c4 => ?_)
  ·
   have c4p := kz c4
   refine Gs (Ga rfl (Ga rfl (Gn (.t5 0 3 4 5 6) (Gs (Gm rfl (Gt (BV rfl) (Gn (.t6 0 3 4 5 6 31) ?_)))))))
   refine Gc (fun c5 => ?_) (fun c5 => ?_)
   ·
    have c5p := kz c5
    refine AJ (Ga rfl ?_)
    refine AQ (AB (.t5 0 3 4 5 6) ?_)
    refine AV ?_
    refine Eb _ _ ?_ (.t5 5 6 0 3 4) (.refl _)
    · have hv6 : o.verb = 12 ∨ o.verb = 13 ∨ o.verb = 14 ∨ o.verb = 15 ∨ o.verb = 16 ∨ o.verb = 17 := by omega
      rcases hv6 with e | e | e | e | e | e <;> (try rw [e] at c1) <;> (try rw [e] at c2) <;> (try rw [e] at c4) <;> (try rw [e] at c5) <;> first | exact ⟨by rw [e]; rfl, by rw [e]; rfl⟩ | exact absurd c1 (by decide) | exact absurd c2 (by decide) | exact absurd c4 (by decide) | exact absurd c5 (by decide)
   have c5p := kz c5
   refine Aa ?_
   refine AB (.t5 0 3 4 5 6) ?_
   refine AV ?_
   refine Eb _ _ ?_ (.t5 5 6 0 3 4) (.refl _)
   · have hv6 : o.verb = 12 ∨ o.verb = 13 ∨ o.verb = 14 ∨ o.verb = 15 ∨ o.verb = 16 ∨ o.verb = 17 := by omega
     rcases hv6 with e | e | e | e | e | e <;> (try rw [e] at c1) <;> (try rw [e] at c2) <;> (try rw [e] at c4) <;> (try rw [e] at c5) <;> first | exact ⟨by rw [e]; rfl, by rw [e]; rfl⟩ | exact absurd c1 (by decide) | exact absurd c2 (by decide) | exact absurd c4 (by decide) | exact absurd c5 (by decide)
  have c4p := kz c4
  refine CG (Gt (Ae rfl rfl) (Ga rfl (Gn (.t7 0 3 4 5 6 24 32) ?_)))
  refine Gc (fun c6 => ?_) (fun c6 => ?_)
  ·
   have c6p := kz c6
   refine Aa ?_
   refine AB (.t6 0 3 4 5 6 32) ?_
   refine AA ?_
   refine G0 rfl c6 ?_
   refine Gs (Ga rfl (Ga rfl (Gn (.t5 0 3 4 5 6) (Gs (Gm rfl (Gt (BV rfl) (Gn (.t6 0 3 4 5 6 36) ?_)))))))
   refine Gc (fun c7 => ?_) (fun c7 => ?_)
   ·
    have c7p := kz c7
    refine AJ (Ga rfl ?_)
    refine AQ (AB (.t5 0 3 4 5 6) ?_)
    refine AV ?_
    refine Eb _ _ ?_ (.t5 5 6 0 3 4) (.refl _)
    · have hv6 : o.verb = 12 ∨ o.verb = 13 ∨ o.verb = 14 ∨ o.verb = 15 ∨ o.verb = 16 ∨ o.verb = 17 := by omega
      rcases hv6 with e | e | e | e | e | e <;> (try rw [e] at c1) <;> (try rw [e] at c2) <;> (try rw [e] at c4) <;> (try rw [e] at c6) <;> (try rw [e] at c7) <;> first | exact ⟨by rw [e]; rfl, by rw [e]; rfl⟩ | exact absurd c1 (by decide) | exact absurd c2 (by decide) | exact absurd c4 (by decide) | exact absurd c6 (by decide) | exact absurd c7 (by decide)
   have c7p := kz c7
   refine Aa ?_
   refine AB (.t5 0 3 4 5 6) ?_
   refine AV ?_
   refine Eb _ _ ?_ (.t5 5 6 0 3 4) (.refl _)
   · have hv6 : o.verb = 12 ∨ o.verb = 13 ∨ o.verb = 14 ∨ o.verb = 15 ∨ o.verb = 16 ∨ o.verb = 17 := by omega
     rcases hv6 with e | e | e | e | e | e <;> (try rw [e] at c1) <;> (try rw [e] at c2) <;> (try rw [e] at c4) <;> (try rw [e] at c6) <;> (try rw [e] at c7) <;> first | exact ⟨by rw [e]; rfl, by rw [e]; rfl⟩ | exact absurd c1 (by decide) | exact absurd c2 (by decide) | exact absurd c4 (by decide) | exact absurd c6 (by decide) | exact absurd c7 (by decide)
  have c6p := kz c6
  refine AJ (Gt (Ae rfl rfl) (Ga rfl (Gn (.t6 0 3 4 5 6 32) ?_)))
  refine Gc (fun c8 => ?_) (fun c8 => ?_)
  ·
   have c8p := kz c8
   refine Gs (Ga rfl (Ga rfl (Gn (.t5 0 3 4 5 6) (Gs (Gm rfl (Gt (BV rfl) (Gn (.t6 0 3 4 5 6 36) ?_)))))))
   refine Gc (fun c9 => ?_) (fun c9 => ?_)
   ·
    have c9p := kz c9
    refine AJ (Ga rfl ?_)
    refine AQ (AB (.t5 0 3 4 5 6) ?_)
    refine AV ?_
    refine Eb _ _ ?_ (.t5 5 6 0 3 4) (.refl _)
    · have hv6 : o.verb = 12 ∨ o.verb = 13 ∨ o.verb = 14 ∨ o.verb = 15 ∨ o.verb = 16 ∨ o.verb = 17 := by omega
      rcases hv6 with e | e | e | e | e | e <;> (try rw [e] at c1) <;> (try rw [e] at c2) <;> (try rw [e] at c4) <;> (try rw [e] at c6) <;> (try rw [e] at c8) <;> (try rw [e] at c9) <;> first | exact ⟨by rw [e]; rfl, by rw [e]; rfl⟩ | exact absurd c1 (by decide) | exact absurd c2 (by decide) | exact absurd c4 (by decide) | exact absurd c6 (by decide) | exact absurd c8 (by decide) | exact absurd c9 (by decide)
   have c9p := kz c9
   refine Aa ?_
   refine AB (.t5 0 3 4 5 6) ?_
   refine AV ?_
   refine Eb _ _ ?_ (.t5 5 6 0 3 4) (.refl _)
   · have hv6 : o.verb = 12 ∨ o.verb = 13 ∨ o.verb = 14 ∨ o.verb = 15 ∨ o.verb = 16 ∨ o.verb = 17 := by omega
     rcases hv6 with e | e | e | e | e | e <;> (try rw [e] at c1) <;> (try rw [e] at c2) <;> (try rw [e] at c4) <;> (try rw [e] at c6) <;> (try rw [e] at c8) <;> (try rw [e] at c9) <;> first | exact ⟨by rw [e]; rfl, by rw [e]; rfl⟩ | exact absurd c1 (by decide) | exact absurd c2 (by decide) | exact absurd c4 (by decide) | exact absurd c6 (by decide) | exact absurd c8 (by decide) | exact absurd c9 (by decide)
  have c8p := kz c8
  refine Aa ?_
  refine AB (.t5 0 3 4 5 6) ?_
  refine AV ?_
  refine Eb _ _ ?_ (.t5 5 6 0 3 4) (.refl _)
  · have hv6 : o.verb = 12 ∨ o.verb = 13 ∨ o.verb = 14 ∨ o.verb = 15 ∨ o.verb = 16 ∨ o.verb = 17 := by omega
    rcases hv6 with e | e | e | e | e | e <;> (try rw [e] at c1) <;> (try rw [e] at c2) <;> (try rw [e] at c4) <;> (try rw [e] at c6) <;> (try rw [e] at c8) <;> first | exact ⟨by rw [e]; rfl, by rw [e]; rfl⟩ | exact absurd c1 (by decide) | exact absurd c2 (by decide) | exact absurd c4 (by decide) | exact absurd c6 (by decide) | exact absurd c8 (by decide)
 obtain ⟨rfl, rfl⟩ := hC
 refine CG (Gt (Ah Fi rfl) (Gt (AG rfl CV .m0 Order.l3 rfl rfl) ?_))
 refine BA rfl cL (.c rfl .n) (fun w hS => Jx _ w (gl0.stM gm0 hS)) ?_
 refine Gm rfl (Gt (AM rfl rfl) (Gt (AM rfl rfl) (Ga rfl (Ga rfl (Gn (.t7 0 3 4 5 6 7 8) (Gs (Gm rfl ?_)))))))
 refine Gm rfl (Bi 44 rfl rfl (fun q => AE rfl) (Bi 44 rfl rfl (fun q => Ae (Bh rfl q) rfl) (Gt (BK rfl rfl (fun h => h)) (Gn (.t7 0 3 4 5 6 7 47) ?_))))
 refine Gc (fun c10 => ?_) (fun c10 => ?_)
 ·
  have c10p := kz c10
  refine Gs (Gm rfl (Gm rfl (Gm rfl (Gm rfl ?_))))
  refine Ag rfl cH (.c rfl (.c rfl (.c rfl (.c rfl .n)))) (.c (.t .h) (.c (.t .h) .n)) (Qz _ T _ _ _ _ hg hF (Words.UK (Bool.and_eq_true_iff.1 c10).1) (by omega)) (fun v1 B hv => ?_)
  obtain ⟨y2, rfl, y3, rfl⟩ := hv
  refine Gn (.nil _) (Ab (AD ?_))
  refine AY rfl .n ?_
  intro w1 hS
  have hS := (hS.perm (Ax.perm (.c .h (.c .h .n)))).A1
  have hq : T.set o = _ := (BB c10)
  refine ⟨_, ⟨?gq1, rfl, ?hl1, ?hB1⟩, hS⟩
  case hB1 => rw [hq]; (try rfl)
  case hl1 => rw [hq]; assumption
 have c10p := kz c10
 refine Aa ?_
 refine AB (.t5 0 3 4 5 6) ?_
 refine AA (Gs (Gm rfl ?_))
 refine Ag rfl UX (.c rfl .n) (.c (.t .h) .n) (H2 _ T _ hF) (fun v4 B hv => ?_)
 obtain ⟨y5, rfl, y6, rfl⟩ := hv
 refine Ga rfl (Gn (.t6 0 3 4 5 6 9) (CG (Gm rfl (Gt (Ae rfl rfl) (Gn (.t7 0 3 4 5 6 9 56) ?_)))))
 refine Gc (fun c11 => ?_) (fun c11 => ?_)
 ·
  have c11p := kz c11
  refine AJ (Gm rfl (Gm rfl ?_))
  refine Ag rfl WL (.c rfl .n) (.c .h .n) (I4 _ T _ hF) (fun v8 B hv => ?_)
  obtain ⟨y9, rfl, y10, rfl⟩ := hv
  refine Cc Bv rfl Tryz.underlying169 C5 aM rfl cR (by decide) (by decide) rfl rfl (fun w hS => Src.D3 Tryz.underlying169 ((Kn.own .m1) w hS)) (by (try dsimp only); omega) (fun _ => (.t (.t .h))) (fun h12 h12l h12z => ?_)
  refine Ga rfl (Gn (.t6 0 3 4 5 6 9) (Gs (Gm rfl (Gm rfl (Gt (Ah GK rfl) (Gt (AG rfl A3 .m3 Order.l1 rfl rfl) (Gt (KA rfl rfl) ?_)))))))
  refine Gt (Ah Fi rfl) (Gt (AG rfl CV .m3 Order.l3 rfl rfl) ?_)
  refine Ag rfl Pa (.c rfl (.c rfl (.c rfl (.c rfl (.c rfl .n))))) (.c .h (.c (.t .h) .n)) (Ev _ T _ _ (T.own ++ T.seen) _ _ _ hF (by rw [List.length_append]; omega) (by rw [List.length_append]; omega) (fun i hi => AF.Qf hi)) (fun v13 B hv => ?_)
  obtain ⟨y14, rfl, y15, rfl⟩ := hv
  refine Ga rfl (Gn (.t5 0 4 5 6 9) (Af (Ao ?_)))
  have hx0 := AF.SW (l := (AF.BP T.w (T.own ++ T.seen) (max o.nth 1) o.name false)) (fun i hi => AF.Qf (AF.Dn hi))
  refine BE (N := 18) [0, 1, 3, 7, 15, 15, 47, 111, 31, 287, 799, 2047, 4095, 8191, 15, 32767, 65535, 131071] mix (by kernel_rfl) rfl ?_
  refine Pf 0 rfl (AE rfl) (Pf 1 rfl (Ar rfl Tryz.underlying169 rfl) (Pf 2 rfl (Ae rfl rfl) (Pf 3 rfl (AE rfl) (Hf 4 82 rfl rfl rfl (fun q => AE rfl) (Hf 5 82 rfl rfl rfl (fun q => AE rfl) ?_)))))
  refine BZ 6 rfl rfl (by kernel_rfl) (G2 (t := 82) rfl rfl (fun q => by have q1 := q; (try simp at q1); exact IT (Br GW (by decide) (Kn.own .m2) (cF rfl q) rfl (by omega) (by first | omega | (simp at q ⊢; omega))))) ?_
  refine BZ 7 rfl rfl (by kernel_rfl) (G2 (t := 82) rfl rfl (fun q => by have q1 := q; (try simp at q1); exact IT (DH (cF rfl q) A3 (Kn.own .m2) (by first | omega | (simp at q ⊢; omega))))) ?_
  refine Hf 8 82 rfl rfl rfl (fun q => BT (cF rfl q)) (Hf 9 82 rfl rfl rfl (fun q => Ah A9 (cF rfl q)) (Hf 10 82 rfl rfl rfl (fun q => Ah Cw (cF rfl q)) ?_))
  refine BZ 11 rfl rfl (by kernel_rfl) (G2 (t := 82) rfl rfl (fun q => by have q1 := q; (try simp at q1); exact IT (AR GA (cF rfl q) (cF rfl q) (by first | omega | exact hb.1 | exact hb.2 | exact hx0.1 | exact hx0.2 | (dsimp only; omega)) (by first | omega | exact hb.1 | exact hb.2 | exact hx0.1 | exact hx0.2 | (dsimp only; omega))))) ?_
  refine Hf 12 82 rfl rfl rfl (fun q => Ah Gy (cF rfl q)) ?_
  refine BZ 13 rfl rfl (by kernel_rfl) (G2 (t := 82) rfl rfl (fun q => by have q1 := q; (try simp at q1); exact IT (AG (cF rfl q) A3 .m0 (((Ad.l0.comp AH.l1).comp (AU.ar (n := 9) Ak.fl (by first | omega | exact hb | exact hx0 | (dsimp only; omega)))).comp Ak.l1) rfl rfl))) ?_
  refine Hf 14 82 rfl rfl rfl (fun q => AE rfl) (Hf 15 82 rfl rfl rfl (fun q => CX (cF rfl q) (cF rfl q)) ?_)
  refine Pf 16 rfl (BR rfl rfl (fun h => by rw [h]; rfl)) ?_
  refine Pf 17 rfl (A0 rfl) ?_
  refine A4 (by kernel_rfl) ?_
  refine AB (.t6 0 4 5 6 9 78) ?_
  refine AA ?_
  refine Gc (fun c12 => ?_) (fun c12 => ?_)
  ·
   have c12p := kz c12
   rw [y15] at c12 c12p
   have hsl : T.EO o = (AF.BP T.w (T.own ++ T.seen) (max o.nth 1) o.name false) := congrArg (fun q => AF.BP T.w q _ _ _) (BB c11)
   refine AJ (Gm rfl ?_)
   refine Ag rfl ED (.c rfl (.c rfl .n)) (.c .h (.c (.t (.t (.t (.t .h)))) .n)) (Bc _ _ _ _ hg hb (by omega)) (fun v17 B hv => ?_)
   obtain ⟨y18, rfl, y19, rfl⟩ := hv
   refine AQ (AB (.nil _) ?_)
   refine AV ?_
   refine Bk rfl .n ?_
   intro w1 hS
   have hS := (hS.perm (Ax.perm (.c .h (.c .h .n)))).A1
   have d0 : (decide (((T.EO o).length : Int) = 0) || !decide ((T.w.AO.at ((T.EO o).getD 0 0)).kind = AF.setKind o.verb)) = true := by rw [hsl]; exact c12
   have hq : T.set o = _ := (AW c10).trans (BB d0)
   (try rw [hsl] at hq)
   refine ⟨_, ⟨?gq2, rfl, ?hl2, ?hB2⟩, hS⟩
   case hB2 => rw [hq]; (try rfl)
   case hl2 => rw [hq]; assumption
  have c12p := kz c12
  rw [y15] at c12 c12p
  have hsl : T.EO o = (AF.BP T.w (T.own ++ T.seen) (max o.nth 1) o.name false) := congrArg (fun q => AF.BP T.w q _ _ _) (BB c11)
  refine Ao ?_
  refine BE (N := 13) [0, 0, 2, 6, 1, 17, 49, 127, 255, 511, 0, 2047, 4095] mix (by kernel_rfl) rfl ?_
  refine Pf 0 rfl (AE rfl) (Pf 1 rfl (AE rfl) ?_)
  refine Pf 2 rfl (Br GW (by decide) (Kn.own .m2) rfl rfl (by omega) (by first | omega | (simp at q ⊢; omega))) ?_
  refine Pf 3 rfl (DH rfl A3 (Kn.own .m2) (by first | omega | (simp at q ⊢; omega))) ?_
  refine Pf 4 rfl (BT rfl) (Pf 5 rfl (Ah A9 rfl) (Pf 6 rfl (Ah Cw rfl) ?_))
  refine Pf 7 rfl (AR GA rfl rfl (by first | omega | exact hb.1 | exact hb.2 | exact hx0.1 | exact hx0.2 | (dsimp only; omega)) (by first | omega | exact hb.1 | exact hb.2 | exact hx0.1 | exact hx0.2 | (dsimp only; omega))) ?_
  refine Pf 8 rfl (Ah F5 rfl) ?_
  refine Pf 9 rfl (AG rfl Dj .m0 (((Ad.l0.comp AH.l1).comp (AU.ar (n := 9) Ak.fl (by first | omega | exact hb | exact hx0 | (dsimp only; omega)))).comp Ak.l4) rfl rfl) ?_
  refine Pf 10 rfl (AE rfl) (Pf 11 rfl (Jv Tryz.underlying4 rfl rfl) (Pf 12 rfl (A0 rfl) ?_))
  refine A4 (by kernel_rfl) ?_
  refine AB (.t6 0 4 5 6 9 98) ?_
  refine AA ?_
  refine Gc (fun c13 => ?_) (fun c13 => ?_)
  ·
   have c13p := kz c13
   refine AJ (Gm rfl ?_)
   refine Ag rfl ED (.c rfl (.c rfl .n)) (.c .h (.c (.t (.t (.t (.t .h)))) .n)) (Bc _ _ _ _ hg hb (by omega)) (fun v20 B hv => ?_)
   obtain ⟨y21, rfl, y22, rfl⟩ := hv
   refine AQ (AB (.nil _) ?_)
   refine AV ?_
   refine Bk rfl .n ?_
   intro w1 hS
   have hS := (hS.perm (Ax.perm (.c .h (.c .h .n)))).A1
   have d0 : (decide (((T.EO o).length : Int) = 0) || !decide ((T.w.AO.at ((T.EO o).getD 0 0)).kind = AF.setKind o.verb)) = false := by rw [hsl]; exact c12
   have d1 : ((T.w.AO.at ((T.EO o).getD 0 0)).on == AF.HY o.verb) = true := by rw [hsl]; exact c13
   have hq : T.set o = _ := (AW c10).trans ((AW d0).trans (BB d1))
   (try rw [hsl] at hq)
   refine ⟨_, ⟨?gq3, rfl, ?hl3, ?hB3⟩, hS⟩
   case hB3 => rw [hq]; (try rfl)
   case hl3 => rw [hq]; assumption
  have c13p := kz c13
  refine Gs (Gm rfl (Ga rfl (Gn (.t6 0 4 5 6 9 113) ?_)))
  refine Gc (fun c14 => ?_) (fun c14 => ?_)
  ·
   have c14p := kz c14
   refine AJ (Gm rfl (Gm rfl (Gt (CX rfl rfl) (Gm rfl ?_))))
   refine Gt (Br GW (by decide) (Kn.own .m2) rfl rfl (by omega) (by first | omega | (simp at q ⊢; omega))) ?_
   refine Gt (DH rfl A3 (Kn.own .m2) (by first | omega | (simp at q ⊢; omega))) ?_
   refine Gm rfl (Gm rfl ?_)
   refine Ag rfl Tu (.c rfl (.c rfl (.c rfl (.c rfl (.c rfl .n))))) (.c .h (.c (.t (.t (.t (.t .h)))) .n)) (Fy _ T _ (!decide (AF.setKind o.verb = 2)) ((AF.BP T.w (T.own ++ T.seen) (max o.nth 1) o.name false).getD (0 : Int).toNat 0) _ _ hg hb hx0 (by omega)) (fun v23 B hv => ?_)
   obtain ⟨y24, rfl, y25, rfl⟩ := hv
   refine AQ (AB (.nil _) ?_)
   refine AV ?_
   refine Bk rfl .n ?_
   intro w1 hS
   have hS := (hS.perm (Ax.perm (.c .h (.c .h .n)))).A1
   have d0 : (decide (((T.EO o).length : Int) = 0) || !decide ((T.w.AO.at ((T.EO o).getD 0 0)).kind = AF.setKind o.verb)) = false := by rw [hsl]; exact c12
   have d1 : ((T.w.AO.at ((T.EO o).getD 0 0)).on == AF.HY o.verb) = false := by rw [hsl]; exact c13
   have d2 : AF.HY o.verb = true := c14
   have hq : T.set o = _ := (AW c10).trans ((AW d0).trans ((AW d1).trans (BB d2)))
   (try rw [hsl] at hq)
   refine ⟨_, ⟨?gq4, rfl, ?hl4, ?hB4⟩, hS⟩
   case hB4 => rw [hq]; (try rfl)
   case hl4 => rw [hq]; assumption
  have c14p := kz c14
  refine AJ (Gm rfl (Gm rfl (Gt (Ae rfl rfl) (Gm rfl ?_))))
  refine Gt (Br GW (by decide) (Kn.own .m2) rfl rfl (by omega) (by first | omega | (simp at q ⊢; omega))) ?_
  refine Gt (DH rfl A3 (Kn.own .m2) (by first | omega | (simp at q ⊢; omega))) ?_
  refine Gm rfl (Gm rfl ?_)
  refine Ag rfl Tu (.c rfl (.c rfl (.c rfl (.c rfl (.c rfl .n))))) (.c .h (.c (.t (.t (.t (.t .h)))) .n)) (Fy _ T _ (decide (AF.setKind o.verb = 2)) ((AF.BP T.w (T.own ++ T.seen) (max o.nth 1) o.name false).getD (0 : Int).toNat 0) _ _ hg hb hx0 (by omega)) (fun v26 B hv => ?_)
  obtain ⟨y27, rfl, y28, rfl⟩ := hv
  refine AQ (AB (.nil _) ?_)
  refine AV ?_
  refine Bk rfl .n ?_
  intro w1 hS
  have hS := (hS.perm (Ax.perm (.c .h (.c .h .n)))).A1
  have d0 : (decide (((T.EO o).length : Int) = 0) || !decide ((T.w.AO.at ((T.EO o).getD 0 0)).kind = AF.setKind o.verb)) = false := by rw [hsl]; exact c12
  have d1 : ((T.w.AO.at ((T.EO o).getD 0 0)).on == AF.HY o.verb) = false := by rw [hsl]; exact c13
  have d2 : AF.HY o.verb = false := c14
  have hq : T.set o = _ := (AW c10).trans ((AW d0).trans ((AW d1).trans (AW d2)))
  (try rw [hsl] at hq)
  refine ⟨_, ⟨?gq5, rfl, ?hl5, ?hB5⟩, hS⟩
  case hB5 => rw [hq]; (try rfl)
  case hl5 => rw [hq]; assumption
 have c11p := kz c11
 refine Aa ?_
 refine AB (.t6 0 3 4 5 6 9) ?_
 refine AA (Gs (Gm rfl (Gm rfl (Gt (Ah GK rfl) (Gt (AG rfl A3 .m2 Order.l1 rfl rfl) (Gt (KA rfl rfl) (Gt (Ah Fi rfl) ?_)))))))
 refine Gt (AG rfl CV .m2 Order.l3 rfl rfl) ?_
 refine Ag rfl Pa (.c rfl (.c rfl (.c rfl (.c rfl (.c rfl .n))))) (.c .h (.c .h .n)) (Ev _ T _ _ T.own _ _ _ hF (by assumption) (by omega) (fun i hi => AF.Ld hi)) (fun v29 B hv => ?_)
 obtain ⟨y30, rfl, y31, rfl⟩ := hv
 refine Ga rfl (Gn (.t5 0 4 5 6 9) (Af (Ao ?_)))
 have hx0 := AF.SW (l := (AF.BP T.w T.own (max o.nth 1) o.name false)) (fun i hi => AF.Ld (AF.Dn hi))
 refine BE (N := 18) [0, 1, 3, 7, 15, 15, 47, 111, 31, 287, 799, 2047, 4095, 8191, 15, 32767, 65535, 131071] mix (by kernel_rfl) rfl ?_
 refine Pf 0 rfl (AE rfl) (Pf 1 rfl (Ar rfl Tryz.underlying169 rfl) (Pf 2 rfl (Ae rfl rfl) (Pf 3 rfl (AE rfl) (Hf 4 82 rfl rfl rfl (fun q => AE rfl) (Hf 5 82 rfl rfl rfl (fun q => AE rfl) ?_)))))
 refine BZ 6 rfl rfl (by kernel_rfl) (G2 (t := 82) rfl rfl (fun q => by have q1 := q; (try simp at q1); exact IT (Br GW (by decide) (Kn.own .m2) (cF rfl q) rfl (by omega) (by first | omega | (simp at q ⊢; omega))))) ?_
 refine BZ 7 rfl rfl (by kernel_rfl) (G2 (t := 82) rfl rfl (fun q => by have q1 := q; (try simp at q1); exact IT (DH (cF rfl q) A3 (Kn.own .m2) (by first | omega | (simp at q ⊢; omega))))) ?_
 refine Hf 8 82 rfl rfl rfl (fun q => BT (cF rfl q)) (Hf 9 82 rfl rfl rfl (fun q => Ah A9 (cF rfl q)) (Hf 10 82 rfl rfl rfl (fun q => Ah Cw (cF rfl q)) ?_))
 refine BZ 11 rfl rfl (by kernel_rfl) (G2 (t := 82) rfl rfl (fun q => by have q1 := q; (try simp at q1); exact IT (AR GA (cF rfl q) (cF rfl q) (by first | omega | exact hb.1 | exact hb.2 | exact hx0.1 | exact hx0.2 | (dsimp only; omega)) (by first | omega | exact hb.1 | exact hb.2 | exact hx0.1 | exact hx0.2 | (dsimp only; omega))))) ?_
 refine Hf 12 82 rfl rfl rfl (fun q => Ah Gy (cF rfl q)) ?_
 refine BZ 13 rfl rfl (by kernel_rfl) (G2 (t := 82) rfl rfl (fun q => by have q1 := q; (try simp at q1); exact IT (AG (cF rfl q) A3 .m0 (((Ad.l0.comp AH.l1).comp (AU.ar (n := 9) Ak.fl (by first | omega | exact hb | exact hx0 | (dsimp only; omega)))).comp Ak.l1) rfl rfl))) ?_
 refine Hf 14 82 rfl rfl rfl (fun q => AE rfl) (Hf 15 82 rfl rfl rfl (fun q => CX (cF rfl q) (cF rfl q)) ?_)
 refine Pf 16 rfl (BR rfl rfl (fun h => by rw [h]; rfl)) ?_
 refine Pf 17 rfl (A0 rfl) ?_
 refine A4 (by kernel_rfl) ?_
 refine AB (.t6 0 4 5 6 9 78) ?_
 refine AA ?_
 refine Gc (fun c15 => ?_) (fun c15 => ?_)
 ·
  have c15p := kz c15
  rw [y31] at c15 c15p
  have hsl : T.EO o = (AF.BP T.w T.own (max o.nth 1) o.name false) := congrArg (fun q => AF.BP T.w q _ _ _) (AW c11)
  refine AJ (Gm rfl ?_)
  refine Ag rfl ED (.c rfl (.c rfl .n)) (.c .h (.c (.t (.t (.t .h))) .n)) (Bc _ _ _ _ hg hb (by omega)) (fun v33 B hv => ?_)
  obtain ⟨y34, rfl, y35, rfl⟩ := hv
  refine AQ (AB (.nil _) ?_)
  refine AV ?_
  refine Bk rfl .n ?_
  intro w1 hS
  have hS := (hS.perm (Ax.perm (.c .h (.c .h .n)))).A1
  have d0 : (decide (((T.EO o).length : Int) = 0) || !decide ((T.w.AO.at ((T.EO o).getD 0 0)).kind = AF.setKind o.verb)) = true := by rw [hsl]; exact c15
  have hq : T.set o = _ := (AW c10).trans (BB d0)
  (try rw [hsl] at hq)
  refine ⟨_, ⟨?gq6, rfl, ?hl6, ?hB6⟩, hS⟩
  case hB6 => rw [hq]; (try rfl)
  case hl6 => rw [hq]; assumption
 have c15p := kz c15
 rw [y31] at c15 c15p
 have hsl : T.EO o = (AF.BP T.w T.own (max o.nth 1) o.name false) := congrArg (fun q => AF.BP T.w q _ _ _) (AW c11)
 refine Ao ?_
 refine BE (N := 13) [0, 0, 2, 6, 1, 17, 49, 127, 255, 511, 0, 2047, 4095] mix (by kernel_rfl) rfl ?_
 refine Pf 0 rfl (AE rfl) (Pf 1 rfl (AE rfl) ?_)
 refine Pf 2 rfl (Br GW (by decide) (Kn.own .m2) rfl rfl (by omega) (by first | omega | (simp at q ⊢; omega))) ?_
 refine Pf 3 rfl (DH rfl A3 (Kn.own .m2) (by first | omega | (simp at q ⊢; omega))) ?_
 refine Pf 4 rfl (BT rfl) (Pf 5 rfl (Ah A9 rfl) (Pf 6 rfl (Ah Cw rfl) ?_))
 refine Pf 7 rfl (AR GA rfl rfl (by first | omega | exact hb.1 | exact hb.2 | exact hx0.1 | exact hx0.2 | (dsimp only; omega)) (by first | omega | exact hb.1 | exact hb.2 | exact hx0.1 | exact hx0.2 | (dsimp only; omega))) ?_
 refine Pf 8 rfl (Ah F5 rfl) ?_
 refine Pf 9 rfl (AG rfl Dj .m0 (((Ad.l0.comp AH.l1).comp (AU.ar (n := 9) Ak.fl (by first | omega | exact hb | exact hx0 | (dsimp only; omega)))).comp Ak.l4) rfl rfl) ?_
 refine Pf 10 rfl (AE rfl) (Pf 11 rfl (Jv Tryz.underlying4 rfl rfl) (Pf 12 rfl (A0 rfl) ?_))
 refine A4 (by kernel_rfl) ?_
 refine AB (.t6 0 4 5 6 9 98) ?_
 refine AA ?_
 refine Gc (fun c16 => ?_) (fun c16 => ?_)
 ·
  have c16p := kz c16
  refine AJ (Gm rfl ?_)
  refine Ag rfl ED (.c rfl (.c rfl .n)) (.c .h (.c (.t (.t (.t .h))) .n)) (Bc _ _ _ _ hg hb (by omega)) (fun v36 B hv => ?_)
  obtain ⟨y37, rfl, y38, rfl⟩ := hv
  refine AQ (AB (.nil _) ?_)
  refine AV ?_
  refine Bk rfl .n ?_
  intro w1 hS
  have hS := (hS.perm (Ax.perm (.c .h (.c .h .n)))).A1
  have d0 : (decide (((T.EO o).length : Int) = 0) || !decide ((T.w.AO.at ((T.EO o).getD 0 0)).kind = AF.setKind o.verb)) = false := by rw [hsl]; exact c15
  have d1 : ((T.w.AO.at ((T.EO o).getD 0 0)).on == AF.HY o.verb) = true := by rw [hsl]; exact c16
  have hq : T.set o = _ := (AW c10).trans ((AW d0).trans (BB d1))
  (try rw [hsl] at hq)
  refine ⟨_, ⟨?gq7, rfl, ?hl7, ?hB7⟩, hS⟩
  case hB7 => rw [hq]; (try rfl)
  case hl7 => rw [hq]; assumption
 have c16p := kz c16
 refine Gs (Gm rfl (Ga rfl (Gn (.t6 0 4 5 6 9 113) ?_)))
 refine Gc (fun c17 => ?_) (fun c17 => ?_)
 ·
  have c17p := kz c17
  refine AJ (Gm rfl (Gm rfl (Gt (CX rfl rfl) (Gm rfl ?_))))
  refine Gt (Br GW (by decide) (Kn.own .m2) rfl rfl (by omega) (by first | omega | (simp at q ⊢; omega))) ?_
  refine Gt (DH rfl A3 (Kn.own .m2) (by first | omega | (simp at q ⊢; omega))) ?_
  refine Gm rfl (Gm rfl ?_)
  refine Ag rfl Tu (.c rfl (.c rfl (.c rfl (.c rfl (.c rfl .n))))) (.c .h (.c (.t (.t (.t .h))) .n)) (Fy _ T _ (!decide (AF.setKind o.verb = 2)) ((AF.BP T.w T.own (max o.nth 1) o.name false).getD (0 : Int).toNat 0) _ _ hg hb hx0 (by omega)) (fun v39 B hv => ?_)
  obtain ⟨y40, rfl, y41, rfl⟩ := hv
  refine AQ (AB (.nil _) ?_)
  refine AV ?_
  refine Bk rfl .n ?_
  intro w1 hS
  have hS := (hS.perm (Ax.perm (.c .h (.c .h .n)))).A1
  have d0 : (decide (((T.EO o).length : Int) = 0) || !decide ((T.w.AO.at ((T.EO o).getD 0 0)).kind = AF.setKind o.verb)) = false := by rw [hsl]; exact c15
  have d1 : ((T.w.AO.at ((T.EO o).getD 0 0)).on == AF.HY o.verb) = false := by rw [hsl]; exact c16
  have d2 : AF.HY o.verb = true := c17
  have hq : T.set o = _ := (AW c10).trans ((AW d0).trans ((AW d1).trans (BB d2)))
  (try rw [hsl] at hq)
  refine ⟨_, ⟨?gq8, rfl, ?hl8, ?hB8⟩, hS⟩
  case hB8 => rw [hq]; (try rfl)
  case hl8 => rw [hq]; assumption
 have c17p := kz c17
 refine AJ (Gm rfl (Gm rfl (Gt (Ae rfl rfl) (Gm rfl ?_))))
 refine Gt (Br GW (by decide) (Kn.own .m2) rfl rfl (by omega) (by first | omega | (simp at q ⊢; omega))) ?_
 refine Gt (DH rfl A3 (Kn.own .m2) (by first | omega | (simp at q ⊢; omega))) ?_
 refine Gm rfl (Gm rfl ?_)
 refine Ag rfl Tu (.c rfl (.c rfl (.c rfl (.c rfl (.c rfl .n))))) (.c .h (.c (.t (.t (.t .h))) .n)) (Fy _ T _ (decide (AF.setKind o.verb = 2)) ((AF.BP T.w T.own (max o.nth 1) o.name false).getD (0 : Int).toNat 0) _ _ hg hb hx0 (by omega)) (fun v42 B hv => ?_)
 obtain ⟨y43, rfl, y44, rfl⟩ := hv
 refine AQ (AB (.nil _) ?_)
 refine AV ?_
 refine Bk rfl .n ?_
 intro w1 hS
 have hS := (hS.perm (Ax.perm (.c .h (.c .h .n)))).A1
 have d0 : (decide (((T.EO o).length : Int) = 0) || !decide ((T.w.AO.at ((T.EO o).getD 0 0)).kind = AF.setKind o.verb)) = false := by rw [hsl]; exact c15
 have d1 : ((T.w.AO.at ((T.EO o).getD 0 0)).on == AF.HY o.verb) = false := by rw [hsl]; exact c16
 have d2 : AF.HY o.verb = false := c17
 have hq : T.set o = _ := (AW c10).trans ((AW d0).trans ((AW d1).trans (AW d2)))
 (try rw [hsl] at hq)
 refine ⟨_, ⟨?gq9, rfl, ?hl9, ?hB9⟩, hS⟩
 case hB9 => rw [hq]; (try rfl)
 case hl9 => rw [hq]; assumption
theorem GH (X : AH) (b : Int) (o : Order) (hw : X.DE) (hu : o.second.length ≤ 5000000) (hm : o.name.length ≤ 5000000) : FL Tryz.prog 84 #[.agg X.enc.toArray, .int .i64 b, .agg o.enc.toArray] [] (fun w => (GV 0 AH.DG w ∧ 0 ∉ Cd []) ∧ (Gl 7 w ∧ 7 ∉ Cd []) ∧ (Gl 8 w ∧ 8 ∉ Cd [])) (fun v B => ∃ h : Hd, v = .tuple #[.agg ((AF.D8 X b o).1.enc).toArray, h.val, .int .i64 (AF.D8 X b o).2.2] ∧ h.len = (AF.D8 X b o).2.1.length ∧ B = [Ac.own h 56 16 ((AF.D8 X b o).2.1.flatMap Ing.Event.enc)]) := by
 intro w hS0 hH
 obtain ⟨⟨gl0, gm0⟩, ⟨gl1, gm1⟩, ⟨gl2, gm2⟩⟩ := hH
 refine Al _ _ Tryz.func84 rfl rfl rfl (hS0) ?_
 refine Gs ?_
 refine B4 rfl rfl rfl (fun b1 => ?_)
 refine B4 rfl rfl rfl (fun b2 => ?_)
 refine BH rfl M9 rfl (fun b3 => ?_)
 refine Ga rfl (Ga rfl (Gn (.t4 1 3 5 6) (Ao (Af (Gs (Gt (AZ rfl BW .m2 (AU.id AH.fl.len AH.fl.one) rfl) ?_))))))
 refine BA rfl Z4 (.c rfl .n) (fun w hS => HS _ w) ?_
 refine Gt (BV rfl) (Ga rfl (Gn (.t5 1 3 5 6 10) ?_))
 refine Gc (fun c1 => ?_) (fun c1 => ?_)
 ·
  refine Gs (Gt (AZ rfl BW .m2 (AU.id AH.fl.len AH.fl.one) rfl) ?_)
  refine AT (AK (AU.id AH.fl.len AH.fl.one) rfl rfl rfl D6 rfl .h) ?_
  refine Ga rfl (Ga rfl (Gn (.t3 6 7 8) (Ab (AS (AD ?_)))))
  refine AY rfl (.cell rfl .m0 (.inl ⟨(by rw [AH.fl.len]; exact BW), rfl⟩) (.tmp rfl (.tmp rfl .n))) ?_
  intro w1 hS
  have hS := hS.Ck 56 16
  have hS := (hS.perm (Ax.perm (.c .h .n))).A1
  have hq : AF.D8 X b o = _ := (BB c1)
  refine ⟨_, ⟨⟨none, 0, 0⟩, ?hv1, ?hl1, ?hB1⟩, hS⟩
  case hv1 => rw [hq]; rfl
  case hl1 => rw [hq]; rfl
  case hB1 => rw [hq]; rfl
 have c1p := kz c1
 refine Gs (Gm rfl (Gt (A8 rfl rfl) (Gm rfl (Ba 18 rfl rfl (fun q => AE rfl) (Ba 18 rfl rfl (fun q => CN (cF rfl q) rfl) ?_)))))
 refine Gt (BR rfl rfl (fun h => by rw [h]; rfl)) ?_
 refine Gm rfl (Ba 22 rfl rfl (fun q => AE rfl) (Ba 22 rfl rfl (fun q => Ah Bn rfl) ?_))
 refine Ba 22 rfl rfl (fun q => by have q1 := q; (try simp at q1); exact AR C6 (cF rfl q) (cF rfl q) (by first | omega | exact hb.1 | exact hb.2 | (dsimp only; omega)) (by first | omega | exact hb.1 | exact hb.2 | (dsimp only; omega))) ?_
 refine Ba 22 rfl rfl (fun q => Ah IB (cF rfl q)) ?_
 refine Ba 22 rfl rfl (fun q => by have q1 := q; (try simp at q1); exact AG (cF rfl q) Dj .m2 ((AH.l2.comp (AU.ar (n := 6) Aj.fl (by first | omega | exact hb | (dsimp only; omega)))).comp Aj.l1) rfl rfl) ?_
 refine Ba 22 rfl rfl (fun q => BV (cF rfl q)) ?_
 refine Gt (BR rfl rfl (fun h => by rw [h]; rfl)) ?_
 refine Ga rfl (Gn (.t5 1 3 5 6 15) ?_)
 refine Gc (fun c2 => ?_) (fun c2 => ?_)
 ·
  refine Gs (Gt (AZ rfl BW .m2 (AU.id AH.fl.len AH.fl.one) rfl) ?_)
  refine AT (AK (AU.id AH.fl.len AH.fl.one) rfl rfl rfl D6 rfl .h) ?_
  refine Ga rfl (Ga rfl (Gn (.t3 6 7 8) (Ab (AS (AD ?_)))))
  refine AY rfl (.cell rfl .m0 (.inl ⟨(by rw [AH.fl.len]; exact BW), rfl⟩) (.tmp rfl (.tmp rfl .n))) ?_
  intro w1 hS
  have hS := hS.Ck 56 16
  have hS := (hS.perm (Ax.perm (.c .h .n))).A1
  have hq : AF.D8 X b o = _ := ((AW c1).trans (BB c2))
  refine ⟨_, ⟨⟨none, 0, 0⟩, ?hv2, ?hl2, ?hB2⟩, hS⟩
  case hv2 => rw [hq]; rfl
  case hl2 => rw [hq]; rfl
  case hB2 => rw [hq]; rfl
 have c2p := kz c2
 refine Gs (Gt (Ah DD rfl) (Gt (AG rfl A3 .m1 Order.l0 rfl rfl) (Gt (A8 rfl rfl) (Gm rfl (Ba 35 rfl rfl (fun q => Ah DD rfl) (Ba 35 rfl rfl (fun q => AG (cF rfl q) A3 .m1 Order.l0 rfl rfl) (Ba 35 rfl rfl (fun q => Cj (cF rfl q) rfl) ?_)))))))
 refine Gt (BR rfl rfl (fun h => by rw [h]; rfl)) ?_
 refine Ga rfl (Gn (.t5 1 3 5 6 31) ?_)
 refine Gc (fun c3 => ?_) (fun c3 => ?_)
 ·
  refine Gs (Gt (AZ rfl BW .m2 (AU.id AH.fl.len AH.fl.one) rfl) ?_)
  refine AT (AK (AU.id AH.fl.len AH.fl.one) rfl rfl rfl D6 rfl .h) ?_
  refine Ga rfl (Ga rfl (Gn (.t3 6 7 8) (Ab (AS (AD ?_)))))
  refine AY rfl (.cell rfl .m0 (.inl ⟨(by rw [AH.fl.len]; exact BW), rfl⟩) (.tmp rfl (.tmp rfl .n))) ?_
  intro w1 hS
  have hS := hS.Ck 56 16
  have hS := (hS.perm (Ax.perm (.c .h .n))).A1
  have hq : AF.D8 X b o = _ := ((AW c1).trans ((AW c2).trans (BB c3)))
  refine ⟨_, ⟨⟨none, 0, 0⟩, ?hv3, ?hl3, ?hB3⟩, hS⟩
  case hv3 => rw [hq]; rfl
  case hl3 => rw [hq]; rfl
  case hB3 => rw [hq]; rfl
 have c3p := kz c3
 have hF := AF.Vt hw c1 c2
 have hb := hF.b
 refine Aa ?_
 refine AB (.t4 1 3 5 6) ?_
 refine AV (AA (Gs (Gt (AZ rfl BW .m2 (AU.id AH.fl.len AH.fl.one) rfl) (Gm rfl (Gt (BC Ul Uf rfl (.cons Ad.l0 rfl rfl rfl (.cons Ad.l1 rfl rfl rfl .nil))) ?_)))))
 refine B4 rfl rfl rfl (fun b4 => ?_)
 refine Ga rfl (Gn (.t4 1 5 6 9) (Ao (Af (Gs (Gt (Ah DD rfl) (Gt (AG rfl A3 .m2 Order.l0 rfl rfl) (Gt (A8 rfl rfl) ?_)))))))
 refine Ga rfl (Gn (.t5 1 5 6 9 48) ?_)
 refine Gc (fun c4 => ?_) (fun c4 => ?_)
 ·
  have c4p := kz c4
  refine AJ (Gm rfl (Gt (Ah DD rfl) (Gt (AG rfl A3 .m2 Order.l0 rfl rfl) ?_)))
  refine Dh Ing.Event.enc 56 16 ?_
  refine BF rfl dN (.c rfl (.c rfl .n)) (.c (.t .h) (.c .h .n)) (QO _ (⟨X, b, []⟩ : AF) _ o.verb rfl hF (by omega) (Nat.zero_le _)) (fun w hS => gl0.pull gm0 hS (.c (.t .h) (.c .h .n))) (fun v5 B hv => ?_)
  obtain ⟨y6, rfl, y7, rfl⟩ := hv
  refine AQ (AB (.t2 6 9) ?_)
  refine AV (AA (Ao ?_))
  refine BE (N := 11) [0, 1, 3, 7, 0, 16, 48, 112, 15, 511, 1023] mix (by kernel_rfl) rfl ?_
  refine Pf 0 rfl (AE rfl) (Pf 1 rfl (BT rfl) (Pf 2 rfl (Ah A9 rfl) (Pf 3 rfl (AZ rfl BW .m0 Ad.l0 rfl) (Pf 4 rfl (AE rfl) (Pf 5 rfl (BT rfl) (Pf 6 rfl (Ah CJ rfl) (Pf 7 rfl (AG rfl Di .m0 Ad.l2 rfl rfl) ?_)))))))
  refine An 8 rfl (by kernel_rfl) ?_
  refine AT (AK (AU.id AH.fl.len AH.fl.one) rfl rfl rfl D6 rfl (.t (.t .h))) ?_
  refine BN rfl ⟨?_, ?_⟩
  · exact (Po rfl (AG rfl Di .m0 Ad.l2 rfl rfl) rfl rfl (Po rfl (Ah CJ rfl) rfl rfl (Po rfl (BT rfl) rfl rfl (Po rfl (AE rfl) rfl rfl (Pk (Pk (Pk (Pk Aq))))))))
  refine Pf 9 rfl (A0 rfl) (Pf 10 rfl (A0 rfl) ?_)
  refine A4 (by kernel_rfl) ?_
  refine AB (.t3 6 7 8) ?_
  refine AA (Ab ?_)
  refine AY rfl (.cell rfl .m2 (.inl ⟨(by rw [AH.fl.len]; exact BW), rfl⟩) (.tmp rfl (.tmp rfl .n))) ?_
  intro w1 hS
  have hS := (hS.perm (Ax.perm (.c (.t .h) .n))).A1
  have ha : AF.act (⟨X, b, []⟩ : AF) o = _ := (BB c4)
  have hq : AF.D8 X b o = ((AF.act (⟨X, b, []⟩ : AF) o).w, (AF.act (⟨X, b, []⟩ : AF) o).out, 0) := ((AW c1).trans ((AW c2).trans (AW c3)))
  rw [ha] at hq
  refine ⟨_, ⟨?gq4, ?hv4, ?hl4, ?hB4⟩, hS⟩
  case hB4 => rw [hq]; (try rfl)
  case hv4 => rw [hq]; (try rfl)
  case hl4 => rw [hq]; (try dsimp only); exact y7
 have c4p := kz c4
 refine Gs (Gt (Ah DD rfl) (Gt (AG rfl A3 .m2 Order.l0 rfl rfl) (Gt (Ae rfl rfl) (Ga rfl (Gn (.t5 1 5 6 9 56) ?_)))))
 refine Gc (fun c5 => ?_) (fun c5 => ?_)
 ·
  refine AJ (Gm rfl ?_)
  refine Dh Ing.Event.enc 56 16 ?_
  refine BF rfl Ua (.c rfl .n) (.c (.t .h) (.c .h .n)) (HD _ (⟨X, b, []⟩ : AF) _ rfl hF.b hF.br (Nat.zero_le _)) (fun w hS => gl0.pull gm0 hS (.c (.t .h) (.c .h .n))) (fun v9 B hv => ?_)
  obtain ⟨y10, rfl, y11, rfl⟩ := hv
  refine AQ (AB (.t2 6 9) ?_)
  refine AV (AA (Ao ?_))
  refine BE (N := 11) [0, 1, 3, 7, 0, 16, 48, 112, 15, 511, 1023] mix (by kernel_rfl) rfl ?_
  refine Pf 0 rfl (AE rfl) (Pf 1 rfl (BT rfl) (Pf 2 rfl (Ah A9 rfl) (Pf 3 rfl (AZ rfl BW .m0 Ad.l0 rfl) (Pf 4 rfl (AE rfl) (Pf 5 rfl (BT rfl) (Pf 6 rfl (Ah CJ rfl) (Pf 7 rfl (AG rfl Di .m0 Ad.l2 rfl rfl) ?_)))))))
  refine An 8 rfl (by kernel_rfl) ?_
  refine AT (AK (AU.id AH.fl.len AH.fl.one) rfl rfl rfl D6 rfl (.t (.t .h))) ?_
  refine BN rfl ⟨?_, ?_⟩
  · exact (Po rfl (AG rfl Di .m0 Ad.l2 rfl rfl) rfl rfl (Po rfl (Ah CJ rfl) rfl rfl (Po rfl (BT rfl) rfl rfl (Po rfl (AE rfl) rfl rfl (Pk (Pk (Pk (Pk Aq))))))))
  refine Pf 9 rfl (A0 rfl) (Pf 10 rfl (A0 rfl) ?_)
  refine A4 (by kernel_rfl) ?_
  refine AB (.t3 6 7 8) ?_
  refine AA (Ab ?_)
  refine AY rfl (.cell rfl .m2 (.inl ⟨(by rw [AH.fl.len]; exact BW), rfl⟩) (.tmp rfl (.tmp rfl .n))) ?_
  intro w1 hS
  have hS := (hS.perm (Ax.perm (.c (.t .h) .n))).A1
  have ha : AF.act (⟨X, b, []⟩ : AF) o = _ := ((AW c4).trans (BB c5))
  have hq : AF.D8 X b o = ((AF.act (⟨X, b, []⟩ : AF) o).w, (AF.act (⟨X, b, []⟩ : AF) o).out, 0) := ((AW c1).trans ((AW c2).trans (AW c3)))
  rw [ha] at hq
  refine ⟨_, ⟨?gq5, ?hv5, ?hl5, ?hB5⟩, hS⟩
  case hB5 => rw [hq]; (try rfl)
  case hv5 => rw [hq]; (try rfl)
  case hl5 => rw [hq]; (try dsimp only); exact y11
 have c5p := kz c5
 refine Gs (Gt (Ah DD rfl) (Gt (AG rfl A3 .m2 Order.l0 rfl rfl) (Gt (Ae rfl rfl) (Ga rfl (Gn (.t5 1 5 6 9 62) ?_)))))
 refine Gc (fun c6 => ?_) (fun c6 => ?_)
 ·
  have c6p := kz c6
  refine AJ (Gm rfl (Gm rfl (Gt (BT rfl) (Gt (Ah A9 rfl) (Gt (AZ rfl BW .m0 Ad.l0 rfl) (Gm rfl ?_))))))
  refine Ag rfl SZ (.c rfl (.c rfl (.c rfl .n))) .n (FF _ _ _) (fun v12 B hv => ?_)
  obtain ⟨y13, rfl, y14, rfl⟩ := hv
  refine Dh Ing.Event.enc 56 16 ?_
  refine Ag rfl ZC (.c rfl (.c rfl (.c rfl .n))) (.c (.t (.t .h)) (.c .h (.c .h .n))) (LW _ (⟨X, b, []⟩ : AF) _ [89, 111, 117, 32, 104, 97, 118, 101] _ (X.has 1 b) rfl hF.b (by assumption) (AH.H6 _ _ _) (fun i hi => AH.Fp hi) hF.br (by decide) (Nat.zero_le _)) (fun v17 B hv => ?_)
  obtain ⟨y18, rfl, y19, rfl⟩ := hv
  refine AQ (AB (.t2 6 9) ?_)
  refine AV (AA (Ao ?_))
  refine BE (N := 11) [0, 1, 3, 7, 0, 16, 48, 112, 15, 511, 1023] mix (by kernel_rfl) rfl ?_
  refine Pf 0 rfl (AE rfl) (Pf 1 rfl (BT rfl) (Pf 2 rfl (Ah A9 rfl) (Pf 3 rfl (AZ rfl BW .m0 Ad.l0 rfl) (Pf 4 rfl (AE rfl) (Pf 5 rfl (BT rfl) (Pf 6 rfl (Ah CJ rfl) (Pf 7 rfl (AG rfl Di .m0 Ad.l2 rfl rfl) ?_)))))))
  refine An 8 rfl (by kernel_rfl) ?_
  refine AT (AK (AU.id AH.fl.len AH.fl.one) rfl rfl rfl D6 rfl (.t (.t (.t .h)))) ?_
  refine BN rfl ⟨?_, ?_⟩
  · exact (Po rfl (AG rfl Di .m0 Ad.l2 rfl rfl) rfl rfl (Po rfl (Ah CJ rfl) rfl rfl (Po rfl (BT rfl) rfl rfl (Po rfl (AE rfl) rfl rfl (Pk (Pk (Pk (Pk Aq))))))))
  refine Pf 9 rfl (A0 rfl) (Pf 10 rfl (A0 rfl) ?_)
  refine A4 (by kernel_rfl) ?_
  refine AB (.t3 6 7 8) ?_
  refine AA (Ab ?_)
  refine AY rfl (.cell rfl .m3 (.inl ⟨(by rw [AH.fl.len]; exact BW), rfl⟩) (.tmp rfl (.tmp rfl .n))) ?_
  intro w1 hS
  have hS := (hS.perm (Ax.perm (.c (.t .h) .n))).A1
  have ha : AF.act (⟨X, b, []⟩ : AF) o = _ := ((AW c4).trans ((AW c5).trans (BB c6)))
  have hq : AF.D8 X b o = ((AF.act (⟨X, b, []⟩ : AF) o).w, (AF.act (⟨X, b, []⟩ : AF) o).out, 0) := ((AW c1).trans ((AW c2).trans (AW c3)))
  rw [ha] at hq
  refine ⟨_, ⟨?gq6, ?hv6, ?hl6, ?hB6⟩, hS⟩
  case hB6 => rw [hq]; (try rfl)
  case hv6 => rw [hq]; (try rfl)
  case hl6 => rw [hq]; (try dsimp only); exact y19
 have c6p := kz c6
 refine Gs (Gt (Ah DD rfl) (Gt (AG rfl A3 .m2 Order.l0 rfl rfl) (Gt (Ae rfl rfl) (Ga rfl (Gn (.t4 5 6 9 74) ?_)))))
 refine Gc (fun c7 => ?_) (fun c7 => ?_)
 ·
  refine AJ (Gm rfl (Gt (Ah QW rfl) (Gt (AG rfl CV .m2 Order.l5 rfl rfl) (Gt (BC N9 IP rfl (.cons Ing.Event.l0 rfl rfl rfl (.cons Ing.Event.l3 rfl rfl rfl (.cons Ing.Event.l9 rfl rfl rfl .nil)))) ?_))))
  refine Dh Ing.Event.enc 56 16 ?_
  refine Ag rfl O9 (.c rfl (.c rfl .n)) (.c (.t .h) (.c .h .n)) (CL _ (⟨X, b, []⟩ : AF) _ { AF.Fk 7 with text := o.text } rfl hF.b (show (-1 : Int) < 6 by decide) (Nat.zero_le _)) (fun v21 B hv => ?_)
  obtain ⟨y22, rfl, y23, rfl⟩ := hv
  refine AQ (AB (.t2 6 9) ?_)
  refine AV (AA (Ao ?_))
  refine BE (N := 11) [0, 1, 3, 7, 0, 16, 48, 112, 15, 511, 1023] mix (by kernel_rfl) rfl ?_
  refine Pf 0 rfl (AE rfl) (Pf 1 rfl (BT rfl) (Pf 2 rfl (Ah A9 rfl) (Pf 3 rfl (AZ rfl BW .m0 Ad.l0 rfl) (Pf 4 rfl (AE rfl) (Pf 5 rfl (BT rfl) (Pf 6 rfl (Ah CJ rfl) (Pf 7 rfl (AG rfl Di .m0 Ad.l2 rfl rfl) ?_)))))))
  refine An 8 rfl (by kernel_rfl) ?_
  refine AT (AK (AU.id AH.fl.len AH.fl.one) rfl rfl rfl D6 rfl (.t (.t .h))) ?_
  refine BN rfl ⟨?_, ?_⟩
  · exact (Po rfl (AG rfl Di .m0 Ad.l2 rfl rfl) rfl rfl (Po rfl (Ah CJ rfl) rfl rfl (Po rfl (BT rfl) rfl rfl (Po rfl (AE rfl) rfl rfl (Pk (Pk (Pk (Pk Aq))))))))
  refine Pf 9 rfl (A0 rfl) (Pf 10 rfl (A0 rfl) ?_)
  refine A4 (by kernel_rfl) ?_
  refine AB (.t3 6 7 8) ?_
  refine AA (Ab ?_)
  refine AY rfl (.cell rfl .m2 (.inl ⟨(by rw [AH.fl.len]; exact BW), rfl⟩) (.tmp rfl (.tmp rfl .n))) ?_
  intro w1 hS
  have hS := (hS.perm (Ax.perm (.c (.t .h) .n))).A1
  have ha : AF.act (⟨X, b, []⟩ : AF) o = _ := ((AW c4).trans ((AW c5).trans ((AW c6).trans (BB c7))))
  have hq : AF.D8 X b o = ((AF.act (⟨X, b, []⟩ : AF) o).w, (AF.act (⟨X, b, []⟩ : AF) o).out, 0) := ((AW c1).trans ((AW c2).trans (AW c3)))
  rw [ha] at hq
  refine ⟨_, ⟨?gq7, ?hv7, ?hl7, ?hB7⟩, hS⟩
  case hB7 => rw [hq]; (try rfl)
  case hv7 => rw [hq]; (try rfl)
  case hl7 => rw [hq]; (try dsimp only); exact y23
 have c7p := kz c7
 refine Gs (Gt (Ah DD rfl) (Gt (AG rfl A3 .m2 Order.l0 rfl rfl) (Gt (Ae rfl rfl) (Ga rfl (Gn (.t4 5 6 9 83) ?_)))))
 refine Gc (fun c8 => ?_) (fun c8 => ?_)
 ·
  refine AJ (Gm rfl ?_)
  refine Dh Ing.Event.enc 56 16 ?_
  refine Ag rfl bY (.c rfl .n) (.c (.t .h) (.c .h .n)) (Q5 _ (⟨X, b, []⟩ : AF) _ rfl hF (Nat.zero_le _)) (fun v25 B hv => ?_)
  obtain ⟨y26, rfl, y27, rfl⟩ := hv
  refine AQ (AB (.t2 6 9) ?_)
  refine AV (AA (Ao ?_))
  refine BE (N := 11) [0, 1, 3, 7, 0, 16, 48, 112, 15, 511, 1023] mix (by kernel_rfl) rfl ?_
  refine Pf 0 rfl (AE rfl) (Pf 1 rfl (BT rfl) (Pf 2 rfl (Ah A9 rfl) (Pf 3 rfl (AZ rfl BW .m0 Ad.l0 rfl) (Pf 4 rfl (AE rfl) (Pf 5 rfl (BT rfl) (Pf 6 rfl (Ah CJ rfl) (Pf 7 rfl (AG rfl Di .m0 Ad.l2 rfl rfl) ?_)))))))
  refine An 8 rfl (by kernel_rfl) ?_
  refine AT (AK (AU.id AH.fl.len AH.fl.one) rfl rfl rfl D6 rfl (.t (.t .h))) ?_
  refine BN rfl ⟨?_, ?_⟩
  · exact (Po rfl (AG rfl Di .m0 Ad.l2 rfl rfl) rfl rfl (Po rfl (Ah CJ rfl) rfl rfl (Po rfl (BT rfl) rfl rfl (Po rfl (AE rfl) rfl rfl (Pk (Pk (Pk (Pk Aq))))))))
  refine Pf 9 rfl (A0 rfl) (Pf 10 rfl (A0 rfl) ?_)
  refine A4 (by kernel_rfl) ?_
  refine AB (.t3 6 7 8) ?_
  refine AA (Ab ?_)
  refine AY rfl (.cell rfl .m2 (.inl ⟨(by rw [AH.fl.len]; exact BW), rfl⟩) (.tmp rfl (.tmp rfl .n))) ?_
  intro w1 hS
  have hS := (hS.perm (Ax.perm (.c (.t .h) .n))).A1
  have ha : AF.act (⟨X, b, []⟩ : AF) o = _ := ((AW c4).trans ((AW c5).trans ((AW c6).trans ((AW c7).trans (BB c8)))))
  have hq : AF.D8 X b o = ((AF.act (⟨X, b, []⟩ : AF) o).w, (AF.act (⟨X, b, []⟩ : AF) o).out, 0) := ((AW c1).trans ((AW c2).trans (AW c3)))
  rw [ha] at hq
  refine ⟨_, ⟨?gq8, ?hv8, ?hl8, ?hB8⟩, hS⟩
  case hB8 => rw [hq]; (try rfl)
  case hv8 => rw [hq]; (try rfl)
  case hl8 => rw [hq]; (try dsimp only); exact y27
 have c8p := kz c8
 refine Gs (Gt (Ah DD rfl) (Gt (AG rfl A3 .m2 Order.l0 rfl rfl) (Gt (Ae rfl rfl) (Ga rfl (Gn (.t4 5 6 9 89) ?_)))))
 refine Gc (fun c9 => ?_) (fun c9 => ?_)
 ·
  refine AJ (Gm rfl (Gt (AZ rfl B6 .m2 (AU.id Order.fl.len Order.fl.one) rfl) ?_))
  refine Dh Ing.Event.enc 56 16 ?_
  refine BF rfl bc (.c rfl (.c rfl .n)) (.c (.t .h) (.c .h .n)) (PW _ (⟨X, b, []⟩ : AF) _ o rfl hF hm (Nat.zero_le _)) (fun w hS => ⟨gl1.pull gm1 hS (.c (.t .h) (.c .h .n)), gl2.pull gm2 hS (.c (.t .h) (.c .h .n))⟩) (fun v29 B hv => ?_)
  obtain ⟨y30, rfl, y31, rfl⟩ := hv
  refine AQ (AB (.t2 6 9) ?_)
  refine AV (AA (Ao ?_))
  refine BE (N := 11) [0, 1, 3, 7, 0, 16, 48, 112, 15, 511, 1023] mix (by kernel_rfl) rfl ?_
  refine Pf 0 rfl (AE rfl) (Pf 1 rfl (BT rfl) (Pf 2 rfl (Ah A9 rfl) (Pf 3 rfl (AZ rfl BW .m0 Ad.l0 rfl) (Pf 4 rfl (AE rfl) (Pf 5 rfl (BT rfl) (Pf 6 rfl (Ah CJ rfl) (Pf 7 rfl (AG rfl Di .m0 Ad.l2 rfl rfl) ?_)))))))
  refine An 8 rfl (by kernel_rfl) ?_
  refine AT (AK (AU.id AH.fl.len AH.fl.one) rfl rfl rfl D6 rfl (.t (.t .h))) ?_
  refine BN rfl ⟨?_, ?_⟩
  · exact (Po rfl (AG rfl Di .m0 Ad.l2 rfl rfl) rfl rfl (Po rfl (Ah CJ rfl) rfl rfl (Po rfl (BT rfl) rfl rfl (Po rfl (AE rfl) rfl rfl (Pk (Pk (Pk (Pk Aq))))))))
  refine Pf 9 rfl (A0 rfl) (Pf 10 rfl (A0 rfl) ?_)
  refine A4 (by kernel_rfl) ?_
  refine AB (.t3 6 7 8) ?_
  refine AA (Ab ?_)
  refine AY rfl (.cell rfl .m2 (.inl ⟨(by rw [AH.fl.len]; exact BW), rfl⟩) (.tmp rfl (.tmp rfl .n))) ?_
  intro w1 hS
  have hS := (hS.perm (Ax.perm (.c (.t .h) .n))).A1
  have ha : AF.act (⟨X, b, []⟩ : AF) o = _ := ((AW c4).trans ((AW c5).trans ((AW c6).trans ((AW c7).trans ((AW c8).trans (BB c9))))))
  have hq : AF.D8 X b o = ((AF.act (⟨X, b, []⟩ : AF) o).w, (AF.act (⟨X, b, []⟩ : AF) o).out, 0) := ((AW c1).trans ((AW c2).trans (AW c3)))
  rw [ha] at hq
  refine ⟨_, ⟨?gq9, ?hv9, ?hl9, ?hB9⟩, hS⟩
  case hB9 => rw [hq]; (try rfl)
  case hv9 => rw [hq]; (try rfl)
  case hl9 => rw [hq]; (try dsimp only); exact y31
 have c9p := kz c9
 refine Gs (Gt (Ah DD rfl) (Gt (AG rfl A3 .m2 Order.l0 rfl rfl) (Gt (Ae rfl rfl) (Ga rfl (Gn (.t4 5 6 9 96) ?_)))))
 refine Gc (fun c10 => ?_) (fun c10 => ?_)
 ·
  refine AJ (Gm rfl (Gt (AZ rfl B6 .m2 (AU.id Order.fl.len Order.fl.one) rfl) ?_))
  refine Dh Ing.Event.enc 56 16 ?_
  refine BF rfl cO (.c rfl (.c rfl .n)) (.c (.t .h) (.c .h .n)) (RT _ (⟨X, b, []⟩ : AF) _ o rfl hF hu (Nat.zero_le _)) (fun w hS => ⟨gl1.pull gm1 hS (.c (.t .h) (.c .h .n)), gl2.pull gm2 hS (.c (.t .h) (.c .h .n))⟩) (fun v33 B hv => ?_)
  obtain ⟨y34, rfl, y35, rfl⟩ := hv
  refine AQ (AB (.t2 6 9) ?_)
  refine AV (AA (Ao ?_))
  refine BE (N := 11) [0, 1, 3, 7, 0, 16, 48, 112, 15, 511, 1023] mix (by kernel_rfl) rfl ?_
  refine Pf 0 rfl (AE rfl) (Pf 1 rfl (BT rfl) (Pf 2 rfl (Ah A9 rfl) (Pf 3 rfl (AZ rfl BW .m0 Ad.l0 rfl) (Pf 4 rfl (AE rfl) (Pf 5 rfl (BT rfl) (Pf 6 rfl (Ah CJ rfl) (Pf 7 rfl (AG rfl Di .m0 Ad.l2 rfl rfl) ?_)))))))
  refine An 8 rfl (by kernel_rfl) ?_
  refine AT (AK (AU.id AH.fl.len AH.fl.one) rfl rfl rfl D6 rfl (.t (.t .h))) ?_
  refine BN rfl ⟨?_, ?_⟩
  · exact (Po rfl (AG rfl Di .m0 Ad.l2 rfl rfl) rfl rfl (Po rfl (Ah CJ rfl) rfl rfl (Po rfl (BT rfl) rfl rfl (Po rfl (AE rfl) rfl rfl (Pk (Pk (Pk (Pk Aq))))))))
  refine Pf 9 rfl (A0 rfl) (Pf 10 rfl (A0 rfl) ?_)
  refine A4 (by kernel_rfl) ?_
  refine AB (.t3 6 7 8) ?_
  refine AA (Ab ?_)
  refine AY rfl (.cell rfl .m2 (.inl ⟨(by rw [AH.fl.len]; exact BW), rfl⟩) (.tmp rfl (.tmp rfl .n))) ?_
  intro w1 hS
  have hS := (hS.perm (Ax.perm (.c (.t .h) .n))).A1
  have ha : AF.act (⟨X, b, []⟩ : AF) o = _ := ((AW c4).trans ((AW c5).trans ((AW c6).trans ((AW c7).trans ((AW c8).trans ((AW c9).trans (BB c10)))))))
  have hq : AF.D8 X b o = ((AF.act (⟨X, b, []⟩ : AF) o).w, (AF.act (⟨X, b, []⟩ : AF) o).out, 0) := ((AW c1).trans ((AW c2).trans (AW c3)))
  rw [ha] at hq
  refine ⟨_, ⟨?gq10, ?hv10, ?hl10, ?hB10⟩, hS⟩
  case hB10 => rw [hq]; (try rfl)
  case hv10 => rw [hq]; (try rfl)
  case hl10 => rw [hq]; (try dsimp only); exact y35
 have c10p := kz c10
 refine Gs (Gt (Ah DD rfl) (Gt (AG rfl A3 .m2 Order.l0 rfl rfl) (Gt (Ae rfl rfl) (Gm rfl (Ba 107 rfl rfl (fun q => Ah DD rfl) (Ba 107 rfl rfl (fun q => AG (cF rfl q) A3 .m2 Order.l0 rfl rfl) (Ba 107 rfl rfl (fun q => Ae (cF rfl q) rfl) ?_)))))))
 refine Gt (BR rfl rfl (fun h => by rw [h]; rfl)) ?_
 refine Gm rfl (Ba 112 rfl rfl (fun q => Ah DD rfl) (Ba 112 rfl rfl (fun q => AG (cF rfl q) A3 .m2 Order.l0 rfl rfl) (Ba 112 rfl rfl (fun q => Ae (cF rfl q) rfl) ?_)))
 refine Gt (BR rfl rfl (fun h => by rw [h]; rfl)) ?_
 refine Ga rfl (Gn (.t4 5 6 9 103) ?_)
 refine Gc (fun c11 => ?_) (fun c11 => ?_)
 ·
  have c11p := kz c11
  refine AJ (Gm rfl (Gt (AZ rfl B6 .m2 (AU.id Order.fl.len Order.fl.one) rfl) ?_))
  refine Dh Ing.Event.enc 56 16 ?_
  refine BF rfl af (.c rfl (.c rfl .n)) (.c (.t .h) (.c .h .n)) (R8 _ (⟨X, b, []⟩ : AF) _ o rfl hF (by omega) hu (Nat.zero_le _)) (fun w hS => ⟨gl1.pull gm1 hS (.c (.t .h) (.c .h .n)), gl2.pull gm2 hS (.c (.t .h) (.c .h .n))⟩) (fun v37 B hv => ?_)
  obtain ⟨y38, rfl, y39, rfl⟩ := hv
  refine AQ (AB (.t2 6 9) ?_)
  refine AV (AA (Ao ?_))
  refine BE (N := 11) [0, 1, 3, 7, 0, 16, 48, 112, 15, 511, 1023] mix (by kernel_rfl) rfl ?_
  refine Pf 0 rfl (AE rfl) (Pf 1 rfl (BT rfl) (Pf 2 rfl (Ah A9 rfl) (Pf 3 rfl (AZ rfl BW .m0 Ad.l0 rfl) (Pf 4 rfl (AE rfl) (Pf 5 rfl (BT rfl) (Pf 6 rfl (Ah CJ rfl) (Pf 7 rfl (AG rfl Di .m0 Ad.l2 rfl rfl) ?_)))))))
  refine An 8 rfl (by kernel_rfl) ?_
  refine AT (AK (AU.id AH.fl.len AH.fl.one) rfl rfl rfl D6 rfl (.t (.t .h))) ?_
  refine BN rfl ⟨?_, ?_⟩
  · exact (Po rfl (AG rfl Di .m0 Ad.l2 rfl rfl) rfl rfl (Po rfl (Ah CJ rfl) rfl rfl (Po rfl (BT rfl) rfl rfl (Po rfl (AE rfl) rfl rfl (Pk (Pk (Pk (Pk Aq))))))))
  refine Pf 9 rfl (A0 rfl) (Pf 10 rfl (A0 rfl) ?_)
  refine A4 (by kernel_rfl) ?_
  refine AB (.t3 6 7 8) ?_
  refine AA (Ab ?_)
  refine AY rfl (.cell rfl .m2 (.inl ⟨(by rw [AH.fl.len]; exact BW), rfl⟩) (.tmp rfl (.tmp rfl .n))) ?_
  intro w1 hS
  have hS := (hS.perm (Ax.perm (.c (.t .h) .n))).A1
  have ha : AF.act (⟨X, b, []⟩ : AF) o = _ := ((AW c4).trans ((AW c5).trans ((AW c6).trans ((AW c7).trans ((AW c8).trans ((AW c9).trans ((AW c10).trans (BB c11))))))))
  have hq : AF.D8 X b o = ((AF.act (⟨X, b, []⟩ : AF) o).w, (AF.act (⟨X, b, []⟩ : AF) o).out, 0) := ((AW c1).trans ((AW c2).trans (AW c3)))
  rw [ha] at hq
  refine ⟨_, ⟨?gq11, ?hv11, ?hl11, ?hB11⟩, hS⟩
  case hB11 => rw [hq]; (try rfl)
  case hv11 => rw [hq]; (try rfl)
  case hl11 => rw [hq]; (try dsimp only); exact y39
 have c11p := kz c11
 refine AJ (Gm rfl (Gt (AZ rfl B6 .m2 (AU.id Order.fl.len Order.fl.one) rfl) ?_))
 refine Dh Ing.Event.enc 56 16 ?_
 refine BF rfl aX (.c rfl (.c rfl .n)) (.c (.t .h) (.c .h .n)) (R5 _ (⟨X, b, []⟩ : AF) _ o rfl hF (by omega) (Nat.zero_le _)) (fun w hS => gl0.pull gm0 hS (.c (.t .h) (.c .h .n))) (fun v41 B hv => ?_)
 obtain ⟨y42, rfl, y43, rfl⟩ := hv
 refine AQ (AB (.t2 6 9) ?_)
 refine AV (AA (Ao ?_))
 refine BE (N := 11) [0, 1, 3, 7, 0, 16, 48, 112, 15, 511, 1023] mix (by kernel_rfl) rfl ?_
 refine Pf 0 rfl (AE rfl) (Pf 1 rfl (BT rfl) (Pf 2 rfl (Ah A9 rfl) (Pf 3 rfl (AZ rfl BW .m0 Ad.l0 rfl) (Pf 4 rfl (AE rfl) (Pf 5 rfl (BT rfl) (Pf 6 rfl (Ah CJ rfl) (Pf 7 rfl (AG rfl Di .m0 Ad.l2 rfl rfl) ?_)))))))
 refine An 8 rfl (by kernel_rfl) ?_
 refine AT (AK (AU.id AH.fl.len AH.fl.one) rfl rfl rfl D6 rfl (.t (.t .h))) ?_
 refine BN rfl ⟨?_, ?_⟩
 · exact (Po rfl (AG rfl Di .m0 Ad.l2 rfl rfl) rfl rfl (Po rfl (Ah CJ rfl) rfl rfl (Po rfl (BT rfl) rfl rfl (Po rfl (AE rfl) rfl rfl (Pk (Pk (Pk (Pk Aq))))))))
 refine Pf 9 rfl (A0 rfl) (Pf 10 rfl (A0 rfl) ?_)
 refine A4 (by kernel_rfl) ?_
 refine AB (.t3 6 7 8) ?_
 refine AA (Ab ?_)
 refine AY rfl (.cell rfl .m2 (.inl ⟨(by rw [AH.fl.len]; exact BW), rfl⟩) (.tmp rfl (.tmp rfl .n))) ?_
 intro w1 hS
 have hS := (hS.perm (Ax.perm (.c (.t .h) .n))).A1
 have ha : AF.act (⟨X, b, []⟩ : AF) o = _ := ((AW c4).trans ((AW c5).trans ((AW c6).trans ((AW c7).trans ((AW c8).trans ((AW c9).trans ((AW c10).trans (AW c11))))))))
 have hq : AF.D8 X b o = ((AF.act (⟨X, b, []⟩ : AF) o).w, (AF.act (⟨X, b, []⟩ : AF) o).out, 0) := ((AW c1).trans ((AW c2).trans (AW c3)))
 rw [ha] at hq
 refine ⟨_, ⟨?gq12, ?hv12, ?hl12, ?hB12⟩, hS⟩
 case hB12 => rw [hq]; (try rfl)
 case hv12 => rw [hq]; (try rfl)
 case hl12 => rw [hq]; (try dsimp only); exact y43
theorem H7 (b : Nat) (V : AL) (ls : Vector BD 4) (ev : List Ing.Event) (k : Int) (n m : Nat) (hk : 0 ≤ k ∧ k < 4) (hF : AI.Fit (A5 V ls ev) n m) (hn : n ≤ 900000) (hm : m ≤ 900000) : FL Tryz.prog 67 #[.pointer (some ⟨b, 0, none⟩), .pointer (some ⟨b, 165 + k.toNat * 22, none⟩)] [Ac.box b 101 (AL.enc V), Ac.Dz (CH 9 (AL.Aw V) ls), Ac.own (AL.last V) 56 16 ((ev).flatMap Ing.Event.enc)] (fun w => (GV 2 Fu w ∧ 2 ∉ Cd [Ac.box b 101 (AL.enc V), Ac.Dz (CH 9 (AL.Aw V) ls), Ac.own (AL.last V) 56 16 ((ev).flatMap Ing.Event.enc)]) ∧ (GV 0 AH.DG w ∧ 0 ∉ Cd [Ac.box b 101 (AL.enc V), Ac.Dz (CH 9 (AL.Aw V) ls), Ac.own (AL.last V) 56 16 ((ev).flatMap Ing.Event.enc)]) ∧ (Gl 7 w ∧ 7 ∉ Cd [Ac.box b 101 (AL.enc V), Ac.Dz (CH 9 (AL.Aw V) ls), Ac.own (AL.last V) 56 16 ((ev).flatMap Ing.Event.enc)]) ∧ (Gl 8 w ∧ 8 ∉ Cd [Ac.box b 101 (AL.enc V), Ac.Dz (CH 9 (AL.Aw V) ls), Ac.own (AL.last V) 56 16 ((ev).flatMap Ing.Event.enc)])) (fun v B => ∃ V' ls' ev', v = .tuple #[] ∧ A5 V' ls' ev' = AI.leave (A5 V ls ev) k ∧ B = [Ac.box b 101 (AL.enc V'), Ac.Dz (CH 9 (AL.Aw V') ls'), Ac.own (AL.last V') 56 16 ((ev').flatMap Ing.Event.enc)]) := by
 intro w hS0 hH
 obtain ⟨⟨gl0, gm0⟩, ⟨gl1, gm1⟩, ⟨gl2, gm2⟩, ⟨gl3, gm3⟩⟩ := hH
 have hbe := Ux hF hk.1 hk.2
 refine Al _ _ Tryz.func67 rfl rfl rfl (hS0) ?_
 refine Ao (Ao ?_)
 refine BE (N := 18) [0, 1, 3, 7, 15, 31, 63, 63, 191, 447, 959, 127, 2175, 6271, 16383, 32767, 65535, 131071] mix (by kernel_rfl) rfl ?_
 refine Pf 0 rfl (AE rfl) (Pf 1 rfl (BT rfl) (Pf 2 rfl (Ah I9 rfl) (Pf 3 rfl (AG rfl A3 .m0 ((AL.l1.comp (AU.arr (n := 4) A2.fl hk.1 hk.2)).comp A2.l0) rfl rfl) (Pf 4 rfl (Ae rfl rfl) (Pf 5 rfl (AE rfl) (MU 6 12 rfl rfl rfl (fun q => AE rfl) (MU 7 12 rfl rfl rfl (fun q => AE rfl) ?_)))))))
 refine MU 8 12 rfl rfl rfl (fun q => BT (Bh rfl q)) (MU 9 12 rfl rfl rfl (fun q => Ah IE (Bh rfl q)) (MU 10 12 rfl rfl rfl (fun q => AG (Bh rfl q) A3 .m0 ((AL.l1.comp (AU.arr (n := 4) A2.fl hk.1 hk.2)).comp A2.l1) rfl rfl) (MU 11 12 rfl rfl rfl (fun q => BT (Bh rfl q)) (MU 12 12 rfl rfl rfl (fun q => Ah EI (Bh rfl q)) (MU 13 12 rfl rfl rfl (fun q => Ah Bn (Bh rfl q)) ?_)))))
 refine BZ 14 rfl rfl (by kernel_rfl) (Rh (t := 12) rfl rfl (fun q => by have q1 := q; (try simp at q1); exact IT (AR C6 (Bh rfl q) (Bh rfl q) (by first | omega | exact hk.1 | exact hk.2) (by first | omega | exact hk.1 | exact hk.2)))) ?_
 refine MU 15 12 rfl rfl rfl (fun q => Ah IB (Bh rfl q)) ?_
 refine BZ 16 rfl rfl (by kernel_rfl) (Rh (t := 12) rfl rfl (fun q => by have q1 := q; (try simp at q1); exact IT (AG (Bh rfl q) Dj .m0 (((AL.l0.comp AH.l2).comp (AU.ar (n := 6) Aj.fl (by first | omega | exact hk))).comp Aj.l1) rfl rfl))) ?_
 refine Pf 17 rfl (BK rfl rfl (fun h => h)) ?_
 refine A4 (by kernel_rfl) ?_
 refine AB (.t3 0 1 24) ?_
 refine AA ?_
 refine Gc (fun c1 => ?_) (fun c1 => ?_)
 ·
  have c1p := kz c1
  have hdl := AF.NH V.w (V.Aw.at k).Az AI.EA
  have hds := AF.KK (b := (V.Aw.at k).Az) (o := AI.EA) hF.Fl AI.MQ
  refine Ao ?_
  refine BE (N := 18) [0, 1, 3, 7, 0, 16, 48, 112, 0, 511, 1023, 2047, 2047, 2047, 0, 20479, 57343, 131071] mix (by kernel_rfl) rfl ?_
  refine Pf 0 rfl (AE rfl) (Pf 1 rfl (BT rfl) (Pf 2 rfl (Ah EI rfl) (Pf 3 rfl (AZ rfl BW .m0 AL.l0 rfl) (Pf 4 rfl (AE rfl) (Pf 5 rfl (BT rfl) (Pf 6 rfl (Ah IE rfl) (Pf 7 rfl (AG rfl A3 .m0 ((AL.l1.comp (AU.arr (n := 4) A2.fl hk.1 hk.2)).comp A2.l1) rfl rfl) ?_)))))))
  refine Pf 8 rfl (BC Rl LJ rfl (.cons Order.l0 rfl rfl rfl .nil)) ?_
  refine J0 9 14 rfl rfl (by kernel_rfl) ?_ ?_
  ·
   refine BF rfl YU (.c rfl (.c rfl (.c rfl .n))) .n (GH V.w (V.Aw.at k).Az AI.EA hF.Fl.H4 (Nat.zero_le _) (Nat.zero_le _)) (fun w hS => ⟨gl1.pull gm1 hS .n, gl2.pull gm2 hS .n, gl3.pull gm3 hS .n⟩) (fun v1 B hv => ?_)
   obtain ⟨y2, rfl, y3, rfl⟩ := hv
   refine Bp rfl ⟨?_, ?_⟩
   · exact (Pk (Pk (Pk (Pk (Pk (Pk (Pk (Pk (Pk Aq)))))))))
   refine Pf 10 rfl (AE rfl) (Pf 11 rfl (AM rfl rfl) (Pf 12 rfl (AM rfl rfl) (Pf 13 rfl (AM rfl rfl) ?_)))
   refine An 14 rfl (by kernel_rfl) ?_
   refine BH rfl M9 rfl (fun b1 => ?_)
   refine Bp rfl ⟨?_, ?_⟩
   · exact (Po rfl (AM rfl rfl) rfl rfl (Po rfl (AM rfl rfl) rfl rfl (Po rfl (AM rfl rfl) rfl rfl (Po rfl (AE rfl) rfl rfl (Po rfl (BC Rl LJ rfl (.cons Order.l0 rfl rfl rfl .nil)) rfl rfl (Po rfl (AG rfl A3 .m2 ((AL.l1.comp (AU.arr (n := 4) A2.fl hk.1 hk.2)).comp A2.l1) rfl rfl) rfl rfl (Po rfl (Ah IE rfl) rfl rfl (Po rfl (BT rfl) rfl rfl (Po rfl (AE rfl) rfl rfl (Po rfl (AZ rfl BW .m2 AL.l0 rfl) rfl rfl (Po rfl (Ah EI rfl) rfl rfl (Po rfl (BT rfl) rfl rfl (Po rfl (AE rfl) rfl rfl Aq)))))))))))))
   refine An 15 rfl (by kernel_rfl) ?_
   refine AT (AK (AU.id AH.fl.len AH.fl.one) rfl rfl rfl D6 rfl .h) ?_
   refine BN rfl ⟨?_, ?_⟩
   · exact (Po rfl (AM rfl rfl) rfl rfl (Po rfl (AM rfl rfl) rfl rfl (Pk (Pk (Pk (Pk (Pk (Pk (Pk (Pk (Pk (Pk (Pk Aq)))))))))))))
   refine Pf 16 rfl (A0 rfl) (Pf 17 rfl (A0 rfl) ?_)
   refine A4 (by kernel_rfl) ?_
   refine AB (.t4 0 1 4 5) ?_
   refine AA (Gs (Gm rfl (Gt (AZ rfl BW .m0 (AU.id AH.fl.len AH.fl.one) rfl) (Gt (BT rfl) (Gt (Ah EI rfl) ?_)))))
   refine AT (AK AL.l0 rfl rfl rfl D6 rfl (.t (.t .h))) ?_
   refine Gn (.t3 0 1 5) (Ao ?_)
   refine EY (.c (.t (.t .h)) (.c (.t (.t .h)) .n)) ?_
   refine FR (k := k) hk.1 hk.2 (fun sv sl hsv hlv hln => ?_)
   refine AJ (Gm rfl (Gt (BC Vb VH rfl .nil) (Gt (BT rfl) ?_)))
   refine AT (AK (AU.BJ { V with w := (AF.D8 V.w (V.Aw.at k).Az AI.EA).1 } hk.1 hk.2) rfl rfl rfl TA rfl (.t (.t (.t .h)))) ?_
   refine Gn (.t3 0 1 5) ?_
   refine E7 A7 9 1 ?_
   refine E7 A7 9 1 ?_
   refine E7 A7 9 1 ?_
   refine EY (.c (.t (.t .h)) (.c (.t .h) (.c .h (.c (.t (.t (.t .h))) (.c (.t (.t (.t .h))) .n))))) ?_
   refine HC hk.1 hk.2 (by rfl) (by rfl) (by rfl) ?_
   refine AJ (Gm rfl (Gm rfl ?_))
   refine BF rfl U5 (.c rfl (.c rfl .n)) (.c .h (.c .h (.c (.t (.t (.t (.t (.t .h))))) (.c (.t (.t (.t (.t .h)))) .n)))) (El _ (AL.BJ { V with w := (AF.D8 V.w (V.Aw.at k).Az AI.EA).1 } k default) (ls.put k ⟨[], [], []⟩) ev _ (AF.D8 V.w (V.Aw.at k).Az AI.EA).2.1 n (by assumption) (Gj (((hF.land hds.1).free hk.1 hk.2) |> fun h => by rw [← PA, ← IK hk.1 hk.2] at h; exact h)) (by omega) (Nat.le_trans hF.last (by omega)) (fun e he c _ => hds.2 e he)) (fun w hS => ⟨gl0.pull gm0 hS (.c .h (.c .h (.c (.t (.t (.t (.t (.t .h))))) (.c (.t (.t (.t (.t .h)))) .n)))), gl1.pull gm1 hS (.c .h (.c .h (.c (.t (.t (.t (.t (.t .h))))) (.c (.t (.t (.t (.t .h)))) .n))))⟩) (fun v8 B hv => ?_)
   obtain ⟨y9, y10, y11, rfl, y12, rfl⟩ := hv
   refine Gn (.t1 1) ?_
   refine FR (k := k) hk.1 hk.2 (fun sv sl hsv hlv hln => ?_)
   refine AJ (Gm rfl (Gt (BC Vb VH rfl .nil) (Gt (BT rfl) ?_)))
   refine AT (AK (AU.BJ y9 hk.1 hk.2) rfl rfl rfl TA rfl (.t (.t (.t .h)))) ?_
   refine AQ ?_
   refine Bk rfl .n ?_
   intro w1 hS
   have hS := hS.Ck 9 1
   have hS := hS.Ck 9 1
   have hS := hS.Ck 9 1
   have hS := (hS.perm (Ax.perm (.c (.t (.t .h)) (.c (.t .h) (.c .h (.c (.t (.t (.t .h))) (.c (.t (.t (.t .h))) (.c (.t (.t (.t .h))) .n)))))))).A1
   have hS := St.close' (s := default) (qs := []) (ws := []) (ts := []) hk.1 hk.2 rfl rfl rfl hS
   refine ⟨_, ⟨_, _, _, rfl, ?ga1, rfl⟩, hS⟩
   case ga1 => exact RL hk.1 hk.2 c1 y12
  ·
   refine BH rfl M9 rfl (fun b2 => ?_)
   refine Bp rfl ⟨?_, ?_⟩
   · exact (Po rfl (BC Rl LJ rfl (.cons Order.l0 rfl rfl rfl .nil)) rfl rfl (Po rfl (AG rfl A3 .m1 ((AL.l1.comp (AU.arr (n := 4) A2.fl hk.1 hk.2)).comp A2.l1) rfl rfl) rfl rfl (Po rfl (Ah IE rfl) rfl rfl (Po rfl (BT rfl) rfl rfl (Po rfl (AE rfl) rfl rfl (Po rfl (AZ rfl BW .m1 AL.l0 rfl) rfl rfl (Po rfl (Ah EI rfl) rfl rfl (Po rfl (BT rfl) rfl rfl (Po rfl (AE rfl) rfl rfl Aq)))))))))
   refine An 9 rfl (by kernel_rfl) ?_
   refine BF rfl YU (.c rfl (.c rfl (.c rfl .n))) .n (GH V.w (V.Aw.at k).Az AI.EA hF.Fl.H4 (Nat.zero_le _) (Nat.zero_le _)) (fun w hS => ⟨gl1.pull gm1 hS .n, gl2.pull gm2 hS .n, gl3.pull gm3 hS .n⟩) (fun v16 B hv => ?_)
   obtain ⟨y17, rfl, y18, rfl⟩ := hv
   refine Bp rfl ⟨?_, ?_⟩
   · exact (Pk (Pk (Pk (Pk (Pk (Pk (Pk (Pk (Pk Aq)))))))))
   refine Pf 10 rfl (AE rfl) (Pf 11 rfl (AM rfl rfl) (Pf 12 rfl (AM rfl rfl) (Pf 13 rfl (AM rfl rfl) ?_)))
   refine An 15 rfl (by kernel_rfl) ?_
   refine AT (AK (AU.id AH.fl.len AH.fl.one) rfl rfl rfl D6 rfl (.t .h)) ?_
   refine BN rfl ⟨?_, ?_⟩
   · exact (Po rfl (AM rfl rfl) rfl rfl (Po rfl (AM rfl rfl) rfl rfl (Pk (Pk (Pk (Pk (Pk (Pk (Pk (Pk (Pk (Pk (Pk Aq)))))))))))))
   refine Pf 16 rfl (A0 rfl) (Pf 17 rfl (A0 rfl) ?_)
   refine A4 (by kernel_rfl) ?_
   refine AB (.t4 0 1 4 5) ?_
   refine AA (Gs (Gm rfl (Gt (AZ rfl BW .m1 (AU.id AH.fl.len AH.fl.one) rfl) (Gt (BT rfl) (Gt (Ah EI rfl) ?_)))))
   refine AT (AK AL.l0 rfl rfl rfl D6 rfl (.t (.t .h))) ?_
   refine Gn (.t3 0 1 5) (Ao ?_)
   refine EY (.c (.t (.t .h)) (.c (.t (.t .h)) .n)) ?_
   refine FR (k := k) hk.1 hk.2 (fun sv sl hsv hlv hln => ?_)
   refine AJ (Gm rfl (Gt (BC Vb VH rfl .nil) (Gt (BT rfl) ?_)))
   refine AT (AK (AU.BJ { V with w := (AF.D8 V.w (V.Aw.at k).Az AI.EA).1 } hk.1 hk.2) rfl rfl rfl TA rfl (.t (.t (.t .h)))) ?_
   refine Gn (.t3 0 1 5) ?_
   refine E7 A7 9 1 ?_
   refine E7 A7 9 1 ?_
   refine E7 A7 9 1 ?_
   refine EY (.c (.t (.t .h)) (.c (.t .h) (.c .h (.c (.t (.t (.t .h))) (.c (.t (.t (.t .h))) .n))))) ?_
   refine HC hk.1 hk.2 (by rfl) (by rfl) (by rfl) ?_
   refine AJ (Gm rfl (Gm rfl ?_))
   refine BF rfl U5 (.c rfl (.c rfl .n)) (.c .h (.c .h (.c (.t (.t (.t (.t (.t .h))))) (.c (.t (.t (.t .h))) .n)))) (El _ (AL.BJ { V with w := (AF.D8 V.w (V.Aw.at k).Az AI.EA).1 } k default) (ls.put k ⟨[], [], []⟩) ev _ (AF.D8 V.w (V.Aw.at k).Az AI.EA).2.1 n (by assumption) (Gj (((hF.land hds.1).free hk.1 hk.2) |> fun h => by rw [← PA, ← IK hk.1 hk.2] at h; exact h)) (by omega) (Nat.le_trans hF.last (by omega)) (fun e he c _ => hds.2 e he)) (fun w hS => ⟨gl0.pull gm0 hS (.c .h (.c .h (.c (.t (.t (.t (.t (.t .h))))) (.c (.t (.t (.t .h))) .n)))), gl1.pull gm1 hS (.c .h (.c .h (.c (.t (.t (.t (.t (.t .h))))) (.c (.t (.t (.t .h))) .n))))⟩) (fun v23 B hv => ?_)
   obtain ⟨y24, y25, y26, rfl, y27, rfl⟩ := hv
   refine Gn (.t1 1) ?_
   refine FR (k := k) hk.1 hk.2 (fun sv sl hsv hlv hln => ?_)
   refine AJ (Gm rfl (Gt (BC Vb VH rfl .nil) (Gt (BT rfl) ?_)))
   refine AT (AK (AU.BJ y24 hk.1 hk.2) rfl rfl rfl TA rfl (.t (.t (.t .h)))) ?_
   refine AQ ?_
   refine Bk rfl .n ?_
   intro w1 hS
   have hS := hS.Ck 9 1
   have hS := hS.Ck 9 1
   have hS := hS.Ck 9 1
   have hS := (hS.perm (Ax.perm (.c (.t (.t .h)) (.c (.t .h) (.c .h (.c (.t (.t (.t .h))) (.c (.t (.t (.t .h))) (.c (.t (.t (.t .h))) .n)))))))).A1
   have hS := St.close' (s := default) (qs := []) (ws := []) (ts := []) hk.1 hk.2 rfl rfl rfl hS
   refine ⟨_, ⟨_, _, _, rfl, ?ga2, rfl⟩, hS⟩
   case ga2 => exact RL hk.1 hk.2 c1 y27
 refine Aa ?_
 refine AB (.t1 1) ?_
 refine AA ?_
 refine FR (k := k) hk.1 hk.2 (fun sv sl hsv hlv hln => ?_)
 refine AJ (Gm rfl (Gt (BC Vb VH rfl .nil) (Gt (BT rfl) ?_)))
 refine AT (AK (AU.BJ V hk.1 hk.2) rfl rfl rfl TA rfl (.t (.t (.t .h)))) ?_
 refine AQ ?_
 refine Bk rfl .n ?_
 intro w1 hS
 have hS := hS.Ck 9 1
 have hS := hS.Ck 9 1
 have hS := hS.Ck 9 1
 have hS := (hS.perm (Ax.perm (.c (.t (.t .h)) (.c (.t .h) (.c .h (.c (.t (.t (.t .h))) (.c (.t (.t (.t .h))) (.c (.t (.t (.t .h))) .n)))))))).A1
 have hS := St.close' (s := default) (qs := []) (ws := []) (ts := []) hk.1 hk.2 rfl rfl rfl hS
 refine ⟨_, ⟨_, _, _, rfl, ?ga3, rfl⟩, hS⟩
 case ga3 => exact UE hk.1 hk.2 c1
theorem PO (b : Nat) (V : AL) (ls : Vector BD 4) (ev : List Ing.Event) (k : Int) (u : Ap) (n m : Nat) (hk : 0 ≤ k ∧ k < 4) (hF : AI.Fit (A5 V ls ev) n m) (hn : n ≤ 900000) (hm : m ≤ 900000) (hu : u.length ≤ 1000) : FL Tryz.prog 95 #[.pointer (some ⟨b, 0, none⟩), .pointer (some ⟨b, 165 + k.toNat * 22, none⟩), BS u] [Ac.box b 101 (AL.enc V), Ac.Dz (CH 9 (AL.Aw V) ls), Ac.own (AL.last V) 56 16 ((ev).flatMap Ing.Event.enc)] (fun w => (GV 2 Fu w ∧ 2 ∉ Cd [Ac.box b 101 (AL.enc V), Ac.Dz (CH 9 (AL.Aw V) ls), Ac.own (AL.last V) 56 16 ((ev).flatMap Ing.Event.enc)]) ∧ (GV 0 AH.DG w ∧ 0 ∉ Cd [Ac.box b 101 (AL.enc V), Ac.Dz (CH 9 (AL.Aw V) ls), Ac.own (AL.last V) 56 16 ((ev).flatMap Ing.Event.enc)]) ∧ (Gl 7 w ∧ 7 ∉ Cd [Ac.box b 101 (AL.enc V), Ac.Dz (CH 9 (AL.Aw V) ls), Ac.own (AL.last V) 56 16 ((ev).flatMap Ing.Event.enc)]) ∧ (Gl 8 w ∧ 8 ∉ Cd [Ac.box b 101 (AL.enc V), Ac.Dz (CH 9 (AL.Aw V) ls), Ac.own (AL.last V) 56 16 ((ev).flatMap Ing.Event.enc)])) (fun v B => ∃ V' ls' ev', v = .tuple #[] ∧ A5 V' ls' ev' = AI.order (A5 V ls ev) k u ∧ B = [Ac.box b 101 (AL.enc V'), Ac.Dz (CH 9 (AL.Aw V') ls'), Ac.own (AL.last V') 56 16 ((ev').flatMap Ing.Event.enc)]) := by
 intro w hS0 hH
 obtain ⟨⟨gl0, gm0⟩, ⟨gl1, gm1⟩, ⟨gl2, gm2⟩, ⟨gl3, gm3⟩⟩ := hH
 have hps := Words.Jp u
 have hdl := AF.NH V.w (V.Aw.at k).Az (Words.parse u).1
 have hds := AF.KK (b := (V.Aw.at k).Az) (o := (Words.parse u).1) hF.Fl (by have := hps.2.2; omega)
 have htn := Gj hF
 refine Al _ _ Tryz.func95 rfl rfl rfl (hS0) ?_
 refine Gs (Gm rfl ?_)
 refine BA rfl ab (.c rfl .n) (fun w hS => Ma u (by omega) w (gl1.stM gm1 hS) (gl2.stM gm2 hS) (gl3.stM gm3 hS)) ?_
 refine Gm rfl (Gt (AM rfl rfl) (Gt (AM rfl rfl) ?_))
 refine BH rfl LJ rfl (fun b1 => ?_)
 refine AT (AK (AU.id Order.fl.len Order.fl.one) rfl rfl rfl D1 rfl .h) ?_
 refine Ga rfl (Gn (.t4 0 1 6 7) (CG (Gm rfl (Gt (CX rfl rfl) (Gn (.t4 0 1 6 17) ?_)))))
 refine Gc (fun c1 => ?_) (fun c1 => ?_)
 ·
  have c1p := kz c1
  refine Gs (Gm rfl (Gm rfl ?_))
  refine Ag rfl Tj (.c rfl (.c rfl (.c rfl .n))) (.c (.t .h) (.c (.t .h) (.c (.t .h) .n))) (EL _ V ls ev k _ hk (Nat.le_trans (htn k hk.1 hk.2) (by omega))) (fun v1 B hv => ?_)
  obtain ⟨y2, y3, y4, rfl, y5, rfl⟩ := hv
  refine Gn (.nil _) (Ab (AD ?_))
  refine AY rfl .n ?_
  intro w1 hS
  have hS := (hS.perm (Ax.perm (.c .h (.c .h (.c .h .n))))).A1
  refine ⟨_, ⟨y2, y3, y4, rfl, ?ga1, rfl⟩, hS⟩
  case ga1 => exact y5.trans (if_pos c1).symm
 have c1p := kz c1
 refine Aa ?_
 refine AB (.t3 0 1 6) ?_
 refine AA (CG (Gt (Ah DD rfl) (Gt (AG rfl A3 .m0 Order.l0 rfl rfl) (Gt (Ae rfl rfl) (Gn (.t4 0 1 6 23) ?_)))))
 refine Gc (fun c2 => ?_) (fun c2 => ?_)
 ·
  refine Gs (Gm rfl (Gm rfl ?_))
  refine BF rfl Zz (.c rfl (.c rfl .n)) (.c (.t .h) (.c (.t .h) (.c (.t .h) .n))) (H7 _ V ls ev k n m hk hF hn hm) (fun w hS => ⟨gl0.pull gm0 hS (.c (.t .h) (.c (.t .h) (.c (.t .h) .n))), gl1.pull gm1 hS (.c (.t .h) (.c (.t .h) (.c (.t .h) .n))), gl2.pull gm2 hS (.c (.t .h) (.c (.t .h) (.c (.t .h) .n))), gl3.pull gm3 hS (.c (.t .h) (.c (.t .h) (.c (.t .h) .n)))⟩) (fun v6 B hv => ?_)
  obtain ⟨y7, y8, y9, rfl, y10, rfl⟩ := hv
  refine Gn (.nil _) (Ab (AD ?_))
  refine AY rfl .n ?_
  intro w1 hS
  have hS := (hS.perm (Ax.perm (.c .h (.c .h (.c .h .n))))).A1
  refine ⟨_, ⟨y7, y8, y9, rfl, ?ga2, rfl⟩, hS⟩
  case ga2 => exact y10.trans ((AW c1).trans (BB c2)).symm
 have c2p := kz c2
 refine Aa ?_
 refine AB (.t3 0 1 6) ?_
 refine AA (Ao ?_)
 refine BE (N := 18) [0, 1, 3, 7, 0, 16, 48, 112, 0, 511, 1023, 2047, 2047, 2047, 0, 20479, 57343, 131071] mix (by kernel_rfl) rfl ?_
 refine Pf 0 rfl (AE rfl) (Pf 1 rfl (BT rfl) (Pf 2 rfl (Ah EI rfl) (Pf 3 rfl (AZ rfl BW .m1 AL.l0 rfl) (Pf 4 rfl (AE rfl) (Pf 5 rfl (BT rfl) (Pf 6 rfl (Ah IE rfl) (Pf 7 rfl (AG rfl A3 .m1 ((AL.l1.comp (AU.arr (n := 4) A2.fl hk.1 hk.2)).comp A2.l1) rfl rfl) ?_)))))))
 refine Pf 8 rfl (AZ rfl B6 .m0 (AU.id Order.fl.len Order.fl.one) rfl) ?_
 refine J0 9 14 rfl rfl (by kernel_rfl) ?_ ?_
 ·
  refine BF rfl YU (.c rfl (.c rfl (.c rfl .n))) .n (GH V.w (V.Aw.at k).Az (Words.parse u).1 hF.Fl.H4 (by have := hps.2.1; omega) (by have := hps.1; omega)) (fun w hS => ⟨gl1.pull gm1 hS .n, gl2.pull gm2 hS .n, gl3.pull gm3 hS .n⟩) (fun v11 B hv => ?_)
  obtain ⟨y12, rfl, y13, rfl⟩ := hv
  refine Bp rfl ⟨?_, ?_⟩
  · exact (Pk (Pk (Pk (Pk (Pk (Pk (Pk (Pk (Pk Aq)))))))))
  refine Pf 10 rfl (AE rfl) (Pf 11 rfl (AM rfl rfl) (Pf 12 rfl (AM rfl rfl) (Pf 13 rfl (AM rfl rfl) ?_)))
  refine An 14 rfl (by kernel_rfl) ?_
  refine BH rfl M9 rfl (fun b2 => ?_)
  refine Bp rfl ⟨?_, ?_⟩
  · exact (Po rfl (AM rfl rfl) rfl rfl (Po rfl (AM rfl rfl) rfl rfl (Po rfl (AM rfl rfl) rfl rfl (Po rfl (AE rfl) rfl rfl (Po rfl (AZ rfl B6 .m2 (AU.id Order.fl.len Order.fl.one) rfl) rfl rfl (Po rfl (AG rfl A3 .m3 ((AL.l1.comp (AU.arr (n := 4) A2.fl hk.1 hk.2)).comp A2.l1) rfl rfl) rfl rfl (Po rfl (Ah IE rfl) rfl rfl (Po rfl (BT rfl) rfl rfl (Po rfl (AE rfl) rfl rfl (Po rfl (AZ rfl BW .m3 AL.l0 rfl) rfl rfl (Po rfl (Ah EI rfl) rfl rfl (Po rfl (BT rfl) rfl rfl (Po rfl (AE rfl) rfl rfl Aq)))))))))))))
  refine An 15 rfl (by kernel_rfl) ?_
  refine AT (AK (AU.id AH.fl.len AH.fl.one) rfl rfl rfl D6 rfl .h) ?_
  refine BN rfl ⟨?_, ?_⟩
  · exact (Po rfl (AM rfl rfl) rfl rfl (Po rfl (AM rfl rfl) rfl rfl (Pk (Pk (Pk (Pk (Pk (Pk (Pk (Pk (Pk (Pk (Pk Aq)))))))))))))
  refine Pf 16 rfl (A0 rfl) (Pf 17 rfl (A0 rfl) ?_)
  refine A4 (by kernel_rfl) ?_
  refine AB (.t3 0 8 9) ?_
  refine AA (Gs (Gm rfl (Gt (AZ rfl BW .m0 (AU.id AH.fl.len AH.fl.one) rfl) (Gt (BT rfl) (Gt (Ah EI rfl) ?_)))))
  refine AT (AK AL.l0 rfl rfl rfl D6 rfl (.t (.t (.t .h)))) ?_
  refine Gn (.t2 0 9) (AJ (Gm rfl (Gm rfl ?_)))
  refine BF rfl U5 (.c rfl (.c rfl .n)) (.c (.t (.t (.t .h))) (.c (.t (.t (.t .h))) (.c (.t (.t (.t .h))) (.c (.t .h) .n)))) (El _ { V with w := (AF.D8 V.w (V.Aw.at k).Az (Words.parse u).1).1 } ls ev _ (AF.D8 V.w (V.Aw.at k).Az (Words.parse u).1).2.1 n (by assumption) htn (by omega) (Nat.le_trans hF.last (by omega)) (fun e he c _ => hds.2 e he)) (fun w hS => ⟨gl0.pull gm0 hS (.c (.t (.t (.t .h))) (.c (.t (.t (.t .h))) (.c (.t (.t (.t .h))) (.c (.t .h) .n)))), gl1.pull gm1 hS (.c (.t (.t (.t .h))) (.c (.t (.t (.t .h))) (.c (.t (.t (.t .h))) (.c (.t .h) .n))))⟩) (fun v15 B hv => ?_)
  obtain ⟨y16, y17, y18, rfl, y19, rfl⟩ := hv
  refine AQ ?_
  refine Bk rfl .n ?_
  intro w1 hS
  have hS := (hS.perm (Ax.perm (.c .h (.c .h (.c .h .n))))).A1
  refine ⟨_, ⟨y16, y17, y18, rfl, ?ga3, rfl⟩, hS⟩
  case ga3 => exact Tw hk.1 hk.2 c1 c2 y19
 ·
  refine BH rfl M9 rfl (fun b3 => ?_)
  refine Bp rfl ⟨?_, ?_⟩
  · exact (Po rfl (AZ rfl B6 .m1 (AU.id Order.fl.len Order.fl.one) rfl) rfl rfl (Po rfl (AG rfl A3 .m2 ((AL.l1.comp (AU.arr (n := 4) A2.fl hk.1 hk.2)).comp A2.l1) rfl rfl) rfl rfl (Po rfl (Ah IE rfl) rfl rfl (Po rfl (BT rfl) rfl rfl (Po rfl (AE rfl) rfl rfl (Po rfl (AZ rfl BW .m2 AL.l0 rfl) rfl rfl (Po rfl (Ah EI rfl) rfl rfl (Po rfl (BT rfl) rfl rfl (Po rfl (AE rfl) rfl rfl Aq)))))))))
  refine An 9 rfl (by kernel_rfl) ?_
  refine BF rfl YU (.c rfl (.c rfl (.c rfl .n))) .n (GH V.w (V.Aw.at k).Az (Words.parse u).1 hF.Fl.H4 (by have := hps.2.1; omega) (by have := hps.1; omega)) (fun w hS => ⟨gl1.pull gm1 hS .n, gl2.pull gm2 hS .n, gl3.pull gm3 hS .n⟩) (fun v20 B hv => ?_)
  obtain ⟨y21, rfl, y22, rfl⟩ := hv
  refine Bp rfl ⟨?_, ?_⟩
  · exact (Pk (Pk (Pk (Pk (Pk (Pk (Pk (Pk (Pk Aq)))))))))
  refine Pf 10 rfl (AE rfl) (Pf 11 rfl (AM rfl rfl) (Pf 12 rfl (AM rfl rfl) (Pf 13 rfl (AM rfl rfl) ?_)))
  refine An 15 rfl (by kernel_rfl) ?_
  refine AT (AK (AU.id AH.fl.len AH.fl.one) rfl rfl rfl D6 rfl (.t .h)) ?_
  refine BN rfl ⟨?_, ?_⟩
  · exact (Po rfl (AM rfl rfl) rfl rfl (Po rfl (AM rfl rfl) rfl rfl (Pk (Pk (Pk (Pk (Pk (Pk (Pk (Pk (Pk (Pk (Pk Aq)))))))))))))
  refine Pf 16 rfl (A0 rfl) (Pf 17 rfl (A0 rfl) ?_)
  refine A4 (by kernel_rfl) ?_
  refine AB (.t3 0 8 9) ?_
  refine AA (Gs (Gm rfl (Gt (AZ rfl BW .m1 (AU.id AH.fl.len AH.fl.one) rfl) (Gt (BT rfl) (Gt (Ah EI rfl) ?_)))))
  refine AT (AK AL.l0 rfl rfl rfl D6 rfl (.t (.t (.t .h)))) ?_
  refine Gn (.t2 0 9) (AJ (Gm rfl (Gm rfl ?_)))
  refine BF rfl U5 (.c rfl (.c rfl .n)) (.c (.t (.t (.t .h))) (.c (.t (.t (.t .h))) (.c (.t (.t (.t .h))) (.c .h .n)))) (El _ { V with w := (AF.D8 V.w (V.Aw.at k).Az (Words.parse u).1).1 } ls ev _ (AF.D8 V.w (V.Aw.at k).Az (Words.parse u).1).2.1 n (by assumption) htn (by omega) (Nat.le_trans hF.last (by omega)) (fun e he c _ => hds.2 e he)) (fun w hS => ⟨gl0.pull gm0 hS (.c (.t (.t (.t .h))) (.c (.t (.t (.t .h))) (.c (.t (.t (.t .h))) (.c .h .n)))), gl1.pull gm1 hS (.c (.t (.t (.t .h))) (.c (.t (.t (.t .h))) (.c (.t (.t (.t .h))) (.c .h .n))))⟩) (fun v24 B hv => ?_)
  obtain ⟨y25, y26, y27, rfl, y28, rfl⟩ := hv
  refine AQ ?_
  refine Bk rfl .n ?_
  intro w1 hS
  have hS := (hS.perm (Ax.perm (.c .h (.c .h (.c .h .n))))).A1
  refine ⟨_, ⟨y25, y26, y27, rfl, ?ga4, rfl⟩, hS⟩
  case ga4 => exact Tw hk.1 hk.2 c1 c2 y28
theorem RB (b : Nat) (V : AL) (ls : Vector BD 4) (ev : List Ing.Event) (k : Int) (n m : Nat) (hk : 0 ≤ k ∧ k < 4) (hF : AI.Fit (A5 V ls ev) n m) (hn : n ≤ 900000) (hm : m ≤ 900000) : FL Tryz.prog 77 #[.pointer (some ⟨b, 0, none⟩), .pointer (some ⟨b, 165 + k.toNat * 22, none⟩)] [Ac.box b 101 (AL.enc V), Ac.Dz (CH 9 (AL.Aw V) ls), Ac.own (AL.last V) 56 16 ((ev).flatMap Ing.Event.enc)] (fun w => (GV 2 Fu w ∧ 2 ∉ Cd [Ac.box b 101 (AL.enc V), Ac.Dz (CH 9 (AL.Aw V) ls), Ac.own (AL.last V) 56 16 ((ev).flatMap Ing.Event.enc)]) ∧ (GV 0 AH.DG w ∧ 0 ∉ Cd [Ac.box b 101 (AL.enc V), Ac.Dz (CH 9 (AL.Aw V) ls), Ac.own (AL.last V) 56 16 ((ev).flatMap Ing.Event.enc)]) ∧ (Gl 7 w ∧ 7 ∉ Cd [Ac.box b 101 (AL.enc V), Ac.Dz (CH 9 (AL.Aw V) ls), Ac.own (AL.last V) 56 16 ((ev).flatMap Ing.Event.enc)]) ∧ (Gl 8 w ∧ 8 ∉ Cd [Ac.box b 101 (AL.enc V), Ac.Dz (CH 9 (AL.Aw V) ls), Ac.own (AL.last V) 56 16 ((ev).flatMap Ing.Event.enc)])) (fun v B => ∃ V' ls' ev', v = .tuple #[] ∧ A5 V' ls' ev' = AI.D9 (A5 V ls ev) k ∧ B = [Ac.box b 101 (AL.enc V'), Ac.Dz (CH 9 (AL.Aw V') ls'), Ac.own (AL.last V') 56 16 ((ev').flatMap Ing.Event.enc)]) := by
 intro w hS0 hH
 obtain ⟨⟨gl0, gm0⟩, ⟨gl1, gm1⟩, ⟨gl2, gm2⟩, ⟨gl3, gm3⟩⟩ := hH
 refine Al _ _ Tryz.func77 rfl rfl rfl (hS0) ?_
 refine CG (Gm rfl (Gt (BT rfl) (Gt (Ah I9 rfl) (Gt (AG rfl A3 .m0 ((AL.l1.comp (AU.arr (n := 4) A2.fl hk.1 hk.2)).comp A2.l0) rfl rfl) (Gt (Ae rfl rfl) (Gn (.t3 0 1 11) ?_))))))
 refine Gc (fun c1 => ?_) (fun c1 => ?_)
 ·
  refine Ab (AD ?_)
  refine AY rfl .n ?_
  intro w1 hS
  have hS := (hS.perm (Ax.perm (.c .h (.c .h (.c .h .n))))).A1
  exact ⟨_, ⟨V, ls, ev, rfl, VM hk.1 hk.2 c1, rfl⟩, hS⟩
 have c1p := kz c1
 refine Aa ?_
 refine AB (.t2 0 1) ?_
 refine AA (Gs (Ga rfl (Gn (.t2 0 1) (Gs (Ga rfl (Gn (.t2 0 1) (Ao ?_)))))))
 refine Ao ?_
 refine FR (k := k) hk.1 hk.2 (fun sv sl hsv hlv hln => ?_)
 refine AJ (Gm rfl (Gm rfl (Gt (BT rfl) (Gt (Ah K3 rfl) (Gt (AZ rfl Ht .m3 ((AU.BJ V hk.1 hk.2).comp A2.l3) rfl) ?_)))))
 refine BF rfl dC (.c rfl .n) .n (OS _ _ (by have h := (Va hF hk.1 hk.2).1; rw [hlv] at h; omega)) (fun w hS => ⟨(Kn.own .m0) w hS, (Vn.own .m0) w hS⟩) (fun v1 B hv => ?_)
 rcases hv with ⟨y2, rfl, rfl⟩ | ⟨y3, y4, y5, y6, rfl, y7, rfl⟩
 ·
  refine Gm rfl (Gt (AM rfl rfl) (Gt (AM rfl rfl) (Gt (AM rfl rfl) (Gt (BT rfl) (Gt (Ah K3 rfl) ?_)))))
  refine AT (AK ((AU.BJ V hk.1 hk.2).comp A2.l3) rfl rfl rfl MI rfl (.t (.t (.t .h)))) ?_
  refine Ga rfl (Ga rfl (Gn (.t4 0 1 4 5) (Gs (Gm rfl (Gt (BV rfl) (Gn (.t4 0 1 4 25) ?_))))))
  refine G0 rfl rfl ?_
  refine Ab (AD ?_)
  refine AY rfl .n ?_
  intro w1 hS
  have hS := (hS.perm (Ax.perm (.c .h (.c .h (.c .h (.c .h (.c .h (.c .h .n)))))))).A1
  have hS := hS.close' hk.1 hk.2 (by rfl) (by rfl) (by rfl)
  refine ⟨_, ⟨V.BJ k sv, ls.put k ⟨sl.queue, sl.wait, sl.told⟩, ev, rfl, ?ga2, rfl⟩, hS⟩
  case ga2 => exact VS hk.1 hk.2 hsv hlv y2 c1
 refine Gm rfl (Gt (AM rfl rfl) (Gt (AM rfl rfl) (Gt (AM rfl rfl) (Gt (BT rfl) (Gt (Ah K3 rfl) ?_)))))
 refine AT (AK ((AU.BJ V hk.1 hk.2).comp A2.l3) rfl rfl rfl MI rfl (.t (.t (.t (.t .h))))) ?_
 refine Ga rfl (Ga rfl (Gn (.t4 0 1 4 5) (Gs (Gm rfl (Gt (BV rfl) (Gn (.t4 0 1 4 25) ?_))))))
 refine EJ rfl rfl ?_
 refine Aa ?_
 refine AB (.t3 0 1 4) ?_
 refine AA (Gs (Gm rfl (Gt (BT rfl) (Gt (Ah Dw rfl) (Gt (Ah Q9 rfl) (Gt (AG rfl Dj .m4 (((AU.BJ V hk.1 hk.2).comp A2.l4).comp Ay.l2) rfl rfl) (Ga rfl ?_)))))))
 refine Gn (.t4 0 1 4 6) (Gs (Gm rfl (Gm rfl (Gt (BT rfl) (Gt (Ah Dw rfl) (Gt (AZ rfl Cy .m4 ((AU.BJ V hk.1 hk.2).comp A2.l4) rfl) ?_))))))
 refine BA rfl cu (.c rfl .n) (fun w hS => M0 _ w) ?_
 refine Gt (BT rfl) (Gt (Ah Dw rfl) ?_)
 refine AT (AK ((AU.BJ V hk.1 hk.2).comp A2.l4) rfl rfl rfl Fv rfl (.t (.t (.t (.t .h))))) ?_
 refine Gn (.t4 0 1 4 6) (Af (Ao ?_))
 refine EY (.c .h (.c (.t .h) (.c (.t .h) (.c (.t .h) (.c (.t .h) .n))))) ?_
 refine HC hk.1 hk.2 (by rfl) (by rfl) (by rfl) ?_
 refine AJ (Gm rfl (Ga rfl (Gn (.t4 0 1 4 43) ?_)))
 refine Gc (fun c2 => ?_) (fun c2 => ?_)
 ·
  refine Aa ?_
  refine AB (.nil _) ?_
  refine AV ?_
  refine Bk rfl .n ?_
  intro w1 hS
  have hS := (hS.perm (Ax.perm (.c .h (.c .h (.c (.t .h) .n))))).A1
  exact ⟨_, ⟨(AL.BJ V k { sv with EN := ⟨sv.EN.now, sv.EN.Cr, sv.EN.ret, y6⟩, out := ⟨sv.out.wait, 0, false, sv.out.ring, sv.out.cut⟩ }), (ls.put k ⟨y4, sl.wait, sl.told⟩), ev, rfl, (Dd (ev := ev) hk.1 hk.2 hsv hlv y5 c1 y6).1.trans ((Dd (ev := ev) hk.1 hk.2 hsv hlv y5 c1 y6).2.2.trans (if_pos c2)).symm, rfl⟩, hS⟩
 have c2p := kz c2
 refine Gs (Gm rfl (Gt (BT rfl) (Gt (Ah I9 rfl) (Gt (AG rfl A3 .m0 ((AL.l1.comp (AU.arr (n := 4) A2.fl hk.1 hk.2)).comp A2.l0) rfl rfl) (Gt (Ae rfl rfl) (Ga rfl (Gn (.t4 0 1 4 45) ?_)))))))
 refine Gc (fun c3 => ?_) (fun c3 => ?_)
 ·
  have c3p := kz c3
  refine AJ (Gm rfl (Gm rfl (Gm rfl ?_)))
  refine BA rfl cC (.c rfl (.c rfl .n)) (fun w hS => Hv y3 (by have h : y3.length ≤ 1000 := (by have h := (hF.queue k hk.1 hk.2).2 y3 (by rw [(Dd (ev := ev) hk.1 hk.2 hsv hlv y5 c1 y6).2.1]; exact List.mem_cons_self ..); omega); omega) w) ?_
  refine BF rfl dJ (.c rfl (.c rfl (.c rfl .n))) (.c .h (.c .h (.c (.t .h) .n))) (Qh _ (AL.BJ V k { sv with EN := ⟨sv.EN.now, sv.EN.Cr, sv.EN.ret, y6⟩, out := ⟨sv.out.wait, 0, false, sv.out.ring, sv.out.cut⟩ }) (ls.put k ⟨y4, sl.wait, sl.told⟩) ev k _ n m hk (by rw [(Dd (ev := ev) hk.1 hk.2 hsv hlv y5 c1 y6).1]; exact hF.FN hk.1 hk.2 (Dd (ev := ev) hk.1 hk.2 hsv hlv y5 c1 y6).2.1) hn hm (by have h : y3.length ≤ 1000 := (by have h := (hF.queue k hk.1 hk.2).2 y3 (by rw [(Dd (ev := ev) hk.1 hk.2 hsv hlv y5 c1 y6).2.1]; exact List.mem_cons_self ..); omega); have h1 := Words.Lk 32 (Words.RM 32 y3); have h2 := Words.RD 32 y3; omega)) (fun w hS => ⟨gl0.pull gm0 hS (.c .h (.c .h (.c (.t .h) .n))), gl1.pull gm1 hS (.c .h (.c .h (.c (.t .h) .n)))⟩) (fun v9 B hv => ?_)
  obtain ⟨y10, y11, y12, rfl, y13, rfl⟩ := hv
  refine AQ (AB (.nil _) ?_)
  refine AV ?_
  refine Bk rfl .n ?_
  intro w1 hS
  have hS := (hS.perm (Ax.perm (.c .h (.c .h (.c .h .n))))).A1
  have c9 : decide (sv.state = 1) = true := by
    have h := c3
    rw [show (AL.Aw (AL.BJ V k { sv with EN := ⟨sv.EN.now, sv.EN.Cr, sv.EN.ret, y6⟩, out := ⟨sv.out.wait, 0, false, sv.out.ring, sv.out.cut⟩ })).at k = _ from Vector.CD hk.1 hk.2] at h
    exact h
  refine ⟨_, ⟨y10, y11, y12, rfl, ?ga4, rfl⟩, hS⟩
  case ga4 => exact y13.trans ((congrArg (fun X => AI.named X k _) (Dd (ev := ev) hk.1 hk.2 hsv hlv y5 c1 y6).1).trans ((Dd (ev := ev) hk.1 hk.2 hsv hlv y5 c1 y6).2.2.trans ((AW c2).trans (BB c9))).symm)
 have c3p := kz c3
 refine AJ (Gm rfl (Gm rfl (Gm rfl ?_)))
 refine BF rfl dZ (.c rfl (.c rfl (.c rfl .n))) (.c .h (.c .h (.c (.t .h) .n))) (PO _ (AL.BJ V k { sv with EN := ⟨sv.EN.now, sv.EN.Cr, sv.EN.ret, y6⟩, out := ⟨sv.out.wait, 0, false, sv.out.ring, sv.out.cut⟩ }) (ls.put k ⟨y4, sl.wait, sl.told⟩) ev k _ n m hk (by rw [(Dd (ev := ev) hk.1 hk.2 hsv hlv y5 c1 y6).1]; exact hF.FN hk.1 hk.2 (Dd (ev := ev) hk.1 hk.2 hsv hlv y5 c1 y6).2.1) hn hm (by have h := (hF.queue k hk.1 hk.2).2 y3 (by rw [(Dd (ev := ev) hk.1 hk.2 hsv hlv y5 c1 y6).2.1]; exact List.mem_cons_self ..); omega)) (fun w hS => ⟨gl0.pull gm0 hS (.c .h (.c .h (.c (.t .h) .n))), gl1.pull gm1 hS (.c .h (.c .h (.c (.t .h) .n))), gl2.pull gm2 hS (.c .h (.c .h (.c (.t .h) .n))), gl3.pull gm3 hS (.c .h (.c .h (.c (.t .h) .n)))⟩) (fun v14 B hv => ?_)
 obtain ⟨y15, y16, y17, rfl, y18, rfl⟩ := hv
 refine AQ (AB (.nil _) ?_)
 refine AV ?_
 refine Bk rfl .n ?_
 intro w1 hS
 have hS := (hS.perm (Ax.perm (.c .h (.c .h (.c .h .n))))).A1
 have c9 : decide (sv.state = 1) = false := by
   have h := c3
   rw [show (AL.Aw (AL.BJ V k { sv with EN := ⟨sv.EN.now, sv.EN.Cr, sv.EN.ret, y6⟩, out := ⟨sv.out.wait, 0, false, sv.out.ring, sv.out.cut⟩ })).at k = _ from Vector.CD hk.1 hk.2] at h
   exact h
 refine ⟨_, ⟨y15, y16, y17, rfl, ?ga5, rfl⟩, hS⟩
 case ga5 => exact y18.trans ((congrArg (fun X => AI.order X k _) (Dd (ev := ev) hk.1 hk.2 hsv hlv y5 c1 y6).1).trans ((Dd (ev := ev) hk.1 hk.2 hsv hlv y5 c1 y6).2.2.trans ((AW c2).trans (AW c9))).symm)
theorem OE (X : AH) (b : Int) (hF : (AF.FT X b).Fit) : FL Tryz.prog 97 #[.agg X.enc.toArray, .int .i64 b] [] (fun w => (GV 0 AH.DG w ∧ 0 ∉ Cd [])) (fun v B => ∃ h : Hd, v = .tuple #[.agg ((AF.Hn X b).w.enc).toArray, h.val] ∧ h.len = (AF.Hn X b).out.length ∧ B = [Ac.own h 56 16 ((AF.Hn X b).out.flatMap Ing.Event.enc)]) := by
 intro w hS0 hH
 obtain ⟨gl0, gm0⟩ := hH
 have hb : 0 ≤ b ∧ b < 6 := hF.b
 refine Al _ _ Tryz.func97 rfl rfl rfl (hS0) ?_
 refine Gs ?_
 refine B4 rfl rfl rfl (fun b1 => ?_)
 refine BH rfl M9 rfl (fun b2 => ?_)
 refine Ga rfl (Gn (.t3 1 2 4) (Gs (Gt (AZ rfl BW .m1 (AU.id AH.fl.len AH.fl.one) rfl) (Gm rfl (Gt (BC Ul Uf rfl (.cons Ad.l0 rfl rfl rfl (.cons Ad.l1 rfl rfl rfl .nil))) ?_)))))
 refine B4 rfl rfl rfl (fun b3 => ?_)
 refine Ga rfl (Gn (.t3 1 4 6) (Gs (Gm rfl (Gm rfl (Gt (BT rfl) (Gt (Ah A9 rfl) (Gt (Ah Bn rfl) ?_)))))))
 refine Gt (AR C6 rfl rfl (by first | omega | exact hb.1 | exact hb.2 | (dsimp only; omega)) (by first | omega | exact hb.1 | exact hb.2 | (dsimp only; omega))) ?_
 refine Gt (Ah JV rfl) ?_
 refine AT (AK (((Ad.l0.comp AH.l2).comp (AU.ar (n := 6) Aj.fl (by first | omega | exact hb | (dsimp only; omega)))).comp Aj.l4) rfl rfl rfl C5 rfl .h) ?_
 refine Gn (.t3 1 4 6) (Gs (Gm rfl ?_))
 refine Dh Ing.Event.enc 56 16 ?_
 refine Ag rfl UD (.c rfl (.c rfl .n)) (.c (.t .h) (.c .h .n)) (GO _ (AF.FT X b) _ 15 rfl hb (Nat.zero_le _)) (fun v2 B hv => ?_)
 obtain ⟨y3, rfl, y4, rfl⟩ := hv
 refine Gn (.t3 1 4 6) (Gs (Gm rfl ?_))
 refine Ag rfl ZQ (.c rfl .n) (.c .h .n) (Li _ ((AF.FT X b).kind 15) _ (hF.Ed rfl rfl)) (fun v5 B hv => ?_)
 obtain ⟨y6, y7, rfl, rfl⟩ := hv
 refine Gn (.t3 1 4 6) (CG (Gm rfl (Gt (A8 rfl rfl) (Gn (.t4 1 4 6 24) ?_))))
 refine Gc (fun c1 => ?_) (fun c1 => ?_)
 ·
  have c1p := kz c1
  refine Gs (Gm rfl (Gm rfl (Gt (BC Wt Lw rfl .nil) (Gt (BT rfl) (Gt (Ah A9 rfl) (Gt (Ah Bn rfl) ?_))))))
  refine Gt (AR C6 rfl rfl (by first | omega | exact hb.1 | exact hb.2 | (dsimp only; omega)) (by first | omega | exact hb.1 | exact hb.2 | (dsimp only; omega))) ?_
  refine AT (AK ((Ad.l0.comp AH.l2).comp (AU.ar (n := 6) Aj.fl (by first | omega | exact hb | (dsimp only; omega)))) rfl rfl rfl KQ rfl .h) ?_
  refine Gn (.t2 4 6) (Ao ?_)
  refine BE (N := 10) [0, 1, 3, 7, 0, 16, 48, 112, 15, 511] mix (by kernel_rfl) rfl ?_
  refine Pf 0 rfl (AE rfl) (Pf 1 rfl (BT rfl) (Pf 2 rfl (Ah A9 rfl) (Pf 3 rfl (AZ rfl BW .m0 Ad.l0 rfl) (Pf 4 rfl (AE rfl) (Pf 5 rfl (BT rfl) (Pf 6 rfl (Ah CJ rfl) (Pf 7 rfl (AG rfl Di .m0 Ad.l2 rfl rfl) ?_)))))))
  refine An 8 rfl (by kernel_rfl) ?_
  refine AT (AK (AU.id AH.fl.len AH.fl.one) rfl rfl rfl D6 rfl (.t (.t .h))) ?_
  refine BN rfl ⟨?_, ?_⟩
  · exact (Po rfl (AG rfl Di .m0 Ad.l2 rfl rfl) rfl rfl (Po rfl (Ah CJ rfl) rfl rfl (Po rfl (BT rfl) rfl rfl (Po rfl (AE rfl) rfl rfl (Pk (Pk (Pk (Pk Aq))))))))
  refine Pf 9 rfl (A0 rfl) ?_
  refine A4 (by kernel_rfl) ?_
  refine AB (.t2 4 5) ?_
  refine AA (Ab (AD ?_))
  refine AY rfl (.cell rfl .m2 (.inl ⟨(by rw [AH.fl.len]; exact BW), rfl⟩) (.tmp rfl .n)) ?_
  intro w1 hS
  have hS := (hS.perm (Ax.perm (.c (.t .h) .n))).A1
  have hq : AF.Hn X b = _ := BB c1
  rw [AF.Ud y7] at hq
  refine ⟨_, ⟨y3, ?hv, ?hl, ?hB⟩, hS⟩
  case hv => rw [hq]; rfl
  case hl => rw [hq]; exact y4
  case hB => rw [hq]
 have c1p := kz c1
 refine Aa ?_
 refine AB (.t3 1 4 6) ?_
 refine AA (Gs (Gm rfl (Gm rfl (Gt (BT rfl) (Gt (Ah A9 rfl) (Gt (Ah Bn rfl) ?_))))))
 refine Gt (AR C6 rfl rfl (by first | omega | exact hb.1 | exact hb.2 | (dsimp only; omega)) (by first | omega | exact hb.1 | exact hb.2 | (dsimp only; omega))) ?_
 refine Ga rfl (Gn (.t3 4 6 7) (Gs (Gm rfl (Gm rfl (Gt (BT rfl) (Gt (Ah C2 rfl) ?_))))))
 refine AT (AK (((Ad.l0.comp AH.l2).comp (AU.ar (n := 6) Aj.fl (by first | omega | exact hb | (dsimp only; omega)))).comp Aj.l3) rfl rfl rfl C5 rfl .h) ?_
 refine Gt (BT rfl) (Gt (Ah JV rfl) ?_)
 refine AT (AK (((Ad.l0.comp AH.l2).comp (AU.ar (n := 6) Aj.fl (by first | omega | exact hb | (dsimp only; omega)))).comp Aj.l4) rfl rfl rfl C5 rfl .h) ?_
 refine Gn (.t2 4 6) (Ao ?_)
 refine GC (fun _ => .h) (congrArg (fun q => Ad.enc ⟨q, b, y3⟩) (AF.Yc y6 hb)) ?_
 have hT2 := AF.YO y7
 have hf2 := AF.Rb hF
 rw [hT2] at hf2
 refine AJ (Gm rfl ?_)
 refine Ag rfl UD (.c rfl (.c rfl .n)) (.c .h (.c .h .n)) (GO _ (⟨y6.C3 b { y6.AN.at b with room := 0, BL := 10 }, b, ((AF.FT X b).kind 15).out⟩ : AF) _ 17 y4 hb (by decide : (0 : Nat) + 1 ≤ 100000)) (fun v8 B hv => ?_)
 obtain ⟨y9, rfl, y10, rfl⟩ := hv
 refine Gn (.t2 4 6) (Gs (Gm rfl ?_))
 refine BF rfl Ua (.c rfl .n) (.c .h (.c .h .n)) (HD _ ((⟨y6.C3 b { y6.AN.at b with room := 0, BL := 10 }, b, ((AF.FT X b).kind 15).out⟩ : AF).kind 17) _ y10 hb hf2.br (by decide : (0 : Nat) + 1 + 1 ≤ 90000)) (fun w hS => gl0.pull gm0 hS (.c .h (.c .h .n))) (fun v11 B hv => ?_)
 obtain ⟨y12, rfl, y13, rfl⟩ := hv
 refine Gn (.t2 4 6) (Ao ?_)
 refine BE (N := 10) [0, 1, 3, 7, 0, 16, 48, 112, 15, 511] mix (by kernel_rfl) rfl ?_
 refine Pf 0 rfl (AE rfl) (Pf 1 rfl (BT rfl) (Pf 2 rfl (Ah A9 rfl) (Pf 3 rfl (AZ rfl BW .m0 Ad.l0 rfl) (Pf 4 rfl (AE rfl) (Pf 5 rfl (BT rfl) (Pf 6 rfl (Ah CJ rfl) (Pf 7 rfl (AG rfl Di .m0 Ad.l2 rfl rfl) ?_)))))))
 refine An 8 rfl (by kernel_rfl) ?_
 refine AT (AK (AU.id AH.fl.len AH.fl.one) rfl rfl rfl D6 rfl (.t (.t .h))) ?_
 refine BN rfl ⟨?_, ?_⟩
 · exact (Po rfl (AG rfl Di .m0 Ad.l2 rfl rfl) rfl rfl (Po rfl (Ah CJ rfl) rfl rfl (Po rfl (BT rfl) rfl rfl (Po rfl (AE rfl) rfl rfl (Pk (Pk (Pk (Pk Aq))))))))
 refine Pf 9 rfl (A0 rfl) ?_
 refine A4 (by kernel_rfl) ?_
 refine AB (.t2 4 5) ?_
 refine AA (Ab ?_)
 refine AY rfl (.cell rfl .m2 (.inl ⟨(by rw [AH.fl.len]; exact BW), rfl⟩) (.tmp rfl .n)) ?_
 intro w1 hS
 have hS := (hS.perm (Ax.perm (.c (.t .h) .n))).A1
 have hq : AF.Hn X b = _ := AW c1
 rw [hT2] at hq
 refine ⟨_, ⟨y12, ?hv, ?hl, ?hB⟩, hS⟩
 case hv => rw [hq]; rfl
 case hl => rw [hq]; exact y13
 case hB => rw [hq]
end Go.Proofs.YtoidpggbbfncpaaGreatDoor
