/- What the functions that the law TopEnds reaches compute: walks, part 4. No condition. -/
import Derived.Test.YtoidpggbbfncpaaGreatDoorCards
import Derived.Test.YtoidpggbbfncpaaGreatDoorTie
import Derived.Deep.DeepHandedRow
import Derived.Test.YtoidpggbbfncpaaGreatDoorRows
import Derived.Test.YtoidpggbbfncpaaGreatDoorTopEndsEc3
import Derived.Test.YtoidpggbbfncpaaGreatDoorTopEndsRa1
import Derived.Test.YtoidpggbbfncpaaGreatDoorTopEndsRb1
import Derived.Test.YtoidpggbbfncpaaGreatDoorTopEndsRc1
import Derived.Test.YtoidpggbbfncpaaGreatDoorTopEndsWalks
import Derived.Test.YtoidpggbbfncpaaGreatDoorTopEndsWalks2
import Derived.Test.YtoidpggbbfncpaaGreatDoorTopEndsWalks3
set_option linter.unusedSimpArgs false
set_option linter.unusedVariables false
set_option maxRecDepth 100000
set_option maxHeartbeats 1000000
namespace Go.Proofs.YtoidpggbbfncpaaGreatDoor
open Go Go.Ing Go.RowKit Go.ChangeShapes Go.WideShapes Go.ChangeAt
theorem RS (b : Nat) (T : AG) (g : Hd) (o : Order) (hg : g.len = T.out.length) (hF : T.Fit) (hv : o.verb = 8 ∨ o.verb = 9 ∨ o.verb = 10) (hu : o.second.length ≤ 5000000) (hn : T.out.length ≤ 90000) : Eu Tryz.prog 106 #[.pointer (some ⟨b, 0, none⟩), .agg o.enc.toArray] [Ac.box b 163 (Ad.enc ⟨T.w, T.b, g⟩), Ac.own g 56 16 (T.out.flatMap Ing.Event.enc)] (fun w => (GG 7 w ∧ 7 ∉ CW [Ac.box b 163 (Ad.enc ⟨T.w, T.b, g⟩), Ac.own g 56 16 (T.out.flatMap Ing.Event.enc)]) ∧ (GG 8 w ∧ 8 ∉ CW [Ac.box b 163 (Ad.enc ⟨T.w, T.b, g⟩), Ac.own g 56 16 (T.out.flatMap Ing.Event.enc)])) (fun v B => ∃ g' : Hd, v = .tuple #[] ∧ g'.len = (T.G7 o).out.length ∧ B = [Ac.box b 163 (Ad.enc ⟨(T.G7 o).w, (T.G7 o).b, g'⟩), Ac.own g' 56 16 ((T.G7 o).out.flatMap Ing.Event.enc)]) := by
 intro w hS0 hH
 obtain ⟨⟨gl0, gm0⟩, ⟨gl1, gm1⟩⟩ := hH
 have hb := hF.b
 have hr := hF.room
 refine Aj _ _ Tryz.func106 rfl rfl rfl (hS0) ?_
 refine Gs ?_
 refine Bu rfl rfl rfl (fun b1 => ?_)
 refine Gn (.t2 0 3) (Gs (Ga rfl (Ga rfl (AP (AA ?_)))))
 refine BU (.t (.t .h)) ?_
 refine BU (.t (.t .h)) ?_
 refine W5 (Lm := [_, _]) (fun (X : AG) (to : Int) (p : Bool) (j : Hd) => X = (T.DG o).1 ∧ to = (T.DG o).2.1 ∧ p = (T.DG o).2.2 ∧ j.len = X.out.length) (fun (X : AG) (to : Int) (p : Bool) (j : Hd) => [(4, .int .i64 to), (5, .bool p)]) (fun (X : AG) (to : Int) (p : Bool) (j : Hd) => [Ac.box b 163 (Ad.enc ⟨X.w, X.b, j⟩), Ac.own j 56 16 (X.out.flatMap Ing.Event.enc)]) (.t2 0 3) rfl ?_ (fun X to p j hC => ?_)
 ·
  refine Gs (Gt (Af C1 rfl) (Gt (AF rfl A1 .m2 Order.l0 rfl rfl) (Gn (.t5 0 3 4 5 11) (Ae (Gs (Gt (Ai rfl rfl) (Ga rfl ?_)))))))
  refine Gn (.t6 0 3 4 5 11 12) ?_
  refine Gc (fun c1 => ?_) (fun c1 => ?_)
  ·
   have c1p := kz c1
   refine AI (Gm rfl (Gt (Af HX rfl) (Gt (AF rfl CB .m2 Order.l4 rfl rfl) ?_)))
   refine BD rfl X8 (.c rfl (.c rfl .n)) (.c .h (.c .h .n)) (MA _ T _ _ hg hF hu (by omega)) (fun w hS => ⟨gl0.pull gm0 hS (.c .h (.c .h .n)), gl1.pull gm1 hS (.c .h (.c .h .n))⟩) (fun v1 B hv => ?_)
   obtain ⟨y2, rfl, y3, rfl⟩ := hv
   refine Gm rfl (Gt (AM rfl rfl) (Gt (AM rfl rfl) (Ga rfl (Ga rfl ?_))))
   refine AP (AB (.t4 0 3 4 5) ?_)
   refine AT ?_
   refine Pm _ _ _ _ ?_ (.t4 4 5 0 3) (.refl _)
   · have ht : T.DG o = _ := BB c1
     exact ⟨by rw [ht], by rw [ht], by rw [ht], by assumption⟩
  have c1p := kz c1
  refine Gs (Gt (Ai rfl rfl) (Ga rfl (Gn (.t5 0 3 4 5 21) ?_)))
  refine Gc (fun c2 => ?_) (fun c2 => ?_)
  ·
   have c2p := kz c2
   refine AI (Gm rfl (Gt (Af HX rfl) (Gt (AF rfl CB .m2 Order.l4 rfl rfl) ?_)))
   refine BD rfl YH (.c rfl (.c rfl .n)) (.c .h (.c .h .n)) (Hp _ T _ _ hg hF hu (by omega)) (fun w hS => ⟨gl0.pull gm0 hS (.c .h (.c .h .n)), gl1.pull gm1 hS (.c .h (.c .h .n))⟩) (fun v4 B hv => ?_)
   obtain ⟨y5, rfl, y6, rfl⟩ := hv
   refine Gm rfl (Gt (AM rfl rfl) (Gt (AM rfl rfl) (Ga rfl (Ga rfl ?_))))
   refine AP (AB (.t4 0 3 4 5) ?_)
   refine AT ?_
   refine Pm _ _ _ _ ?_ (.t4 4 5 0 3) (.refl _)
   · have ht : T.DG o = _ := (AU c1).trans (BB c2)
     exact ⟨by rw [ht], by rw [ht], by rw [ht], by assumption⟩
  have c2p := kz c2
  refine Aa ?_
  refine AB (.t4 0 3 4 5) ?_
  refine AT ?_
  refine Pm _ _ _ _ ?_ (.t4 4 5 0 3) (.refl _)
  · have ht : T.DG o = _ := (AU c1).trans (AU c2)
    exact ⟨by rw [ht], by rw [ht], by rw [ht], by assumption⟩
 obtain ⟨hD1, hD2, hD3, hD4⟩ := hC
 have hXw := T.S6 o
 have hXo : X.out.length ≤ T.out.length + 1 := by rw [hD1]; exact T.Ox o
 rw [← hD1] at hXw
 have hXF : X.Fit := hF.PW hXw.1 hXw.2
 have hPl : ((AG.BQ X.w X.own o.nth o.name o.Bl)).length ≤ 9 := AG.RW.2.2
 refine CA (Gm rfl (Gt (BO rfl) (Gn (.t4 0 3 4 31) ?_)))
 refine Gc (fun c3 => ?_) (fun c3 => ?_)
 ·
  refine Ab (AD ?_)
  refine AY rfl .n ?_
  intro w1 hS
  have hS := (hS.perm (Av.perm (.c .h (.c .h .n)))).Ay
  have hq : T.G7 o = X := AG.U0 hD1 hD3 c3
  refine ⟨_, ⟨?gq1, rfl, ?hl1, ?hB1⟩, hS⟩
  case hB1 => rw [hq]; (try rfl)
  case hl1 => rw [hq]; exact hD4
 have c3p := kz c3
 obtain ⟨hgo, hn0, hn9, hok⟩ := AG.SY hD1 hD2 hD3 c3
 refine Aa ?_
 refine AB (.t3 0 3 4) ?_
 refine AA (Ao ?_)
 refine BF (N := 11) [0, 0, 2, 0, 8, 0, 32, 0, 128, 511, 1023] mix (by kernel_rfl) rfl ?_
 refine Pf 0 rfl (AE rfl) (Pf 1 rfl (AE rfl) (Pf 3 rfl (Af Fx rfl) (Pf 4 rfl (AF rfl A1 .m2 Order.l1 rfl rfl) (Pf 5 rfl (Af FQ rfl) (Pf 6 rfl (AF rfl CB .m2 Order.l3 rfl rfl) (Pf 7 rfl (Af Ge rfl) (Pf 8 rfl (AF rfl Ct .m2 Order.l2 rfl rfl) ?_)))))))
 refine An 2 rfl (by kernel_rfl) ?_
 refine Ag rfl S7 (.c rfl .n) (.c .h .n) (HS _ X _ hXF) (fun v7 B hv => ?_)
 obtain ⟨y8, rfl, y9, rfl⟩ := hv
 refine Bn rfl ⟨?_, ?_⟩
 · exact (Po rfl (AF rfl Ct .m3 Order.l2 rfl rfl) rfl rfl (Po rfl (Af Ge rfl) rfl rfl (Po rfl (AF rfl CB .m3 Order.l3 rfl rfl) rfl rfl (Po rfl (Af FQ rfl) rfl rfl (Po rfl (AF rfl A1 .m3 Order.l1 rfl rfl) rfl rfl (Po rfl (Af Fx rfl) rfl rfl (Pk (Po rfl (AE rfl) rfl rfl Au))))))))
 refine An 9 rfl (by kernel_rfl) ?_
 refine Ag rfl Oz (.c rfl (.c rfl (.c rfl (.c rfl (.c rfl .n))))) (.c .h (.c .h .n)) (En _ X _ _ X.own _ _ _ hXF (by assumption) (Nat.le_trans X.JX (by decide)) (fun i hi => AG.Ks hi)) (fun v11 B hv => ?_)
 obtain ⟨y12, rfl, y13, rfl⟩ := hv
 refine Bn rfl ⟨?_, ?_⟩
 · exact (Pk (Pk (Pk (Pk (Pk (Pk (Pk (Pk Au))))))))
 refine Pf 10 rfl (Az rfl) ?_
 refine A2 (by kernel_rfl) ?_
 refine AB (.t4 0 3 4 6) ?_
 refine AA ?_
 refine BU (.t (.t (.t .h))) ?_
 refine BU (.t .h) ?_
 refine PT (Lm := [_, _]) (fun (Z : AG) (m : Hd) => Z = X.P9 o ∧ m.len = Z.out.length) (fun (Z : AG) (m : Hd) => []) (fun (Z : AG) (m : Hd) => [Ac.box b 163 (Ad.enc ⟨Z.w, Z.b, m⟩), Ac.own m 56 16 (Z.out.flatMap Ing.Event.enc)]) (.t4 0 3 4 6) rfl ?_ (fun Z m hC => ?_)
 ·
  refine Gs (Gm rfl (Gt (Aq rfl Tryz.underlying169 rfl) (Gt (Ai rfl rfl) (Gn (.t5 0 3 4 6 44) ?_))))
  refine Gc (fun c4 => ?_) (fun c4 => ?_)
  ·
   have c4p := kz c4
   rw [y13] at c4
   refine AI (Gm rfl ?_)
   refine Ag rfl Dx (.c rfl (.c rfl .n)) (.c .h (.c .h .n)) (Bb _ X _ _ (by assumption) (by rw [hXw.2]; exact hb) (by omega)) (fun v15 B hv => ?_)
   obtain ⟨y16, rfl, y17, rfl⟩ := hv
   refine AP (AB (.t4 0 3 4 6) ?_)
   refine EK _ _ ?_ (.t4 0 3 4 6) (.refl _)
   · exact ⟨(AG.Ye (T := X) (o := o) c4).symm, by assumption⟩
  rw [y13] at c4
  refine Aa ?_
  refine AB (.t4 0 3 4 6) ?_
  refine EK _ _ ?_ (.t4 0 3 4 6) (.refl _)
  · exact ⟨(AG.YS (T := X) (o := o) c4).symm, by exact hD4⟩
 obtain ⟨hE1, hE2⟩ := hC
 refine Gs (Gm rfl (Gt (Aq rfl Tryz.underlying169 rfl) (Gm rfl (Gn (.t6 0 3 4 47 48 49) (Ae ?_)))))
 refine Bj (.t6 49 0 3 4 47 48) ?_
 refine BU (.t .h) ?_
 refine BU (.t .h) ?_
 refine De (fun (k : Int) (V : AG) (f : Hd) => 0 ≤ k ∧ V = X.Pp to o k.toNat ∧ k ≤ ((AG.BQ X.w X.own o.nth o.name o.Bl).length : Int) ∧ f.len = V.out.length) (fun (k : Int) (V : AG) (f : Hd) => (((AG.BQ X.w X.own o.nth o.name o.Bl).length : Int) - k).toNat) (fun (k : Int) (V : AG) (f : Hd) => [(49, .int .i64 k)]) (fun (k : Int) (V : AG) (f : Hd) => [Ac.box b 163 (Ad.enc ⟨V.w, V.b, f⟩), Ac.own f 56 16 (V.out.flatMap Ing.Event.enc)]) (0) (_) (_) ?_ rfl rfl (fun k V f hI1 => ?_)
 · exact ⟨by omega, hE1, by omega, hE2⟩
 obtain ⟨hI11, hI12, hI13, hI14⟩ := hI1
 refine Gs (Gt (A5 rfl rfl) (AP (AA (Ao ?_))))
 refine Gc (fun c5 => ?_) (fun c5 => ?_)
 ·
  have c5p := kz c5
  have hx : 0 ≤ ((AG.BQ X.w X.own o.nth o.name o.Bl).getD k.toNat 0) ∧ ((AG.BQ X.w X.own o.nth o.name o.Bl).getD k.toNat 0) < 9 := AG.Ks (AG.Ea (Bc.Ei (xs := (AG.BQ X.w X.own o.nth o.name o.Bl)) (i := k.toNat) (by omega)))
  have hVK := AG.Wk X to o k.toNat
  rw [← hI12] at hVK
  have hVb := hVK.2
  have hVo := hVK.1
  have hbV : 0 ≤ V.b ∧ V.b < 6 := by rw [hVb, hXw.2]; exact hb
  refine Aa ?_
  refine AB (.t6 0 3 4 47 48 49) ?_
  refine AA (Ao (Ae (Gs ?_)))
  refine Gt (Bm F5 (by decide) (Kn.own .m3) rfl rfl (by omega) (by omega)) ?_
  refine Gt (C6 rfl A1 (Kn.own .m3) (by omega)) ?_
  refine Ga rfl (Gn (.t7 0 3 4 8 47 48 49) (Gs (Gm rfl (Gm rfl (Gt (BS rfl) (Gt (Af A6 rfl) (Gt (Af Cp rfl) ?_)))))))
  refine Gt (AQ Fo rfl rfl (by first | omega | exact hbV.1 | exact hbV.2 | (dsimp only; omega)) (by first | omega | exact hbV.1 | exact hbV.2 | (dsimp only; omega))) ?_
  refine Ga rfl (Gn (.t8 0 3 4 8 9 47 48 49) (Ae (Gs (Gm rfl (Gt (BS rfl) (Gt (Af GO rfl) ?_))))))
  refine Gt (AF rfl A1 .m0 (((Ad.l0.comp AH.l1).comp (AS.ar (n := 9) Ak.fl (by first | omega | exact hbV | (dsimp only; omega)))).comp Ak.l1) rfl rfl) ?_
  refine Gt (Ai rfl rfl) (Gm rfl (BZ 87 rfl rfl (fun q => AE rfl) (BZ 87 rfl rfl (fun q => BS (BV rfl q)) (BZ 87 rfl rfl (fun q => Af Fb (BV rfl q)) ?_))))
  refine BZ 87 rfl rfl (fun q => by have q1 := q; (try simp at q1); exact AF (BV rfl q) Ct .m0 (((Ad.l0.comp AH.l1).comp (AS.ar (n := 9) Ak.fl (by first | omega | exact hbV | (dsimp only; omega)))).comp Ak.l4) rfl rfl) ?_
  refine Gt (BH rfl rfl (fun h => h)) (Ga rfl (Gn (.t9 0 3 4 8 9 47 48 49 81) ?_))
  refine Gc (fun c6 => ?_) (fun c6 => ?_)
  ·
   have c6p := kz c6
   refine AI (Gm rfl ?_)
   refine Ag rfl Dx (.c rfl (.c rfl .n)) (.c .h (.c .h .n)) (Bb _ V _ _ (by assumption) hbV (by omega)) (fun v18 B hv => ?_)
   obtain ⟨y19, rfl, y20, rfl⟩ := hv
   refine AP (AB (.t6 0 3 4 47 48 49) ?_)
   refine AT (AT (AA (AI ?_)))
   refine Gt (Aw rfl rfl (IntWalk.i64_in _ (by first | omega | exact hbV.1 | exact hbV.2 | (dsimp only; omega)))) ?_
   refine Gm rfl ?_
   refine AP (AB (.t6 0 3 4 47 48 49) ?_)
   refine Bw (k + 1) _ _ ?_ ?_ (.t6 49 0 3 4 47 48) (.refl _)
   · have hq : V.DQ o.verb to ((AG.BQ X.w X.own o.nth o.name o.Bl).getD k.toNat 0) = _ := (BB c6)
     (try rw [AG.Dl hx.1 hx.2] at *)
     (try rw [AG.DJ hx.1 hx.2 hn0] at *)
     exact ⟨by omega, (by (try rw [AG.Dl hx.1 hx.2]); (try rw [AG.DJ hx.1 hx.2 hn0]); exact hq.symm.trans ((congrArg (fun q => AG.DQ q o.verb to ((AG.BQ X.w X.own o.nth o.name o.Bl).getD k.toNat 0)) hI12).trans (AG.Hw hI11 (by show k < (((AG.BQ X.w X.own o.nth o.name o.Bl)).length : Int); omega)).symm)), by omega, by assumption⟩
   · omega
  have c6p := kz c6
  refine Gs (Gt (Af C1 rfl) (Gt (AF rfl A1 .m4 Order.l0 rfl rfl) (Gt (Ai rfl rfl) (Ga rfl (Gn (.t9 0 3 4 8 9 47 48 49 95) ?_)))))
  refine Gc (fun c7 => ?_) (fun c7 => ?_)
  ·
   have c7p := kz c7
   refine Ao ?_
   refine BF (N := 19) [0, 0, 0, 0, 8, 24, 56, 4, 132, 388, 1020, 2044, 4092, 8189, 16381, 32765, 65535, 131071, 262143] mix (by kernel_rfl) rfl ?_
   refine Pf 0 rfl (AE rfl) (Pf 1 rfl (AE rfl) (Pf 2 rfl (AE rfl) (Pf 3 rfl (AE rfl) (Pf 4 rfl (BS rfl) (Pf 5 rfl (Af CL rfl) (Pf 6 rfl (AF rfl A1 .m0 Ad.l1 rfl rfl) (Pf 7 rfl (BS rfl) ?_)))))))
   refine Pf 8 rfl (Af A6 rfl) (Pf 9 rfl (Af Bi rfl) ?_)
   refine Pf 10 rfl (AQ Cy rfl rfl (by first | omega | exact hbV.1 | exact hbV.2 | (dsimp only; omega)) (by first | omega | exact hbV.1 | exact hbV.2 | (dsimp only; omega))) ?_
   refine Pf 11 rfl (Af Cx rfl) ?_
   refine Pf 12 rfl (AF rfl A1 .m0 (((Ad.l0.comp AH.l2).comp (AS.ar (n := 6) Al.fl (by first | omega | exact hbV | (dsimp only; omega)))).comp Al.l3) rfl rfl) ?_
   refine Pf 13 rfl (BS rfl) (Pf 14 rfl (Af E5 rfl) ?_)
   refine An 15 rfl (by kernel_rfl) ?_
   refine AR (AK (((Ad.l0.comp AH.l1).comp (AS.ar (n := 9) Ak.fl (by first | omega | exact hbV | (dsimp only; omega)))).comp Ak.l2) rfl rfl rfl C3 rfl .h) ?_
   refine BK rfl ⟨?_, ?_⟩
   · exact (Pk (Pk (Pk (Pk (Pk (Pk (Pk (Pk (Pk (Pk (Pk (Pk (Pk (Po rfl (AE rfl) rfl rfl (Pk Au)))))))))))))))
   refine Pf 16 rfl (BS rfl) (Pf 17 rfl (Af C5 rfl) ?_)
   refine An 18 rfl (by kernel_rfl) ?_
   refine AR (AK (((Ad.l0.comp AH.l1).comp (AS.ar (n := 9) Ak.fl (by first | omega | exact hbV | (dsimp only; omega)))).comp Ak.l3) rfl rfl rfl C3 rfl .h) ?_
   refine BK rfl ⟨?_, ?_⟩
   · exact (Pk (Pk (Pk (Pk (Pk (Pk (Pk (Pk (Pk (Pk (Pk (Pk (Pk (Pk (Pk (Pk (Pk Au)))))))))))))))))
   refine A2 (by kernel_rfl) ?_
   refine AB (.t7 0 3 4 8 47 48 49) ?_
   refine AA ?_
   refine Fh (fun _ => .h) (congrArg (fun q => Ad.enc ⟨q, _, _⟩) (AG.Gp V hx.1 hx.2 0 (V.w.AW.at V.b).room)) ?_
   refine AI (Gm rfl (Gm rfl ?_))
   refine Ag rfl Nu (.c rfl (.c rfl (.c rfl .n))) (.c .h (.c .h .n)) (Dm _ (V.place ((AG.BQ X.w X.own o.nth o.name o.Bl).getD k.toNat 0) 0 (V.w.AW.at V.b).room) _ 4 ((AG.BQ X.w X.own o.nth o.name o.Bl).getD k.toNat 0) (by assumption) hbV hx (show V.out.length ≤ 100000 by omega)) (fun v21 B hv => ?_)
   obtain ⟨y22, rfl, y23, rfl⟩ := hv
   refine AP (AB (.t6 0 3 4 47 48 49) ?_)
   refine AT (AT (AA (AI ?_)))
   refine Gt (Aw rfl rfl (IntWalk.i64_in _ (by first | omega | exact hbV.1 | exact hbV.2 | (dsimp only; omega)))) ?_
   refine Gm rfl ?_
   refine AP (AB (.t6 0 3 4 47 48 49) ?_)
   refine Bw (k + 1) _ _ ?_ ?_ (.t6 49 0 3 4 47 48) (.refl _)
   · have hq : V.DQ o.verb to ((AG.BQ X.w X.own o.nth o.name o.Bl).getD k.toNat 0) = _ := ((AU c6).trans (BB c7))
     (try rw [AG.Dl hx.1 hx.2] at *)
     (try rw [AG.DJ hx.1 hx.2 hn0] at *)
     exact ⟨by omega, (by (try rw [AG.Dl hx.1 hx.2]); (try rw [AG.DJ hx.1 hx.2 hn0]); exact hq.symm.trans ((congrArg (fun q => AG.DQ q o.verb to ((AG.BQ X.w X.own o.nth o.name o.Bl).getD k.toNat 0)) hI12).trans (AG.Hw hI11 (by show k < (((AG.BQ X.w X.own o.nth o.name o.Bl)).length : Int); omega)).symm)), by omega, by assumption⟩
   · omega
  have c7p := kz c7
  refine Gs (Gt (Af C1 rfl) (Gt (AF rfl A1 .m4 Order.l0 rfl rfl) (Gt (Ai rfl rfl) (Ga rfl (Gn (.t9 0 3 4 8 9 47 48 49 119) ?_)))))
  refine Gc (fun c8 => ?_) (fun c8 => ?_)
  ·
   have c8p := kz c8
   refine Gs (Gm rfl (Gm rfl (Gm rfl (Gt (BS rfl) (Gt (Af E5 rfl) ?_)))))
   refine AR (AK (((Ad.l0.comp AH.l1).comp (AS.ar (n := 9) Ak.fl (by first | omega | exact hbV | (dsimp only; omega)))).comp Ak.l2) rfl rfl rfl C3 rfl .h) ?_
   refine Gt (BS rfl) (Gt (Af C5 rfl) ?_)
   refine AR (AK (((Ad.l0.comp AH.l1).comp (AS.ar (n := 9) Ak.fl (by first | omega | exact hbV | (dsimp only; omega)))).comp Ak.l3) rfl rfl rfl C3 rfl .h) ?_
   refine Gn (.t7 0 3 4 9 47 48 49) ?_
   refine Fh (fun _ => .h) (congrArg (fun q => Ad.enc ⟨q, _, _⟩) (AG.Gp V hx.1 hx.2 1 to)) ?_
   refine AI (Gm rfl (Gm rfl (Gm rfl (Gt (BS rfl) (Gt (Af Lx rfl) ?_)))))
   refine Gt (AF rfl CB .m0 (((Ad.l0.comp AH.l1).comp (AS.ar (n := 9) Ak.fl (by first | omega | exact hbV | (dsimp only; omega)))).comp Ak.l0) rfl rfl) ?_
   refine Gt (A9 Ng H2 rfl (.cons Ing.Event.l0 rfl rfl rfl (.cons Ing.Event.l3 rfl rfl rfl (.cons Ing.Event.l8 rfl rfl rfl .nil)))) ?_
   refine Ag rfl OF (.c rfl (.c rfl .n)) (.c .h (.c .h .n)) (CI _ (V.place ((AG.BQ X.w X.own o.nth o.name o.Bl).getD k.toNat 0) 1 to) _ { AG.GI 6 with other := to, B1 := ((V.place ((AG.BQ X.w X.own o.nth o.name o.Bl).getD k.toNat 0) 1 to).w.AX.at ((AG.BQ X.w X.own o.nth o.name o.Bl).getD k.toNat 0)).name } (by assumption) hbV (show to < 6 from (hok hv).ck (by omega)) (show V.out.length ≤ 100000 by omega)) (fun v24 B hv => ?_)
   obtain ⟨y25, rfl, y26, rfl⟩ := hv
   refine AP (AB (.t6 0 3 4 47 48 49) ?_)
   refine AT (AT (AA (AI ?_)))
   refine Gt (Aw rfl rfl (IntWalk.i64_in _ (by first | omega | exact hbV.1 | exact hbV.2 | (dsimp only; omega)))) ?_
   refine Gm rfl ?_
   refine AP (AB (.t6 0 3 4 47 48 49) ?_)
   refine Bw (k + 1) _ _ ?_ ?_ (.t6 49 0 3 4 47 48) (.refl _)
   · have hq : V.DQ o.verb to ((AG.BQ X.w X.own o.nth o.name o.Bl).getD k.toNat 0) = _ := ((AU c6).trans ((AU c7).trans (BB c8)))
     (try rw [AG.Dl hx.1 hx.2] at *)
     (try rw [AG.DJ hx.1 hx.2 hn0] at *)
     exact ⟨by omega, (by (try rw [AG.Dl hx.1 hx.2]); (try rw [AG.DJ hx.1 hx.2 hn0]); exact hq.symm.trans ((congrArg (fun q => AG.DQ q o.verb to ((AG.BQ X.w X.own o.nth o.name o.Bl).getD k.toNat 0)) hI12).trans (AG.Hw hI11 (by show k < (((AG.BQ X.w X.own o.nth o.name o.Bl)).length : Int); omega)).symm)), by omega, by assumption⟩
   · omega
  have c8p := kz c8
  refine Gs (Gm rfl (Gt (BS rfl) (Gt (Af A6 rfl) (Gt (AZ rfl BT .m0 Ad.l0 rfl) (Gm rfl (Gm rfl ?_))))))
  refine A8 rfl aQ (.c rfl (.c rfl (.c rfl .n))) (fun w hS => Ln _ _ _ w) ?_
  refine Ga rfl (Gn (.t8 0 3 4 9 47 48 49 138) ?_)
  refine Gc (fun c9 => ?_) (fun c9 => ?_)
  ·
   have c9p := kz c9
   refine AI (Gm rfl ?_)
   refine Ag rfl Dx (.c rfl (.c rfl .n)) (.c .h (.c .h .n)) (Bb _ V _ _ (by assumption) hbV (by omega)) (fun v27 B hv => ?_)
   obtain ⟨y28, rfl, y29, rfl⟩ := hv
   refine AP (AB (.t6 0 3 4 47 48 49) ?_)
   refine AT (AT (AA (AI ?_)))
   refine Gt (Aw rfl rfl (IntWalk.i64_in _ (by first | omega | exact hbV.1 | exact hbV.2 | (dsimp only; omega)))) ?_
   refine Gm rfl ?_
   refine AP (AB (.t6 0 3 4 47 48 49) ?_)
   refine Bw (k + 1) _ _ ?_ ?_ (.t6 49 0 3 4 47 48) (.refl _)
   · have hq : V.DQ o.verb to ((AG.BQ X.w X.own o.nth o.name o.Bl).getD k.toNat 0) = _ := ((AU c6).trans ((AU c7).trans ((AU c8).trans (BB c9))))
     (try rw [AG.Dl hx.1 hx.2] at *)
     (try rw [AG.DJ hx.1 hx.2 hn0] at *)
     exact ⟨by omega, (by (try rw [AG.Dl hx.1 hx.2]); (try rw [AG.DJ hx.1 hx.2 hn0]); exact hq.symm.trans ((congrArg (fun q => AG.DQ q o.verb to ((AG.BQ X.w X.own o.nth o.name o.Bl).getD k.toNat 0)) hI12).trans (AG.Hw hI11 (by show k < (((AG.BQ X.w X.own o.nth o.name o.Bl)).length : Int); omega)).symm)), by omega, by assumption⟩
   · omega
  have c9p := kz c9
  refine Gs (Gm rfl (Gm rfl (Gm rfl (Gt (BS rfl) (Gt (Af E5 rfl) ?_)))))
  refine AR (AK (((Ad.l0.comp AH.l1).comp (AS.ar (n := 9) Ak.fl (by first | omega | exact hbV | (dsimp only; omega)))).comp Ak.l2) rfl rfl rfl C3 rfl .h) ?_
  refine Gt (BS rfl) (Gt (Af C5 rfl) ?_)
  refine AR (AK (((Ad.l0.comp AH.l1).comp (AS.ar (n := 9) Ak.fl (by first | omega | exact hbV | (dsimp only; omega)))).comp Ak.l3) rfl rfl rfl C3 rfl .h) ?_
  refine Gn (.t7 0 3 4 9 47 48 49) ?_
  refine Fh (fun _ => .h) (congrArg (fun q => Ad.enc ⟨q, _, _⟩) (AG.Gp V hx.1 hx.2 2 to)) ?_
  refine BF (N := 15) [0, 0, 2, 6, 14, 0, 0, 32, 160, 416, 992, 2016, 4064, 8190, 16383] mix (by kernel_rfl) rfl ?_
  refine Pf 0 rfl (AE rfl) (Pf 1 rfl (AE rfl) (Pf 2 rfl (BS rfl) (Pf 3 rfl (Af Lx rfl) ?_)))
  refine Pf 4 rfl (AF rfl CB .m0 (((Ad.l0.comp AH.l1).comp (AS.ar (n := 9) Ak.fl (by first | omega | exact hbV | (dsimp only; omega)))).comp Ak.l0) rfl rfl) ?_
  refine Pf 5 rfl (AE rfl) (Pf 6 rfl (AE rfl) (Pf 7 rfl (BS rfl) (Pf 8 rfl (Af A6 rfl) (Pf 9 rfl (Af Cp rfl) ?_))))
  refine Pf 10 rfl (AQ Fo rfl rfl (by first | omega | exact hbV.1 | exact hbV.2 | (dsimp only; omega)) (by first | omega | exact hbV.1 | exact hbV.2 | (dsimp only; omega))) ?_
  refine Pf 11 rfl (Af Lx rfl) ?_
  refine Pf 12 rfl (AF rfl CB .m0 (((Ad.l0.comp AH.l1).comp (AS.ar (n := 9) Ak.fl (by first | omega | exact hbV | (dsimp only; omega)))).comp Ak.l0) rfl rfl) ?_
  refine Pf 13 rfl (A9 Ng H2 rfl (.cons Ing.Event.l0 rfl rfl rfl (.cons Ing.Event.l3 rfl rfl rfl (.cons Ing.Event.l8 rfl rfl rfl (.cons Ing.Event.l9 rfl rfl rfl .nil))))) ?_
  refine An 14 rfl (by kernel_rfl) ?_
  refine Ag rfl OF (.c rfl (.c rfl .n)) (.c .h (.c .h .n)) (CI _ (V.place ((AG.BQ X.w X.own o.nth o.name o.Bl).getD k.toNat 0) 2 to) _ { AG.GI 5 with B1 := ((V.place ((AG.BQ X.w X.own o.nth o.name o.Bl).getD k.toNat 0) 2 to).w.AX.at ((AG.BQ X.w X.own o.nth o.name o.Bl).getD k.toNat 0)).name, text := ((V.place ((AG.BQ X.w X.own o.nth o.name o.Bl).getD k.toNat 0) 2 to).w.AX.at to).name } (by assumption) hbV (show (-1 : Int) < 6 by decide) (show V.out.length ≤ 100000 by omega)) (fun v30 B hv => ?_)
  obtain ⟨y31, rfl, y32, rfl⟩ := hv
  refine Bn rfl ⟨?_, ?_⟩
  · exact (Pk (Pk (Pk (Pk (Pk (Pk (Pk (Pk (Pk (Pk (Pk (Pk (Pk (Pk Au))))))))))))))
  refine A2 (by kernel_rfl) ?_
  refine AB (.t6 0 3 4 47 48 49) ?_
  refine AT (AT (AA (AI ?_)))
  refine Gt (Aw rfl rfl (IntWalk.i64_in _ (by first | omega | exact hbV.1 | exact hbV.2 | (dsimp only; omega)))) ?_
  refine Gm rfl ?_
  refine AP (AB (.t6 0 3 4 47 48 49) ?_)
  refine Bw (k + 1) _ _ ?_ ?_ (.t6 49 0 3 4 47 48) (.refl _)
  · have hq : V.DQ o.verb to ((AG.BQ X.w X.own o.nth o.name o.Bl).getD k.toNat 0) = _ := ((AU c6).trans ((AU c7).trans ((AU c8).trans (AU c9))))
    (try rw [AG.Dl hx.1 hx.2] at *)
    (try rw [AG.DJ hx.1 hx.2 hn0] at *)
    exact ⟨by omega, (by (try rw [AG.Dl hx.1 hx.2]); (try rw [AG.DJ hx.1 hx.2 hn0]); exact hq.symm.trans ((congrArg (fun q => AG.DQ q o.verb to ((AG.BQ X.w X.own o.nth o.name o.Bl).getD k.toNat 0)) hI12).trans (AG.Hw hI11 (by show k < (((AG.BQ X.w X.own o.nth o.name o.Bl)).length : Int); omega)).symm)), by omega, by assumption⟩
  · omega
 have c5p := kz c5
 obtain rfl : k = ((AG.BQ X.w X.own o.nth o.name o.Bl).length : Int) := by omega
 refine Ba (AV (AV (Ah ?_)))
 refine Bf rfl .n ?_
 intro w1 hS
 have hS := (hS.perm (Av.perm (.c .h (.c .h .n)))).Ay
 have hq : T.G7 o = V := hgo.trans (hI12.trans AG.WC).symm
 refine ⟨_, ⟨?gq2, rfl, ?hl2, ?hB2⟩, hS⟩
 case hB2 => rw [hq]; (try rfl)
 case hl2 => rw [hq]; exact hI14
theorem JO (s : As) (w : World) (gl0 : GV 0 AH.C4 w) : EF Tryz.prog 138 #[BP s] w fun v w' => v = .tuple #[.int .i64 (Words.dir s).1, .bool (Words.dir s).2] ∧ B3 w w' := by
 refine Aj [] [] Tryz.func138 rfl rfl rfl (St.start w []) ?_
 refine Gs (Ga rfl (Ga rfl (Gn (.t1 0) (CA (Gm rfl (AP (AA ?_)))))))
 refine Ae ?_
 refine Bj (.t2 5 0) ?_
 refine CR (fun (k : Int) => 0 ≤ k ∧ k ≤ 6 ∧ Words.Nd s 6 = Words.Nd s (6 - k).toNat) (fun (k : Int) => (6 - k).toNat) (fun (k : Int) => [(5, .int .i64 k)]) (fun (k : Int) => []) (0) ?_ rfl rfl (fun k hI1 => ?_)
 · exact ⟨by omega, by omega, rfl⟩
 obtain ⟨hI11, hI12, hI13⟩ := hI1
 refine Gs (Gt (A5 rfl rfl) (AP (AA (Ao ?_))))
 refine Gc (fun c1 => ?_) (fun c1 => ?_)
 ·
  have c1p := kz c1
  rw [Words.UP hI11 (by omega)] at hI13
  refine Aa ?_
  refine AB (.t2 0 5) ?_
  refine AA (Ao (Ae (Gs (Gm rfl (Ga rfl (Gn (.t3 0 4 5) (Gs ?_)))))))
  refine Gm rfl ?_
  refine Gt (AQ VC rfl rfl (by omega) (by omega)) ?_
  refine Gt (P6 gl0 rfl CB (AH.OC (by omega) (by omega))) ?_
  refine Gm rfl (Gt (Bp rfl rfl) (Gn (.t4 0 4 5 12) ?_))
  refine Gc (fun c2 => ?_) (fun c2 => ?_)
  ·
   refine Gs (Gm rfl (Ga rfl (Ga rfl (Gn (.t2 2 3) (Ab (AO (AD ?_)))))))
   refine AD (AO (AD ?_))
   refine AY rfl (.tmp rfl (.tmp rfl .n)) ?_
   intro w1 hS; refine ⟨?_, hS.Am⟩; rw [Words.dir, hI13, BB c2]; rfl
  have c2p := kz c2
  refine Aa ?_
  refine AB (.t2 0 5) ?_
  refine AT (AA (AI ?_))
  refine Gt (Aw rfl rfl (IntWalk.i64_in _ (by omega))) ?_
  refine Gm rfl ?_
  refine AP (AB (.t2 0 5) ?_)
  refine B0 (k + 1) ?_ ?_ (.t2 5 0) (.refl _)
  · exact ⟨by omega, by omega, by rw [hI13, AU c2]⟩
  · omega
 have c1p := kz c1
 obtain rfl : k = 6 := by omega
 refine Ba (AV (AV (Ah ?_)))
 refine AB (.nil _) ?_
 refine AA (Gs (Ga rfl (Ga rfl (AP (AA (Ab ?_))))))
 refine AY rfl (.tmp rfl (.tmp rfl .n)) ?_
 intro w1 hS; refine ⟨?_, hS.Am⟩; rw [Words.dir, hI13]; rfl
theorem QN (b : Nat) (T : AG) (g : Hd) (d : Int) (p : Bool) (k : Int) (hg : g.len = T.out.length) (hF : T.Fit) (hd : 0 ≤ d ∧ d < 6) (hn : T.out.length ≤ 90000) : IP Tryz.prog 139 #[.pointer (some ⟨b, 0, none⟩), .int .i64 d, .bool p, .int .i64 k] [Ac.box b 163 (Ad.enc ⟨T.w, T.b, g⟩), Ac.own g 56 16 (T.out.flatMap Ing.Event.enc)] (fun v B => ∃ g' : Hd, v = .tuple #[] ∧ g'.len = (T.I1 d p k).out.length ∧ B = [Ac.box b 163 (Ad.enc ⟨(T.I1 d p k).w, (T.I1 d p k).b, g'⟩), Ac.own g' 56 16 ((T.I1 d p k).out.flatMap Ing.Event.enc)]) := by
 intro w hS0
 have hb := hF.b
 have hr := hF.room
 have hx := hF.exit hd.1 hd.2
 have hop := AH.Pj d
 refine Aj _ _ Tryz.func139 rfl rfl rfl (hS0) ?_
 refine Ao ?_
 refine BF (N := 12) [0, 0, 2, 6, 14, 1, 33, 97, 255, 511, 1023, 2047] mix (by kernel_rfl) rfl ?_
 refine Pf 0 rfl (AE rfl) (Pf 1 rfl (AE rfl) (Pf 2 rfl (BS rfl) (Pf 3 rfl (Af CL rfl) (Pf 4 rfl (AF rfl A1 .m0 Ad.l1 rfl rfl) (Pf 5 rfl (BS rfl) (Pf 6 rfl (Af A6 rfl) (Pf 7 rfl (Af Bi rfl) ?_)))))))
 refine Pf 8 rfl (AQ Cy rfl rfl (by first | omega | exact hb.1 | exact hb.2 | exact hr.1 | exact hr.2 | (dsimp only; omega)) (by first | omega | exact hb.1 | exact hb.2 | exact hr.1 | exact hr.2 | (dsimp only; omega))) ?_
 refine Pf 9 rfl (Af Cx rfl) ?_
 refine Pf 10 rfl (AF rfl A1 .m0 (((Ad.l0.comp AH.l2).comp (AS.ar (n := 6) Al.fl (by first | omega | exact hb | exact hr | (dsimp only; omega)))).comp Al.l3) rfl rfl) ?_
 refine Pf 11 rfl (Az rfl) ?_
 refine A2 (by kernel_rfl) ?_
 refine AB (.t5 0 1 2 3 8) ?_
 refine AA (Gs (Gm rfl (Gm rfl (Gm rfl (Gt (BS rfl) (Gt (Af A6 rfl) (Gt (Af GR rfl) ?_)))))))
 refine Gt (AQ Nc rfl rfl (by first | omega | exact hb.1 | exact hb.2 | exact hr.1 | exact hr.2 | (dsimp only; omega)) (by first | omega | exact hb.1 | exact hb.2 | exact hr.1 | exact hr.2 | (dsimp only; omega))) ?_
 refine Gt (Af Lw rfl) ?_
 refine Gt (AQ QX rfl rfl (by first | omega | exact hb.1 | exact hb.2 | exact hr.1 | exact hr.2 | (dsimp only; omega)) (by first | omega | exact hb.1 | exact hb.2 | exact hr.1 | exact hr.2 | (dsimp only; omega))) ?_
 refine Gt (AF rfl A1 .m0 ((((Ad.l0.comp AH.l0).comp (AS.ar (n := 6) Room.fl (by first | omega | exact hb | exact hr | (dsimp only; omega)))).comp Room.l2).comp (AS.ar (n := 6) By (by first | omega | exact hb | exact hr | (dsimp only; omega)))) rfl rfl) ?_
 refine Gt (E6 rfl rfl (IntWalk.i64_in _ (by first | omega | exact hb.1 | exact hb.2 | exact hr.1 | exact hr.2 | (dsimp only; omega)))) ?_
 refine Ga rfl (Gn (.t6 0 1 2 3 8 9) (Ae (Gs (Gm rfl (Gt (A5 rfl rfl) (Ga rfl (Gn (.t7 0 1 2 3 8 9 74) ?_)))))))
 refine Gc (fun c1 => ?_) (fun c1 => ?_)
 ·
  have c1p := kz c1
  try dsimp only at c1p
  refine AI (Gm rfl ?_)
  refine Ag rfl Dx (.c rfl (.c rfl .n)) (.c .h (.c .h .n)) (Bb _ _ _ _ hg hb (by omega)) (fun v1 B hv => ?_)
  obtain ⟨y2, rfl, y3, rfl⟩ := hv
  refine AP (AB (.nil _) ?_)
  refine AT ?_
  refine Bf rfl .n ?_
  intro w1 hS
  have hS := (hS.perm (Av.perm (.c .h (.c .h .n)))).Ay
  have hq : T.I1 d p k = _ := (BB c1)
  refine ⟨_, ⟨?gq1, rfl, ?hl1, ?hB1⟩, hS⟩
  case hB1 => rw [hq]; (try rfl)
  case hl1 => rw [hq]; assumption
 have c1p := kz c1
 try dsimp only at c1p
 refine Gs (Gm rfl (Gm rfl (Gm rfl (Gt (BS rfl) (Gt (Af A6 rfl) (Gt (Af GR rfl) ?_))))))
 refine Gt (AQ Nc rfl rfl (by first | omega | exact hb.1 | exact hb.2 | exact hr.1 | exact hr.2 | (dsimp only; omega)) (by first | omega | exact hb.1 | exact hb.2 | exact hr.1 | exact hr.2 | (dsimp only; omega))) ?_
 refine Gt (Af L0 rfl) ?_
 refine Gt (AQ Ul rfl rfl (by first | omega | exact hb.1 | exact hb.2 | exact hr.1 | exact hr.2 | (dsimp only; omega)) (by first | omega | exact hb.1 | exact hb.2 | exact hr.1 | exact hr.2 | (dsimp only; omega))) ?_
 refine Gt (AF rfl Ct .m0 ((((Ad.l0.comp AH.l0).comp (AS.ar (n := 6) Room.fl (by first | omega | exact hb | exact hr | (dsimp only; omega)))).comp Room.l3).comp (AS.ar (n := 6) Gd (by first | omega | exact hb | exact hr | (dsimp only; omega)))) rfl rfl) ?_
 refine Gm rfl (Gt (I4 Tryz.underlying4 rfl rfl) (Ga rfl (Gn (.t7 0 1 2 3 8 9 79) ?_)))
 refine Gc (fun c2 => ?_) (fun c2 => ?_)
 ·
  have c2p := kz c2
  try dsimp only at c2p
  refine AI (Gm rfl ?_)
  refine Ag rfl Dx (.c rfl (.c rfl .n)) (.c .h (.c .h .n)) (Bb _ _ _ _ hg hb (by omega)) (fun v4 B hv => ?_)
  obtain ⟨y5, rfl, y6, rfl⟩ := hv
  refine AP (AB (.nil _) ?_)
  refine AT ?_
  refine Bf rfl .n ?_
  intro w1 hS
  have hS := (hS.perm (Av.perm (.c .h (.c .h .n)))).Ay
  have hq : T.I1 d p k = _ := ((AU c1).trans (BB c2))
  refine ⟨_, ⟨?gq2, rfl, ?hl2, ?hB2⟩, hS⟩
  case hB2 => rw [hq]; (try rfl)
  case hl2 => rw [hq]; assumption
 have c2p := kz c2
 try dsimp only at c2p
 refine Gs (Gm rfl (Gm rfl (Gm rfl (Gm rfl (Gt (BO rfl) (Gt (BS rfl) (Gt (Af A6 rfl) ?_)))))))
 refine Gt (Af GR rfl) ?_
 refine Gt (AQ Nc rfl rfl (by first | omega | exact hb.1 | exact hb.2 | exact hr.1 | exact hr.2 | (dsimp only; omega)) (by first | omega | exact hb.1 | exact hb.2 | exact hr.1 | exact hr.2 | (dsimp only; omega))) ?_
 refine Gt (Af L0 rfl) ?_
 refine Gt (AQ Ul rfl rfl (by first | omega | exact hb.1 | exact hb.2 | exact hr.1 | exact hr.2 | (dsimp only; omega)) (by first | omega | exact hb.1 | exact hb.2 | exact hr.1 | exact hr.2 | (dsimp only; omega))) ?_
 refine AR (AK ((((Ad.l0.comp AH.l0).comp (AS.ar (n := 6) Room.fl (by first | omega | exact hb | exact hr | (dsimp only; omega)))).comp Room.l3).comp (AS.ar (n := 6) Gd (by first | omega | exact hb | exact hr | (dsimp only; omega)))) rfl rfl rfl Jr rfl .h) ?_
 refine Gn (.t6 0 1 2 3 8 9) (CA (Gm rfl ?_))
 refine A8 rfl YE (.c rfl .n) (fun w hS => Gq _ w) ?_
 refine Ga rfl (Gn (.t6 0 2 3 8 9 10) (Gs (Gm rfl (Gm rfl (Gm rfl (Gt (BS rfl) (Gt (Af A6 rfl) ?_)))))))
 refine Gt (Af GR rfl) ?_
 refine Gt (AQ Nc rfl rfl (by first | omega | exact hb.1 | exact hb.2 | exact hr.1 | exact hr.2 | (dsimp only; omega)) (by first | omega | exact hb.1 | exact hb.2 | exact hr.1 | exact hr.2 | (dsimp only; omega))) ?_
 refine Gt (Af Lw rfl) ?_
 refine Gt (AQ QX rfl rfl (by first | omega | exact hb.1 | exact hb.2 | exact hr.1 | exact hr.2 | (dsimp only; omega)) (by first | omega | exact hb.1 | exact hb.2 | exact hr.1 | exact hr.2 | (dsimp only; omega))) ?_
 refine Gt (AF rfl A1 .m0 ((((Ad.l0.comp AH.l0).comp (AS.ar (n := 6) Room.fl (by first | omega | exact hb | exact hr | (dsimp only; omega)))).comp Room.l2).comp (AS.ar (n := 6) By (by first | omega | exact hb | exact hr | (dsimp only; omega)))) rfl rfl) ?_
 refine Gm rfl ?_
 refine Gt (Aw rfl rfl (IntWalk.i64_in _ (by first | omega | exact hb.1 | exact hb.2 | exact hr.1 | exact hr.2 | (dsimp only; omega)))) ?_
 refine Gt (Ai rfl rfl) (Gn (.t6 0 2 3 9 10 58) ?_)
 refine Gc (fun c3 => ?_) (fun c3 => ?_)
 ·
  have c3p := kz c3
  try dsimp only at c3p
  refine AI (Gm rfl (Gm rfl (Gm rfl (Gm rfl (Gt (BO rfl) (Gt (BS rfl) (Gt (Af A6 rfl) ?_)))))))
  refine Gt (Af GR rfl) ?_
  refine Gt (AQ Nc rfl rfl (by first | omega | exact hb.1 | exact hb.2 | exact hr.1 | exact hr.2 | (dsimp only; omega)) (by first | omega | exact hb.1 | exact hb.2 | exact hr.1 | exact hr.2 | (dsimp only; omega))) ?_
  refine Gt (Af L0 rfl) ?_
  refine Gt (AQ Ul rfl rfl (by first | omega | exact hb.1 | exact hb.2 | exact hr.1 | exact hr.2 | (dsimp only; omega)) (by first | omega | exact hb.1 | exact hb.2 | exact hr.1 | exact hr.2 | (dsimp only; omega))) ?_
  refine AR (AK ((((Ad.l0.comp AH.l0).comp (AS.ar (n := 6) Room.fl (by first | omega | exact hb | exact hr | (dsimp only; omega)))).comp Room.l3).comp (AS.ar (n := 6) Gd (by first | omega | exact hb | exact hr | (dsimp only; omega)))) rfl rfl rfl Jr rfl .h) ?_
  refine Gn (.t2 0 3) (AI (Gm rfl (Gm rfl (Gt (A9 Ng H2 rfl (.cons Ing.Event.l0 rfl rfl rfl (.cons Ing.Event.l3 rfl rfl rfl (.cons Ing.Event.l8 rfl rfl rfl .nil)))) ?_))))
  refine Ag rfl OF (.c rfl (.c rfl .n)) (.c .h (.c .h .n)) (CI _ (AG.Fv (T.Fv T.me.room d (!p)) ((T.w.Bx.at (T.w.AW.at T.b).room).Da.at d - 1) (AH.opposite d) (!p)) _ { AG.GI k with B1 := AG.On } hg hb (show (-1 : Int) < 6 by decide) (show T.out.length ≤ 100000 by omega)) (fun v7 B hv => ?_)
  obtain ⟨y8, rfl, y9, rfl⟩ := hv
  refine AP (AB (.nil _) ?_)
  refine AT ?_
  refine Bf rfl .n ?_
  intro w1 hS
  have hS := (hS.perm (Av.perm (.c .h (.c .h .n)))).Ay
  have hq : T.I1 d p k = _ := (show T.I1 d p k = _ from (AU c1).trans (AU c2)).trans (congrArg (fun q => AG.Bk q { AG.GI k with B1 := AG.On }) (BB c3))
  refine ⟨_, ⟨?gq3, rfl, ?hl3, ?hB3⟩, hS⟩
  case hB3 => rw [hq]; (try rfl)
  case hl3 => rw [hq]; assumption
 have c3p := kz c3
 try dsimp only at c3p
 refine Aa ?_
 refine AB (.t2 0 3) ?_
 refine AA (AI (Gm rfl (Gm rfl (Gt (A9 Ng H2 rfl (.cons Ing.Event.l0 rfl rfl rfl (.cons Ing.Event.l3 rfl rfl rfl (.cons Ing.Event.l8 rfl rfl rfl .nil)))) ?_))))
 refine Ag rfl OF (.c rfl (.c rfl .n)) (.c .h (.c .h .n)) (CI _ (T.Fv T.me.room d (!p)) _ { AG.GI k with B1 := AG.On } hg hb (show (-1 : Int) < 6 by decide) (show T.out.length ≤ 100000 by omega)) (fun v10 B hv => ?_)
 obtain ⟨y11, rfl, y12, rfl⟩ := hv
 refine AP (AB (.nil _) ?_)
 refine AT ?_
 refine Bf rfl .n ?_
 intro w1 hS
 have hS := (hS.perm (Av.perm (.c .h (.c .h .n)))).Ay
 have hq : T.I1 d p k = _ := (show T.I1 d p k = _ from (AU c1).trans (AU c2)).trans (congrArg (fun q => AG.Bk q { AG.GI k with B1 := AG.On }) (AU c3))
 refine ⟨_, ⟨?gq4, rfl, ?hl4, ?hB4⟩, hS⟩
 case hB4 => rw [hq]; (try rfl)
 case hl4 => rw [hq]; assumption
theorem FJ (b : Nat) (T : AG) (g : Hd) (a : Bool) (i : Int) (p : Bool) (k : Int) (hg : g.len = T.out.length) (hb : 0 ≤ T.b ∧ T.b < 6) (hi : 0 ≤ i ∧ i < 9) (hn : T.out.length ≤ 90000) : IP Tryz.prog 140 #[.pointer (some ⟨b, 0, none⟩), .bool a, .int .i64 i, .bool p, .int .i64 k] [Ac.box b 163 (Ad.enc ⟨T.w, T.b, g⟩), Ac.own g 56 16 (T.out.flatMap Ing.Event.enc)] (fun v B => ∃ g' : Hd, v = .tuple #[] ∧ g'.len = (T.before a i p k).out.length ∧ B = [Ac.box b 163 (Ad.enc ⟨(T.before a i p k).w, (T.before a i p k).b, g'⟩), Ac.own g' 56 16 ((T.before a i p k).out.flatMap Ing.Event.enc)]) := by
 intro w hS0
 refine Aj _ _ Tryz.func140 rfl rfl rfl (hS0) ?_
 refine CA (Gm rfl (Gn (.t5 0 2 3 4 10) ?_))
 refine Gc (fun c1 => ?_) (fun c1 => ?_)
 ·
  have c1p := kz c1
  refine Gs (Gm rfl (Gm rfl (Gm rfl (Gt (BS rfl) (Gt (Af A6 rfl) (Gt (Af Cp rfl) ?_))))))
  refine Gt (AQ Fo rfl rfl (by first | omega | exact hb.1 | exact hb.2 | (dsimp only; omega)) (by first | omega | exact hb.1 | exact hb.2 | (dsimp only; omega))) ?_
  refine Gt (Af Fb rfl) ?_
  refine AR (AK (((Ad.l0.comp AH.l1).comp (AS.ar (n := 9) Ak.fl (by first | omega | exact hb | (dsimp only; omega)))).comp Ak.l4) rfl rfl rfl Jr rfl .h) ?_
  refine Gn (.t3 0 2 4) (Gs (Gm rfl (Gm rfl (Gm rfl ?_))))
  refine Ag rfl Nu (.c rfl (.c rfl (.c rfl .n))) (.c .h (.c .h .n)) (Dm _ (T.EB i { T.w.AX.at i with on := p }) _ k i hg hb hi (show T.out.length ≤ 100000 by omega)) (fun v1 B hv => ?_)
  obtain ⟨y2, rfl, y3, rfl⟩ := hv
  refine Gn (.nil _) (Ab (AD ?_))
  refine AY rfl .n ?_
  intro w1 hS
  have hS := (hS.perm (Av.perm (.c .h (.c .h .n)))).Ay
  have hq : T.before a i p k = _ := (BB c1)
  refine ⟨_, ⟨?gq1, rfl, ?hl1, ?hB1⟩, hS⟩
  case hB1 => rw [hq]; (try rfl)
  case hl1 => rw [hq]; assumption
 have c1p := kz c1
 refine Aa ?_
 refine AB (.t4 0 2 3 4) ?_
 refine AA (Gs (Gm rfl (Gm rfl (Gm rfl ?_))))
 refine Ag rfl Nu (.c rfl (.c rfl (.c rfl .n))) (.c .h (.c .h .n)) (Dm _ T _ k i hg hb hi (show T.out.length ≤ 100000 by omega)) (fun v4 B hv => ?_)
 obtain ⟨y5, rfl, y6, rfl⟩ := hv
 refine Gn (.t3 0 2 3) (AI (Gm rfl (Gm rfl (Gm rfl (Gt (BS rfl) (Gt (Af A6 rfl) (Gt (Af Cp rfl) ?_)))))))
 refine Gt (AQ Fo rfl rfl (by first | omega | exact hb.1 | exact hb.2 | (dsimp only; omega)) (by first | omega | exact hb.1 | exact hb.2 | (dsimp only; omega))) ?_
 refine Gt (Af Fb rfl) ?_
 refine AR (AK (((Ad.l0.comp AH.l1).comp (AS.ar (n := 9) Ak.fl (by first | omega | exact hb | (dsimp only; omega)))).comp Ak.l4) rfl rfl rfl Jr rfl .h) ?_
 refine AP ?_
 refine Bf rfl .n ?_
 intro w1 hS
 have hS := (hS.perm (Av.perm (.c .h (.c .h .n)))).Ay
 have hq : T.before a i p k = _ := (AU c1)
 refine ⟨_, ⟨?gq2, rfl, ?hl2, ?hB2⟩, hS⟩
 case hB2 => rw [hq]; (try rfl)
 case hl2 => rw [hq]; assumption
theorem Ri (b : Nat) (T : AG) (g : Hd) (o : Order) (hg : g.len = T.out.length) (hF : T.Fit) (hv : 12 ≤ o.verb ∧ o.verb ≤ 17) (hn : T.out.length ≤ 80000) : Eu Tryz.prog 107 #[.pointer (some ⟨b, 0, none⟩), .agg o.enc.toArray] [Ac.box b 163 (Ad.enc ⟨T.w, T.b, g⟩), Ac.own g 56 16 (T.out.flatMap Ing.Event.enc)] (fun w => (GV 0 AH.C4 w ∧ 0 ∉ CW [Ac.box b 163 (Ad.enc ⟨T.w, T.b, g⟩), Ac.own g 56 16 (T.out.flatMap Ing.Event.enc)])) (fun v B => ∃ g' : Hd, v = .tuple #[] ∧ g'.len = (T.set o).out.length ∧ B = [Ac.box b 163 (Ad.enc ⟨(T.set o).w, (T.set o).b, g'⟩), Ac.own g' 56 16 ((T.set o).out.flatMap Ing.Event.enc)]) := by
 intro w hS0 hH
 obtain ⟨gl0, gm0⟩ := hH
 have hb := hF.b
 have hr := hF.room
 have ho9 := T.JX
 have hs9 := T.H0
 refine Aj _ _ Tryz.func107 rfl rfl rfl (hS0) ?_
 refine Gs ?_
 refine Bu rfl rfl rfl (fun b1 => ?_)
 refine Gn (.t2 0 3) (Gs (Gt (Af C1 rfl) (Gt (AF rfl A1 .m0 Order.l0 rfl rfl) (Gt (Ai rfl rfl) (Gm rfl (BW 13 rfl rfl (fun q => Af C1 rfl) (BW 13 rfl rfl (fun q => AF (cF rfl q) A1 .m0 Order.l0 rfl rfl) ?_)))))))
 refine BW 13 rfl rfl (fun q => Ai (cF rfl q) rfl) ?_
 refine Gt (BR rfl rfl (fun h => by rw [h]; rfl)) ?_
 refine Gm rfl (BW 18 rfl rfl (fun q => Af C1 rfl) (BW 18 rfl rfl (fun q => AF (cF rfl q) A1 .m0 Order.l0 rfl rfl) (BW 18 rfl rfl (fun q => Ai (cF rfl q) rfl) ?_)))
 refine Gt (BR rfl rfl (fun h => by rw [h]; rfl)) ?_
 refine Ga rfl (Gn (.t3 0 3 4) (Gs (Ga rfl (Ga rfl (AP (AA ?_))))))
 refine PT (Lm := []) (fun (kd : Int) (ev : Int) => kd = AG.setKind o.verb ∧ ev = AG.TF o.verb) (fun (kd : Int) (ev : Int) => [(5, .int .i64 kd), (6, .int .i64 ev)]) (fun (kd : Int) (ev : Int) => []) (.t3 0 3 4) rfl ?_ (fun kd ev hC => ?_)
 ·
  refine Gs (Gt (Af C1 rfl) (Gt (AF rfl A1 .m0 Order.l0 rfl rfl) (Gn (.t6 0 3 4 5 6 24) (Ae (Gs (Gt (Ai rfl rfl) (Ga rfl ?_)))))))
  refine Gn (.t7 0 3 4 5 6 24 25) ?_
  refine Gc (fun c1 => ?_) (fun c1 => ?_)
  ·
   have c1p := kz c1
   refine AI (Ga rfl ?_)
   refine AP (AB (.t5 0 3 4 5 6) ?_)
   refine AT ?_
   refine EK _ _ ?_ (.t5 5 6 0 3 4) (.refl _)
   · have hv6 : o.verb = 12 ∨ o.verb = 13 ∨ o.verb = 14 ∨ o.verb = 15 ∨ o.verb = 16 ∨ o.verb = 17 := by omega
     rcases hv6 with e | e | e | e | e | e <;> (try rw [e] at c1) <;> first | exact ⟨by rw [e]; rfl, by rw [e]; rfl⟩ | exact absurd c1 (by decide)
  have c1p := kz c1
  refine CA (Gt (Ai rfl rfl) (Ga rfl (Gn (.t7 0 3 4 5 6 24 27) ?_)))
  refine Gc (fun c2 => ?_) (fun c2 => ?_)
  ·
   have c2p := kz c2
   refine Aa (AA ?_)
   refine FM rfl c2 ?_
   refine Gs (Ga rfl (Ga rfl (Gn (.t5 0 3 4 5 6) (Gs (Gm rfl (Gt (BO rfl) (Gn (.t6 0 3 4 5 6 31) ?_)))))))
   refine Gc (fun c3 => ?_) (fun c3 => ?_)
   ·
    have c3p := kz c3
    refine AI (Ga rfl ?_)
    refine AP (AB (.t5 0 3 4 5 6) ?_)
    refine AT ?_
    refine EK _ _ ?_ (.t5 5 6 0 3 4) (.refl _)
    · have hv6 : o.verb = 12 ∨ o.verb = 13 ∨ o.verb = 14 ∨ o.verb = 15 ∨ o.verb = 16 ∨ o.verb = 17 := by omega
      rcases hv6 with e | e | e | e | e | e <;> (try rw [e] at c1) <;> (try rw [e] at c2) <;> (try rw [e] at c3) <;> first | exact ⟨by rw [e]; rfl, by rw [e]; rfl⟩ | exact absurd c1 (by decide) | exact absurd c2 (by decide) | exact absurd c3 (by decide)
   have c3p := kz c3
   refine Aa ?_
   refine AB (.t5 0 3 4 5 6) ?_
   refine AT ?_
   refine EK _ _ ?_ (.t5 5 6 0 3 4) (.refl _)
   · have hv6 : o.verb = 12 ∨ o.verb = 13 ∨ o.verb = 14 ∨ o.verb = 15 ∨ o.verb = 16 ∨ o.verb = 17 := by omega
     rcases hv6 with e | e | e | e | e | e <;> (try rw [e] at c1) <;> (try rw [e] at c2) <;> (try rw [e] at c3) <;> first | exact ⟨by rw [e]; rfl, by rw [e]; rfl⟩ | exact absurd c1 (by decide) | exact absurd c2 (by decide) | exact absurd c3 (by decide)
  have c2p := kz c2
  refine AI (Gt (Ai rfl rfl) (Ga rfl (Gn (.t7 0 3 4 5 6 24 27) ?_)))
  refine Gc (fun c4 => ?_) (fun c4 => ?_)
  ·
   have c4p := kz c4
   refine Gs (Ga rfl (Ga rfl (Gn (.t5 0 3 4 5 6) (Gs (Gm rfl (Gt (BO rfl) (Gn (.t6 0 3 4 5 6 31) ?_)))))))
   refine Gc (fun c5 => ?_) (fun c5 => ?_)
   ·
    have c5p := kz c5
    refine AI (Ga rfl ?_)
    refine AP (AB (.t5 0 3 4 5 6) ?_)
    refine AT ?_
    refine EK _ _ ?_ (.t5 5 6 0 3 4) (.refl _)
    · have hv6 : o.verb = 12 ∨ o.verb = 13 ∨ o.verb = 14 ∨ o.verb = 15 ∨ o.verb = 16 ∨ o.verb = 17 := by omega
      rcases hv6 with e | e | e | e | e | e <;> (try rw [e] at c1) <;> (try rw [e] at c2) <;> (try rw [e] at c4) <;> (try rw [e] at c5) <;> first | exact ⟨by rw [e]; rfl, by rw [e]; rfl⟩ | exact absurd c1 (by decide) | exact absurd c2 (by decide) | exact absurd c4 (by decide) | exact absurd c5 (by decide)
   have c5p := kz c5
   refine Aa ?_
   refine AB (.t5 0 3 4 5 6) ?_
   refine AT ?_
   refine EK _ _ ?_ (.t5 5 6 0 3 4) (.refl _)
   · have hv6 : o.verb = 12 ∨ o.verb = 13 ∨ o.verb = 14 ∨ o.verb = 15 ∨ o.verb = 16 ∨ o.verb = 17 := by omega
     rcases hv6 with e | e | e | e | e | e <;> (try rw [e] at c1) <;> (try rw [e] at c2) <;> (try rw [e] at c4) <;> (try rw [e] at c5) <;> first | exact ⟨by rw [e]; rfl, by rw [e]; rfl⟩ | exact absurd c1 (by decide) | exact absurd c2 (by decide) | exact absurd c4 (by decide) | exact absurd c5 (by decide)
  have c4p := kz c4
  refine CA (Gt (Ai rfl rfl) (Ga rfl (Gn (.t7 0 3 4 5 6 24 32) ?_)))
  refine Gc (fun c6 => ?_) (fun c6 => ?_)
  ·
   have c6p := kz c6
   refine Aa ?_
   refine AB (.t6 0 3 4 5 6 32) ?_
   refine AA ?_
   refine FM rfl c6 ?_
   refine Gs (Ga rfl (Ga rfl (Gn (.t5 0 3 4 5 6) (Gs (Gm rfl (Gt (BO rfl) (Gn (.t6 0 3 4 5 6 36) ?_)))))))
   refine Gc (fun c7 => ?_) (fun c7 => ?_)
   ·
    have c7p := kz c7
    refine AI (Ga rfl ?_)
    refine AP (AB (.t5 0 3 4 5 6) ?_)
    refine AT ?_
    refine EK _ _ ?_ (.t5 5 6 0 3 4) (.refl _)
    · have hv6 : o.verb = 12 ∨ o.verb = 13 ∨ o.verb = 14 ∨ o.verb = 15 ∨ o.verb = 16 ∨ o.verb = 17 := by omega
      rcases hv6 with e | e | e | e | e | e <;> (try rw [e] at c1) <;> (try rw [e] at c2) <;> (try rw [e] at c4) <;> (try rw [e] at c6) <;> (try rw [e] at c7) <;> first | exact ⟨by rw [e]; rfl, by rw [e]; rfl⟩ | exact absurd c1 (by decide) | exact absurd c2 (by decide) | exact absurd c4 (by decide) | exact absurd c6 (by decide) | exact absurd c7 (by decide)
   have c7p := kz c7
   refine Aa ?_
   refine AB (.t5 0 3 4 5 6) ?_
   refine AT ?_
   refine EK _ _ ?_ (.t5 5 6 0 3 4) (.refl _)
   · have hv6 : o.verb = 12 ∨ o.verb = 13 ∨ o.verb = 14 ∨ o.verb = 15 ∨ o.verb = 16 ∨ o.verb = 17 := by omega
     rcases hv6 with e | e | e | e | e | e <;> (try rw [e] at c1) <;> (try rw [e] at c2) <;> (try rw [e] at c4) <;> (try rw [e] at c6) <;> (try rw [e] at c7) <;> first | exact ⟨by rw [e]; rfl, by rw [e]; rfl⟩ | exact absurd c1 (by decide) | exact absurd c2 (by decide) | exact absurd c4 (by decide) | exact absurd c6 (by decide) | exact absurd c7 (by decide)
  have c6p := kz c6
  refine AI (Gt (Ai rfl rfl) (Ga rfl (Gn (.t6 0 3 4 5 6 32) ?_)))
  refine Gc (fun c8 => ?_) (fun c8 => ?_)
  ·
   have c8p := kz c8
   refine Gs (Ga rfl (Ga rfl (Gn (.t5 0 3 4 5 6) (Gs (Gm rfl (Gt (BO rfl) (Gn (.t6 0 3 4 5 6 36) ?_)))))))
   refine Gc (fun c9 => ?_) (fun c9 => ?_)
   ·
    have c9p := kz c9
    refine AI (Ga rfl ?_)
    refine AP (AB (.t5 0 3 4 5 6) ?_)
    refine AT ?_
    refine EK _ _ ?_ (.t5 5 6 0 3 4) (.refl _)
    · have hv6 : o.verb = 12 ∨ o.verb = 13 ∨ o.verb = 14 ∨ o.verb = 15 ∨ o.verb = 16 ∨ o.verb = 17 := by omega
      rcases hv6 with e | e | e | e | e | e <;> (try rw [e] at c1) <;> (try rw [e] at c2) <;> (try rw [e] at c4) <;> (try rw [e] at c6) <;> (try rw [e] at c8) <;> (try rw [e] at c9) <;> first | exact ⟨by rw [e]; rfl, by rw [e]; rfl⟩ | exact absurd c1 (by decide) | exact absurd c2 (by decide) | exact absurd c4 (by decide) | exact absurd c6 (by decide) | exact absurd c8 (by decide) | exact absurd c9 (by decide)
   have c9p := kz c9
   refine Aa ?_
   refine AB (.t5 0 3 4 5 6) ?_
   refine AT ?_
   refine EK _ _ ?_ (.t5 5 6 0 3 4) (.refl _)
   · have hv6 : o.verb = 12 ∨ o.verb = 13 ∨ o.verb = 14 ∨ o.verb = 15 ∨ o.verb = 16 ∨ o.verb = 17 := by omega
     rcases hv6 with e | e | e | e | e | e <;> (try rw [e] at c1) <;> (try rw [e] at c2) <;> (try rw [e] at c4) <;> (try rw [e] at c6) <;> (try rw [e] at c8) <;> (try rw [e] at c9) <;> first | exact ⟨by rw [e]; rfl, by rw [e]; rfl⟩ | exact absurd c1 (by decide) | exact absurd c2 (by decide) | exact absurd c4 (by decide) | exact absurd c6 (by decide) | exact absurd c8 (by decide) | exact absurd c9 (by decide)
  have c8p := kz c8
  refine Aa ?_
  refine AB (.t5 0 3 4 5 6) ?_
  refine AT ?_
  refine EK _ _ ?_ (.t5 5 6 0 3 4) (.refl _)
  · have hv6 : o.verb = 12 ∨ o.verb = 13 ∨ o.verb = 14 ∨ o.verb = 15 ∨ o.verb = 16 ∨ o.verb = 17 := by omega
    rcases hv6 with e | e | e | e | e | e <;> (try rw [e] at c1) <;> (try rw [e] at c2) <;> (try rw [e] at c4) <;> (try rw [e] at c6) <;> (try rw [e] at c8) <;> first | exact ⟨by rw [e]; rfl, by rw [e]; rfl⟩ | exact absurd c1 (by decide) | exact absurd c2 (by decide) | exact absurd c4 (by decide) | exact absurd c6 (by decide) | exact absurd c8 (by decide)
 obtain ⟨rfl, rfl⟩ := hC
 refine CA (Gt (Af FQ rfl) (Gt (AF rfl CB .m0 Order.l3 rfl rfl) ?_))
 refine A8 rfl aB (.c rfl .n) (fun w hS => JO _ w (gl0.stM gm0 hS)) ?_
 refine Gm rfl (Gt (AM rfl rfl) (Gt (AM rfl rfl) (Ga rfl (Ga rfl (Gn (.t7 0 3 4 5 6 7 8) (Gs (Gm rfl ?_)))))))
 refine Gm rfl (BZ 44 rfl rfl (fun q => AE rfl) (BZ 44 rfl rfl (fun q => Ai (BV rfl q) rfl) (Gt (BH rfl rfl (fun h => h)) (Gn (.t7 0 3 4 5 6 7 47) ?_))))
 refine Gc (fun c10 => ?_) (fun c10 => ?_)
 ·
  have c10p := kz c10
  refine Gs (Gm rfl (Gm rfl (Gm rfl (Gm rfl ?_))))
  refine Ag rfl Zk (.c rfl (.c rfl (.c rfl (.c rfl .n)))) (.c (.t .h) (.c (.t .h) .n)) (QN _ T _ _ _ _ hg hF (Words.Xr (Bool.and_eq_true_iff.1 c10).1) (by omega)) (fun v1 B hv => ?_)
  obtain ⟨y2, rfl, y3, rfl⟩ := hv
  refine Gn (.nil _) (Ab (AD ?_))
  refine AY rfl .n ?_
  intro w1 hS
  have hS := (hS.perm (Av.perm (.c .h (.c .h .n)))).Ay
  have hq : T.set o = _ := (BB c10)
  refine ⟨_, ⟨?gq1, rfl, ?hl1, ?hB1⟩, hS⟩
  case hB1 => rw [hq]; (try rfl)
  case hl1 => rw [hq]; assumption
 have c10p := kz c10
 refine Aa ?_
 refine AB (.t5 0 3 4 5 6) ?_
 refine AA (Gs (Gm rfl ?_))
 refine Ag rfl S7 (.c rfl .n) (.c (.t .h) .n) (HS _ T _ hF) (fun v4 B hv => ?_)
 obtain ⟨y5, rfl, y6, rfl⟩ := hv
 refine Ga rfl (Gn (.t6 0 3 4 5 6 9) (CA (Gm rfl (Gt (Ai rfl rfl) (Gn (.t7 0 3 4 5 6 9 56) ?_)))))
 refine Gc (fun c11 => ?_) (fun c11 => ?_)
 ·
  have c11p := kz c11
  refine AI (Gm rfl (Gm rfl ?_))
  refine Ag rfl VZ (.c rfl .n) (.c .h .n) (IZ _ T _ hF) (fun v8 B hv => ?_)
  obtain ⟨y9, rfl, y10, rfl⟩ := hv
  refine CT By rfl Tryz.underlying169 C3 ZG rfl aj (by decide) (by decide) rfl rfl (fun w hS => Src.Dj Tryz.underlying169 ((Kn.own .m1) w hS)) (by (try dsimp only); omega) (fun _ => (.t (.t .h))) (fun h12 h12l h12z => ?_)
  refine Ga rfl (Gn (.t6 0 3 4 5 6 9) (Gs (Gm rfl (Gm rfl (Gt (Af Fx rfl) (Gt (AF rfl A1 .m3 Order.l1 rfl rfl) (Gt (Kg rfl rfl) ?_)))))))
  refine Gt (Af FQ rfl) (Gt (AF rfl CB .m3 Order.l3 rfl rfl) ?_)
  refine Ag rfl Oz (.c rfl (.c rfl (.c rfl (.c rfl (.c rfl .n))))) (.c .h (.c (.t .h) .n)) (En _ T _ _ (T.own ++ T.seen) _ _ _ hF (by rw [List.length_append]; omega) (by rw [List.length_append]; omega) (fun i hi => AG.Py hi)) (fun v13 B hv => ?_)
  obtain ⟨y14, rfl, y15, rfl⟩ := hv
  refine Ga rfl (Gn (.t5 0 4 5 6 9) (Ae (Ao ?_)))
  have hx0 := AG.Q0 (l := (AG.BQ T.w (T.own ++ T.seen) (max o.nth 1) o.name false)) (fun i hi => AG.Py (AG.Ea hi))
  refine BF (N := 18) [0, 1, 3, 7, 15, 15, 47, 111, 31, 287, 799, 2047, 4095, 8191, 15, 32767, 65535, 131071] mix (by kernel_rfl) rfl ?_
  refine Pf 0 rfl (AE rfl) (Pf 1 rfl (Aq rfl Tryz.underlying169 rfl) (Pf 2 rfl (Ai rfl rfl) (Pf 3 rfl (AE rfl) (HA 4 82 rfl rfl rfl (fun q => AE rfl) (HA 5 82 rfl rfl rfl (fun q => AE rfl) ?_)))))
  refine BX 6 rfl rfl (by kernel_rfl) (GU (t := 82) rfl rfl (fun q => by have q1 := q; (try simp at q1); exact IE (Bm F5 (by decide) (Kn.own .m2) (cF rfl q) rfl (by omega) (by first | omega | (simp at q ⊢; omega))))) ?_
  refine BX 7 rfl rfl (by kernel_rfl) (GU (t := 82) rfl rfl (fun q => by have q1 := q; (try simp at q1); exact IE (C6 (cF rfl q) A1 (Kn.own .m2) (by first | omega | (simp at q ⊢; omega))))) ?_
  refine HA 8 82 rfl rfl rfl (fun q => BS (cF rfl q)) (HA 9 82 rfl rfl rfl (fun q => Af A6 (cF rfl q)) (HA 10 82 rfl rfl rfl (fun q => Af Cp (cF rfl q)) ?_))
  refine BX 11 rfl rfl (by kernel_rfl) (GU (t := 82) rfl rfl (fun q => by have q1 := q; (try simp at q1); exact IE (AQ Fo (cF rfl q) (cF rfl q) (by first | omega | exact hb.1 | exact hb.2 | exact hx0.1 | exact hx0.2 | (dsimp only; omega)) (by first | omega | exact hb.1 | exact hb.2 | exact hx0.1 | exact hx0.2 | (dsimp only; omega))))) ?_
  refine HA 12 82 rfl rfl rfl (fun q => Af GO (cF rfl q)) ?_
  refine BX 13 rfl rfl (by kernel_rfl) (GU (t := 82) rfl rfl (fun q => by have q1 := q; (try simp at q1); exact IE (AF (cF rfl q) A1 .m0 (((Ad.l0.comp AH.l1).comp (AS.ar (n := 9) Ak.fl (by first | omega | exact hb | exact hx0 | (dsimp only; omega)))).comp Ak.l1) rfl rfl))) ?_
  refine HA 14 82 rfl rfl rfl (fun q => AE rfl) (HA 15 82 rfl rfl rfl (fun q => CK (cF rfl q) (cF rfl q)) ?_)
  refine Pf 16 rfl (BR rfl rfl (fun h => by rw [h]; rfl)) ?_
  refine Pf 17 rfl (Az rfl) ?_
  refine A2 (by kernel_rfl) ?_
  refine AB (.t6 0 4 5 6 9 78) ?_
  refine AA ?_
  refine Gc (fun c12 => ?_) (fun c12 => ?_)
  ·
   have c12p := kz c12
   rw [y15] at c12 c12p
   have hsl : T.E3 o = (AG.BQ T.w (T.own ++ T.seen) (max o.nth 1) o.name false) := congrArg (fun q => AG.BQ T.w q _ _ _) (BB c11)
   refine AI (Gm rfl ?_)
   refine Ag rfl Dx (.c rfl (.c rfl .n)) (.c .h (.c (.t (.t (.t (.t .h)))) .n)) (Bb _ _ _ _ hg hb (by omega)) (fun v17 B hv => ?_)
   obtain ⟨y18, rfl, y19, rfl⟩ := hv
   refine AP (AB (.nil _) ?_)
   refine AT ?_
   refine Bf rfl .n ?_
   intro w1 hS
   have hS := (hS.perm (Av.perm (.c .h (.c .h .n)))).Ay
   have d0 : (decide (((T.E3 o).length : Int) = 0) || !decide ((T.w.AX.at ((T.E3 o).getD 0 0)).kind = AG.setKind o.verb)) = true := by rw [hsl]; exact c12
   have hq : T.set o = _ := (AU c10).trans (BB d0)
   (try rw [hsl] at hq)
   refine ⟨_, ⟨?gq2, rfl, ?hl2, ?hB2⟩, hS⟩
   case hB2 => rw [hq]; (try rfl)
   case hl2 => rw [hq]; assumption
  have c12p := kz c12
  rw [y15] at c12 c12p
  have hsl : T.E3 o = (AG.BQ T.w (T.own ++ T.seen) (max o.nth 1) o.name false) := congrArg (fun q => AG.BQ T.w q _ _ _) (BB c11)
  refine Ao ?_
  refine BF (N := 13) [0, 0, 2, 6, 1, 17, 49, 127, 255, 511, 0, 2047, 4095] mix (by kernel_rfl) rfl ?_
  refine Pf 0 rfl (AE rfl) (Pf 1 rfl (AE rfl) ?_)
  refine Pf 2 rfl (Bm F5 (by decide) (Kn.own .m2) rfl rfl (by omega) (by first | omega | (simp at q ⊢; omega))) ?_
  refine Pf 3 rfl (C6 rfl A1 (Kn.own .m2) (by first | omega | (simp at q ⊢; omega))) ?_
  refine Pf 4 rfl (BS rfl) (Pf 5 rfl (Af A6 rfl) (Pf 6 rfl (Af Cp rfl) ?_))
  refine Pf 7 rfl (AQ Fo rfl rfl (by first | omega | exact hb.1 | exact hb.2 | exact hx0.1 | exact hx0.2 | (dsimp only; omega)) (by first | omega | exact hb.1 | exact hb.2 | exact hx0.1 | exact hx0.2 | (dsimp only; omega))) ?_
  refine Pf 8 rfl (Af Fb rfl) ?_
  refine Pf 9 rfl (AF rfl Ct .m0 (((Ad.l0.comp AH.l1).comp (AS.ar (n := 9) Ak.fl (by first | omega | exact hb | exact hx0 | (dsimp only; omega)))).comp Ak.l4) rfl rfl) ?_
  refine Pf 10 rfl (AE rfl) (Pf 11 rfl (ES Tryz.underlying4 rfl rfl) (Pf 12 rfl (Az rfl) ?_))
  refine A2 (by kernel_rfl) ?_
  refine AB (.t6 0 4 5 6 9 98) ?_
  refine AA ?_
  refine Gc (fun c13 => ?_) (fun c13 => ?_)
  ·
   have c13p := kz c13
   refine AI (Gm rfl ?_)
   refine Ag rfl Dx (.c rfl (.c rfl .n)) (.c .h (.c (.t (.t (.t (.t .h)))) .n)) (Bb _ _ _ _ hg hb (by omega)) (fun v20 B hv => ?_)
   obtain ⟨y21, rfl, y22, rfl⟩ := hv
   refine AP (AB (.nil _) ?_)
   refine AT ?_
   refine Bf rfl .n ?_
   intro w1 hS
   have hS := (hS.perm (Av.perm (.c .h (.c .h .n)))).Ay
   have d0 : (decide (((T.E3 o).length : Int) = 0) || !decide ((T.w.AX.at ((T.E3 o).getD 0 0)).kind = AG.setKind o.verb)) = false := by rw [hsl]; exact c12
   have d1 : ((T.w.AX.at ((T.E3 o).getD 0 0)).on == AG.Gw o.verb) = true := by rw [hsl]; exact c13
   have hq : T.set o = _ := (AU c10).trans ((AU d0).trans (BB d1))
   (try rw [hsl] at hq)
   refine ⟨_, ⟨?gq3, rfl, ?hl3, ?hB3⟩, hS⟩
   case hB3 => rw [hq]; (try rfl)
   case hl3 => rw [hq]; assumption
  have c13p := kz c13
  refine Gs (Gm rfl (Ga rfl (Gn (.t6 0 4 5 6 9 113) ?_)))
  refine Gc (fun c14 => ?_) (fun c14 => ?_)
  ·
   have c14p := kz c14
   refine AI (Gm rfl (Gm rfl (Gt (CK rfl rfl) (Gm rfl ?_))))
   refine Gt (Bm F5 (by decide) (Kn.own .m2) rfl rfl (by omega) (by first | omega | (simp at q ⊢; omega))) ?_
   refine Gt (C6 rfl A1 (Kn.own .m2) (by first | omega | (simp at q ⊢; omega))) ?_
   refine Gm rfl (Gm rfl ?_)
   refine Ag rfl S2 (.c rfl (.c rfl (.c rfl (.c rfl (.c rfl .n))))) (.c .h (.c (.t (.t (.t (.t .h)))) .n)) (FJ _ T _ (!decide (AG.setKind o.verb = 2)) ((AG.BQ T.w (T.own ++ T.seen) (max o.nth 1) o.name false).getD (0 : Int).toNat 0) _ _ hg hb hx0 (by omega)) (fun v23 B hv => ?_)
   obtain ⟨y24, rfl, y25, rfl⟩ := hv
   refine AP (AB (.nil _) ?_)
   refine AT ?_
   refine Bf rfl .n ?_
   intro w1 hS
   have hS := (hS.perm (Av.perm (.c .h (.c .h .n)))).Ay
   have d0 : (decide (((T.E3 o).length : Int) = 0) || !decide ((T.w.AX.at ((T.E3 o).getD 0 0)).kind = AG.setKind o.verb)) = false := by rw [hsl]; exact c12
   have d1 : ((T.w.AX.at ((T.E3 o).getD 0 0)).on == AG.Gw o.verb) = false := by rw [hsl]; exact c13
   have d2 : AG.Gw o.verb = true := c14
   have hq : T.set o = _ := (AU c10).trans ((AU d0).trans ((AU d1).trans (BB d2)))
   (try rw [hsl] at hq)
   refine ⟨_, ⟨?gq4, rfl, ?hl4, ?hB4⟩, hS⟩
   case hB4 => rw [hq]; (try rfl)
   case hl4 => rw [hq]; assumption
  have c14p := kz c14
  refine AI (Gm rfl (Gm rfl (Gt (Ai rfl rfl) (Gm rfl ?_))))
  refine Gt (Bm F5 (by decide) (Kn.own .m2) rfl rfl (by omega) (by first | omega | (simp at q ⊢; omega))) ?_
  refine Gt (C6 rfl A1 (Kn.own .m2) (by first | omega | (simp at q ⊢; omega))) ?_
  refine Gm rfl (Gm rfl ?_)
  refine Ag rfl S2 (.c rfl (.c rfl (.c rfl (.c rfl (.c rfl .n))))) (.c .h (.c (.t (.t (.t (.t .h)))) .n)) (FJ _ T _ (decide (AG.setKind o.verb = 2)) ((AG.BQ T.w (T.own ++ T.seen) (max o.nth 1) o.name false).getD (0 : Int).toNat 0) _ _ hg hb hx0 (by omega)) (fun v26 B hv => ?_)
  obtain ⟨y27, rfl, y28, rfl⟩ := hv
  refine AP (AB (.nil _) ?_)
  refine AT ?_
  refine Bf rfl .n ?_
  intro w1 hS
  have hS := (hS.perm (Av.perm (.c .h (.c .h .n)))).Ay
  have d0 : (decide (((T.E3 o).length : Int) = 0) || !decide ((T.w.AX.at ((T.E3 o).getD 0 0)).kind = AG.setKind o.verb)) = false := by rw [hsl]; exact c12
  have d1 : ((T.w.AX.at ((T.E3 o).getD 0 0)).on == AG.Gw o.verb) = false := by rw [hsl]; exact c13
  have d2 : AG.Gw o.verb = false := c14
  have hq : T.set o = _ := (AU c10).trans ((AU d0).trans ((AU d1).trans (AU d2)))
  (try rw [hsl] at hq)
  refine ⟨_, ⟨?gq5, rfl, ?hl5, ?hB5⟩, hS⟩
  case hB5 => rw [hq]; (try rfl)
  case hl5 => rw [hq]; assumption
 have c11p := kz c11
 refine Aa ?_
 refine AB (.t6 0 3 4 5 6 9) ?_
 refine AA (Gs (Gm rfl (Gm rfl (Gt (Af Fx rfl) (Gt (AF rfl A1 .m2 Order.l1 rfl rfl) (Gt (Kg rfl rfl) (Gt (Af FQ rfl) ?_)))))))
 refine Gt (AF rfl CB .m2 Order.l3 rfl rfl) ?_
 refine Ag rfl Oz (.c rfl (.c rfl (.c rfl (.c rfl (.c rfl .n))))) (.c .h (.c .h .n)) (En _ T _ _ T.own _ _ _ hF (by assumption) (by omega) (fun i hi => AG.Ks hi)) (fun v29 B hv => ?_)
 obtain ⟨y30, rfl, y31, rfl⟩ := hv
 refine Ga rfl (Gn (.t5 0 4 5 6 9) (Ae (Ao ?_)))
 have hx0 := AG.Q0 (l := (AG.BQ T.w T.own (max o.nth 1) o.name false)) (fun i hi => AG.Ks (AG.Ea hi))
 refine BF (N := 18) [0, 1, 3, 7, 15, 15, 47, 111, 31, 287, 799, 2047, 4095, 8191, 15, 32767, 65535, 131071] mix (by kernel_rfl) rfl ?_
 refine Pf 0 rfl (AE rfl) (Pf 1 rfl (Aq rfl Tryz.underlying169 rfl) (Pf 2 rfl (Ai rfl rfl) (Pf 3 rfl (AE rfl) (HA 4 82 rfl rfl rfl (fun q => AE rfl) (HA 5 82 rfl rfl rfl (fun q => AE rfl) ?_)))))
 refine BX 6 rfl rfl (by kernel_rfl) (GU (t := 82) rfl rfl (fun q => by have q1 := q; (try simp at q1); exact IE (Bm F5 (by decide) (Kn.own .m2) (cF rfl q) rfl (by omega) (by first | omega | (simp at q ⊢; omega))))) ?_
 refine BX 7 rfl rfl (by kernel_rfl) (GU (t := 82) rfl rfl (fun q => by have q1 := q; (try simp at q1); exact IE (C6 (cF rfl q) A1 (Kn.own .m2) (by first | omega | (simp at q ⊢; omega))))) ?_
 refine HA 8 82 rfl rfl rfl (fun q => BS (cF rfl q)) (HA 9 82 rfl rfl rfl (fun q => Af A6 (cF rfl q)) (HA 10 82 rfl rfl rfl (fun q => Af Cp (cF rfl q)) ?_))
 refine BX 11 rfl rfl (by kernel_rfl) (GU (t := 82) rfl rfl (fun q => by have q1 := q; (try simp at q1); exact IE (AQ Fo (cF rfl q) (cF rfl q) (by first | omega | exact hb.1 | exact hb.2 | exact hx0.1 | exact hx0.2 | (dsimp only; omega)) (by first | omega | exact hb.1 | exact hb.2 | exact hx0.1 | exact hx0.2 | (dsimp only; omega))))) ?_
 refine HA 12 82 rfl rfl rfl (fun q => Af GO (cF rfl q)) ?_
 refine BX 13 rfl rfl (by kernel_rfl) (GU (t := 82) rfl rfl (fun q => by have q1 := q; (try simp at q1); exact IE (AF (cF rfl q) A1 .m0 (((Ad.l0.comp AH.l1).comp (AS.ar (n := 9) Ak.fl (by first | omega | exact hb | exact hx0 | (dsimp only; omega)))).comp Ak.l1) rfl rfl))) ?_
 refine HA 14 82 rfl rfl rfl (fun q => AE rfl) (HA 15 82 rfl rfl rfl (fun q => CK (cF rfl q) (cF rfl q)) ?_)
 refine Pf 16 rfl (BR rfl rfl (fun h => by rw [h]; rfl)) ?_
 refine Pf 17 rfl (Az rfl) ?_
 refine A2 (by kernel_rfl) ?_
 refine AB (.t6 0 4 5 6 9 78) ?_
 refine AA ?_
 refine Gc (fun c15 => ?_) (fun c15 => ?_)
 ·
  have c15p := kz c15
  rw [y31] at c15 c15p
  have hsl : T.E3 o = (AG.BQ T.w T.own (max o.nth 1) o.name false) := congrArg (fun q => AG.BQ T.w q _ _ _) (AU c11)
  refine AI (Gm rfl ?_)
  refine Ag rfl Dx (.c rfl (.c rfl .n)) (.c .h (.c (.t (.t (.t .h))) .n)) (Bb _ _ _ _ hg hb (by omega)) (fun v33 B hv => ?_)
  obtain ⟨y34, rfl, y35, rfl⟩ := hv
  refine AP (AB (.nil _) ?_)
  refine AT ?_
  refine Bf rfl .n ?_
  intro w1 hS
  have hS := (hS.perm (Av.perm (.c .h (.c .h .n)))).Ay
  have d0 : (decide (((T.E3 o).length : Int) = 0) || !decide ((T.w.AX.at ((T.E3 o).getD 0 0)).kind = AG.setKind o.verb)) = true := by rw [hsl]; exact c15
  have hq : T.set o = _ := (AU c10).trans (BB d0)
  (try rw [hsl] at hq)
  refine ⟨_, ⟨?gq6, rfl, ?hl6, ?hB6⟩, hS⟩
  case hB6 => rw [hq]; (try rfl)
  case hl6 => rw [hq]; assumption
 have c15p := kz c15
 rw [y31] at c15 c15p
 have hsl : T.E3 o = (AG.BQ T.w T.own (max o.nth 1) o.name false) := congrArg (fun q => AG.BQ T.w q _ _ _) (AU c11)
 refine Ao ?_
 refine BF (N := 13) [0, 0, 2, 6, 1, 17, 49, 127, 255, 511, 0, 2047, 4095] mix (by kernel_rfl) rfl ?_
 refine Pf 0 rfl (AE rfl) (Pf 1 rfl (AE rfl) ?_)
 refine Pf 2 rfl (Bm F5 (by decide) (Kn.own .m2) rfl rfl (by omega) (by first | omega | (simp at q ⊢; omega))) ?_
 refine Pf 3 rfl (C6 rfl A1 (Kn.own .m2) (by first | omega | (simp at q ⊢; omega))) ?_
 refine Pf 4 rfl (BS rfl) (Pf 5 rfl (Af A6 rfl) (Pf 6 rfl (Af Cp rfl) ?_))
 refine Pf 7 rfl (AQ Fo rfl rfl (by first | omega | exact hb.1 | exact hb.2 | exact hx0.1 | exact hx0.2 | (dsimp only; omega)) (by first | omega | exact hb.1 | exact hb.2 | exact hx0.1 | exact hx0.2 | (dsimp only; omega))) ?_
 refine Pf 8 rfl (Af Fb rfl) ?_
 refine Pf 9 rfl (AF rfl Ct .m0 (((Ad.l0.comp AH.l1).comp (AS.ar (n := 9) Ak.fl (by first | omega | exact hb | exact hx0 | (dsimp only; omega)))).comp Ak.l4) rfl rfl) ?_
 refine Pf 10 rfl (AE rfl) (Pf 11 rfl (ES Tryz.underlying4 rfl rfl) (Pf 12 rfl (Az rfl) ?_))
 refine A2 (by kernel_rfl) ?_
 refine AB (.t6 0 4 5 6 9 98) ?_
 refine AA ?_
 refine Gc (fun c16 => ?_) (fun c16 => ?_)
 ·
  have c16p := kz c16
  refine AI (Gm rfl ?_)
  refine Ag rfl Dx (.c rfl (.c rfl .n)) (.c .h (.c (.t (.t (.t .h))) .n)) (Bb _ _ _ _ hg hb (by omega)) (fun v36 B hv => ?_)
  obtain ⟨y37, rfl, y38, rfl⟩ := hv
  refine AP (AB (.nil _) ?_)
  refine AT ?_
  refine Bf rfl .n ?_
  intro w1 hS
  have hS := (hS.perm (Av.perm (.c .h (.c .h .n)))).Ay
  have d0 : (decide (((T.E3 o).length : Int) = 0) || !decide ((T.w.AX.at ((T.E3 o).getD 0 0)).kind = AG.setKind o.verb)) = false := by rw [hsl]; exact c15
  have d1 : ((T.w.AX.at ((T.E3 o).getD 0 0)).on == AG.Gw o.verb) = true := by rw [hsl]; exact c16
  have hq : T.set o = _ := (AU c10).trans ((AU d0).trans (BB d1))
  (try rw [hsl] at hq)
  refine ⟨_, ⟨?gq7, rfl, ?hl7, ?hB7⟩, hS⟩
  case hB7 => rw [hq]; (try rfl)
  case hl7 => rw [hq]; assumption
 have c16p := kz c16
 refine Gs (Gm rfl (Ga rfl (Gn (.t6 0 4 5 6 9 113) ?_)))
 refine Gc (fun c17 => ?_) (fun c17 => ?_)
 ·
  have c17p := kz c17
  refine AI (Gm rfl (Gm rfl (Gt (CK rfl rfl) (Gm rfl ?_))))
  refine Gt (Bm F5 (by decide) (Kn.own .m2) rfl rfl (by omega) (by first | omega | (simp at q ⊢; omega))) ?_
  refine Gt (C6 rfl A1 (Kn.own .m2) (by first | omega | (simp at q ⊢; omega))) ?_
  refine Gm rfl (Gm rfl ?_)
  refine Ag rfl S2 (.c rfl (.c rfl (.c rfl (.c rfl (.c rfl .n))))) (.c .h (.c (.t (.t (.t .h))) .n)) (FJ _ T _ (!decide (AG.setKind o.verb = 2)) ((AG.BQ T.w T.own (max o.nth 1) o.name false).getD (0 : Int).toNat 0) _ _ hg hb hx0 (by omega)) (fun v39 B hv => ?_)
  obtain ⟨y40, rfl, y41, rfl⟩ := hv
  refine AP (AB (.nil _) ?_)
  refine AT ?_
  refine Bf rfl .n ?_
  intro w1 hS
  have hS := (hS.perm (Av.perm (.c .h (.c .h .n)))).Ay
  have d0 : (decide (((T.E3 o).length : Int) = 0) || !decide ((T.w.AX.at ((T.E3 o).getD 0 0)).kind = AG.setKind o.verb)) = false := by rw [hsl]; exact c15
  have d1 : ((T.w.AX.at ((T.E3 o).getD 0 0)).on == AG.Gw o.verb) = false := by rw [hsl]; exact c16
  have d2 : AG.Gw o.verb = true := c17
  have hq : T.set o = _ := (AU c10).trans ((AU d0).trans ((AU d1).trans (BB d2)))
  (try rw [hsl] at hq)
  refine ⟨_, ⟨?gq8, rfl, ?hl8, ?hB8⟩, hS⟩
  case hB8 => rw [hq]; (try rfl)
  case hl8 => rw [hq]; assumption
 have c17p := kz c17
 refine AI (Gm rfl (Gm rfl (Gt (Ai rfl rfl) (Gm rfl ?_))))
 refine Gt (Bm F5 (by decide) (Kn.own .m2) rfl rfl (by omega) (by first | omega | (simp at q ⊢; omega))) ?_
 refine Gt (C6 rfl A1 (Kn.own .m2) (by first | omega | (simp at q ⊢; omega))) ?_
 refine Gm rfl (Gm rfl ?_)
 refine Ag rfl S2 (.c rfl (.c rfl (.c rfl (.c rfl (.c rfl .n))))) (.c .h (.c (.t (.t (.t .h))) .n)) (FJ _ T _ (decide (AG.setKind o.verb = 2)) ((AG.BQ T.w T.own (max o.nth 1) o.name false).getD (0 : Int).toNat 0) _ _ hg hb hx0 (by omega)) (fun v42 B hv => ?_)
 obtain ⟨y43, rfl, y44, rfl⟩ := hv
 refine AP (AB (.nil _) ?_)
 refine AT ?_
 refine Bf rfl .n ?_
 intro w1 hS
 have hS := (hS.perm (Av.perm (.c .h (.c .h .n)))).Ay
 have d0 : (decide (((T.E3 o).length : Int) = 0) || !decide ((T.w.AX.at ((T.E3 o).getD 0 0)).kind = AG.setKind o.verb)) = false := by rw [hsl]; exact c15
 have d1 : ((T.w.AX.at ((T.E3 o).getD 0 0)).on == AG.Gw o.verb) = false := by rw [hsl]; exact c16
 have d2 : AG.Gw o.verb = false := c17
 have hq : T.set o = _ := (AU c10).trans ((AU d0).trans ((AU d1).trans (AU d2)))
 (try rw [hsl] at hq)
 refine ⟨_, ⟨?gq9, rfl, ?hl9, ?hB9⟩, hS⟩
 case hB9 => rw [hq]; (try rfl)
 case hl9 => rw [hq]; assumption
theorem Fw (X : AH) (b : Int) (o : Order) (hw : X.Dz) (hu : o.second.length ≤ 5000000) (hm : o.name.length ≤ 5000000) : Eu Tryz.prog 84 #[.agg X.enc.toArray, .int .i64 b, .agg o.enc.toArray] [] (fun w => (GV 0 AH.C4 w ∧ 0 ∉ CW []) ∧ (GG 7 w ∧ 7 ∉ CW []) ∧ (GG 8 w ∧ 8 ∉ CW [])) (fun v B => ∃ h : Hd, v = .tuple #[.agg ((AG.Ff X b o).1.enc).toArray, h.val, .int .i64 (AG.Ff X b o).2.2] ∧ h.len = (AG.Ff X b o).2.1.length ∧ B = [Ac.own h 56 16 ((AG.Ff X b o).2.1.flatMap Ing.Event.enc)]) := by
 intro w hS0 hH
 obtain ⟨⟨gl0, gm0⟩, ⟨gl1, gm1⟩, ⟨gl2, gm2⟩⟩ := hH
 refine Aj _ _ Tryz.func84 rfl rfl rfl (hS0) ?_
 refine Gs ?_
 refine Bu rfl rfl rfl (fun b1 => ?_)
 refine Bu rfl rfl rfl (fun b2 => ?_)
 refine BG rfl Li rfl (fun b3 => ?_)
 refine Ga rfl (Ga rfl (Gn (.t4 1 3 5 6) (Ao (Ae (Gs (Gt (AZ rfl BT .m2 (AS.id AH.fl.len AH.fl.one) rfl) ?_))))))
 refine A8 rfl Yq (.c rfl .n) (fun w hS => G3 _ w) ?_
 refine Gt (BO rfl) (Ga rfl (Gn (.t5 1 3 5 6 10) ?_))
 refine Gc (fun c1 => ?_) (fun c1 => ?_)
 ·
  refine Gs (Gt (AZ rfl BT .m2 (AS.id AH.fl.len AH.fl.one) rfl) ?_)
  refine AR (AK (AS.id AH.fl.len AH.fl.one) rfl rfl rfl Dt rfl .h) ?_
  refine Ga rfl (Ga rfl (Gn (.t3 6 7 8) (Ab (AO (AD ?_)))))
  refine AY rfl (.cell rfl .m0 (.inl ⟨(by rw [AH.fl.len]; exact BT), rfl⟩) (.tmp rfl (.tmp rfl .n))) ?_
  intro w1 hS
  have hS := hS.Cj 56 16
  have hS := (hS.perm (Av.perm (.c .h .n))).Ay
  have hq : AG.Ff X b o = _ := (BB c1)
  refine ⟨_, ⟨⟨none, 0, 0⟩, ?hv1, ?hl1, ?hB1⟩, hS⟩
  case hv1 => rw [hq]; rfl
  case hl1 => rw [hq]; rfl
  case hB1 => rw [hq]; rfl
 have c1p := kz c1
 refine Gs (Gm rfl (Gt (A5 rfl rfl) (Gm rfl (BW 18 rfl rfl (fun q => AE rfl) (BW 18 rfl rfl (fun q => CH (cF rfl q) rfl) ?_)))))
 refine Gt (BR rfl rfl (fun h => by rw [h]; rfl)) ?_
 refine Gm rfl (BW 22 rfl rfl (fun q => AE rfl) (BW 22 rfl rfl (fun q => Af Bi rfl) ?_))
 refine BW 22 rfl rfl (fun q => by have q1 := q; (try simp at q1); exact AQ Cy (cF rfl q) (cF rfl q) (by first | omega | exact hb.1 | exact hb.2 | (dsimp only; omega)) (by first | omega | exact hb.1 | exact hb.2 | (dsimp only; omega))) ?_
 refine BW 22 rfl rfl (fun q => Af Hg (cF rfl q)) ?_
 refine BW 22 rfl rfl (fun q => by have q1 := q; (try simp at q1); exact AF (cF rfl q) Ct .m2 ((AH.l2.comp (AS.ar (n := 6) Al.fl (by first | omega | exact hb | (dsimp only; omega)))).comp Al.l1) rfl rfl) ?_
 refine BW 22 rfl rfl (fun q => BO (cF rfl q)) ?_
 refine Gt (BR rfl rfl (fun h => by rw [h]; rfl)) ?_
 refine Ga rfl (Gn (.t5 1 3 5 6 15) ?_)
 refine Gc (fun c2 => ?_) (fun c2 => ?_)
 ·
  refine Gs (Gt (AZ rfl BT .m2 (AS.id AH.fl.len AH.fl.one) rfl) ?_)
  refine AR (AK (AS.id AH.fl.len AH.fl.one) rfl rfl rfl Dt rfl .h) ?_
  refine Ga rfl (Ga rfl (Gn (.t3 6 7 8) (Ab (AO (AD ?_)))))
  refine AY rfl (.cell rfl .m0 (.inl ⟨(by rw [AH.fl.len]; exact BT), rfl⟩) (.tmp rfl (.tmp rfl .n))) ?_
  intro w1 hS
  have hS := hS.Cj 56 16
  have hS := (hS.perm (Av.perm (.c .h .n))).Ay
  have hq : AG.Ff X b o = _ := ((AU c1).trans (BB c2))
  refine ⟨_, ⟨⟨none, 0, 0⟩, ?hv2, ?hl2, ?hB2⟩, hS⟩
  case hv2 => rw [hq]; rfl
  case hl2 => rw [hq]; rfl
  case hB2 => rw [hq]; rfl
 have c2p := kz c2
 refine Gs (Gt (Af C1 rfl) (Gt (AF rfl A1 .m1 Order.l0 rfl rfl) (Gt (A5 rfl rfl) (Gm rfl (BW 35 rfl rfl (fun q => Af C1 rfl) (BW 35 rfl rfl (fun q => AF (cF rfl q) A1 .m1 Order.l0 rfl rfl) (BW 35 rfl rfl (fun q => Cd (cF rfl q) rfl) ?_)))))))
 refine Gt (BR rfl rfl (fun h => by rw [h]; rfl)) ?_
 refine Ga rfl (Gn (.t5 1 3 5 6 31) ?_)
 refine Gc (fun c3 => ?_) (fun c3 => ?_)
 ·
  refine Gs (Gt (AZ rfl BT .m2 (AS.id AH.fl.len AH.fl.one) rfl) ?_)
  refine AR (AK (AS.id AH.fl.len AH.fl.one) rfl rfl rfl Dt rfl .h) ?_
  refine Ga rfl (Ga rfl (Gn (.t3 6 7 8) (Ab (AO (AD ?_)))))
  refine AY rfl (.cell rfl .m0 (.inl ⟨(by rw [AH.fl.len]; exact BT), rfl⟩) (.tmp rfl (.tmp rfl .n))) ?_
  intro w1 hS
  have hS := hS.Cj 56 16
  have hS := (hS.perm (Av.perm (.c .h .n))).Ay
  have hq : AG.Ff X b o = _ := ((AU c1).trans ((AU c2).trans (BB c3)))
  refine ⟨_, ⟨⟨none, 0, 0⟩, ?hv3, ?hl3, ?hB3⟩, hS⟩
  case hv3 => rw [hq]; rfl
  case hl3 => rw [hq]; rfl
  case hB3 => rw [hq]; rfl
 have c3p := kz c3
 have hF := AG.Uc hw c1 c2
 have hb := hF.b
 refine Aa ?_
 refine AB (.t4 1 3 5 6) ?_
 refine AT (AA (Gs (Gt (AZ rfl BT .m2 (AS.id AH.fl.len AH.fl.one) rfl) (Gm rfl (Gt (A9 TL TV rfl (.cons Ad.l0 rfl rfl rfl (.cons Ad.l1 rfl rfl rfl .nil))) ?_)))))
 refine Bu rfl rfl rfl (fun b4 => ?_)
 refine Ga rfl (Gn (.t4 1 5 6 9) (Ao (Ae (Gs (Gt (Af C1 rfl) (Gt (AF rfl A1 .m2 Order.l0 rfl rfl) (Gt (A5 rfl rfl) ?_)))))))
 refine Ga rfl (Gn (.t5 1 5 6 9 48) ?_)
 refine Gc (fun c4 => ?_) (fun c4 => ?_)
 ·
  have c4p := kz c4
  refine AI (Gm rfl (Gt (Af C1 rfl) (Gt (AF rfl A1 .m2 Order.l0 rfl rfl) ?_)))
  refine DI Ing.Event.enc 56 16 ?_
  refine BD rfl bo (.c rfl (.c rfl .n)) (.c (.t .h) (.c .h .n)) (QD _ (⟨X, b, []⟩ : AG) _ o.verb rfl hF (by omega) (Nat.zero_le _)) (fun w hS => gl0.pull gm0 hS (.c (.t .h) (.c .h .n))) (fun v5 B hv => ?_)
  obtain ⟨y6, rfl, y7, rfl⟩ := hv
  refine AP (AB (.t2 6 9) ?_)
  refine AT (AA (Ao ?_))
  refine BF (N := 11) [0, 1, 3, 7, 0, 16, 48, 112, 15, 511, 1023] mix (by kernel_rfl) rfl ?_
  refine Pf 0 rfl (AE rfl) (Pf 1 rfl (BS rfl) (Pf 2 rfl (Af A6 rfl) (Pf 3 rfl (AZ rfl BT .m0 Ad.l0 rfl) (Pf 4 rfl (AE rfl) (Pf 5 rfl (BS rfl) (Pf 6 rfl (Af CG rfl) (Pf 7 rfl (AF rfl DZ .m0 Ad.l2 rfl rfl) ?_)))))))
  refine An 8 rfl (by kernel_rfl) ?_
  refine AR (AK (AS.id AH.fl.len AH.fl.one) rfl rfl rfl Dt rfl (.t (.t .h))) ?_
  refine BK rfl ⟨?_, ?_⟩
  · exact (Po rfl (AF rfl DZ .m0 Ad.l2 rfl rfl) rfl rfl (Po rfl (Af CG rfl) rfl rfl (Po rfl (BS rfl) rfl rfl (Po rfl (AE rfl) rfl rfl (Pk (Pk (Pk (Pk Au))))))))
  refine Pf 9 rfl (Az rfl) (Pf 10 rfl (Az rfl) ?_)
  refine A2 (by kernel_rfl) ?_
  refine AB (.t3 6 7 8) ?_
  refine AA (Ab ?_)
  refine AY rfl (.cell rfl .m2 (.inl ⟨(by rw [AH.fl.len]; exact BT), rfl⟩) (.tmp rfl (.tmp rfl .n))) ?_
  intro w1 hS
  have hS := (hS.perm (Av.perm (.c (.t .h) .n))).Ay
  have ha : AG.act (⟨X, b, []⟩ : AG) o = _ := (BB c4)
  have hq : AG.Ff X b o = ((AG.act (⟨X, b, []⟩ : AG) o).w, (AG.act (⟨X, b, []⟩ : AG) o).out, 0) := ((AU c1).trans ((AU c2).trans (AU c3)))
  rw [ha] at hq
  refine ⟨_, ⟨?gq4, ?hv4, ?hl4, ?hB4⟩, hS⟩
  case hB4 => rw [hq]; (try rfl)
  case hv4 => rw [hq]; (try rfl)
  case hl4 => rw [hq]; (try dsimp only); exact y7
 have c4p := kz c4
 refine Gs (Gt (Af C1 rfl) (Gt (AF rfl A1 .m2 Order.l0 rfl rfl) (Gt (Ai rfl rfl) (Ga rfl (Gn (.t5 1 5 6 9 56) ?_)))))
 refine Gc (fun c5 => ?_) (fun c5 => ?_)
 ·
  refine AI (Gm rfl ?_)
  refine DI Ing.Event.enc 56 16 ?_
  refine BD rfl Td (.c rfl .n) (.c (.t .h) (.c .h .n)) (Gh _ (⟨X, b, []⟩ : AG) _ rfl hF.b hF.br (Nat.zero_le _)) (fun w hS => gl0.pull gm0 hS (.c (.t .h) (.c .h .n))) (fun v9 B hv => ?_)
  obtain ⟨y10, rfl, y11, rfl⟩ := hv
  refine AP (AB (.t2 6 9) ?_)
  refine AT (AA (Ao ?_))
  refine BF (N := 11) [0, 1, 3, 7, 0, 16, 48, 112, 15, 511, 1023] mix (by kernel_rfl) rfl ?_
  refine Pf 0 rfl (AE rfl) (Pf 1 rfl (BS rfl) (Pf 2 rfl (Af A6 rfl) (Pf 3 rfl (AZ rfl BT .m0 Ad.l0 rfl) (Pf 4 rfl (AE rfl) (Pf 5 rfl (BS rfl) (Pf 6 rfl (Af CG rfl) (Pf 7 rfl (AF rfl DZ .m0 Ad.l2 rfl rfl) ?_)))))))
  refine An 8 rfl (by kernel_rfl) ?_
  refine AR (AK (AS.id AH.fl.len AH.fl.one) rfl rfl rfl Dt rfl (.t (.t .h))) ?_
  refine BK rfl ⟨?_, ?_⟩
  · exact (Po rfl (AF rfl DZ .m0 Ad.l2 rfl rfl) rfl rfl (Po rfl (Af CG rfl) rfl rfl (Po rfl (BS rfl) rfl rfl (Po rfl (AE rfl) rfl rfl (Pk (Pk (Pk (Pk Au))))))))
  refine Pf 9 rfl (Az rfl) (Pf 10 rfl (Az rfl) ?_)
  refine A2 (by kernel_rfl) ?_
  refine AB (.t3 6 7 8) ?_
  refine AA (Ab ?_)
  refine AY rfl (.cell rfl .m2 (.inl ⟨(by rw [AH.fl.len]; exact BT), rfl⟩) (.tmp rfl (.tmp rfl .n))) ?_
  intro w1 hS
  have hS := (hS.perm (Av.perm (.c (.t .h) .n))).Ay
  have ha : AG.act (⟨X, b, []⟩ : AG) o = _ := ((AU c4).trans (BB c5))
  have hq : AG.Ff X b o = ((AG.act (⟨X, b, []⟩ : AG) o).w, (AG.act (⟨X, b, []⟩ : AG) o).out, 0) := ((AU c1).trans ((AU c2).trans (AU c3)))
  rw [ha] at hq
  refine ⟨_, ⟨?gq5, ?hv5, ?hl5, ?hB5⟩, hS⟩
  case hB5 => rw [hq]; (try rfl)
  case hv5 => rw [hq]; (try rfl)
  case hl5 => rw [hq]; (try dsimp only); exact y11
 have c5p := kz c5
 refine Gs (Gt (Af C1 rfl) (Gt (AF rfl A1 .m2 Order.l0 rfl rfl) (Gt (Ai rfl rfl) (Ga rfl (Gn (.t5 1 5 6 9 62) ?_)))))
 refine Gc (fun c6 => ?_) (fun c6 => ?_)
 ·
  have c6p := kz c6
  refine AI (Gm rfl (Gm rfl (Gt (BS rfl) (Gt (Af A6 rfl) (Gt (AZ rfl BT .m0 Ad.l0 rfl) (Gm rfl ?_))))))
  refine Ag rfl Q7 (.c rfl (.c rfl (.c rfl .n))) .n (Ex _ _ _) (fun v12 B hv => ?_)
  obtain ⟨y13, rfl, y14, rfl⟩ := hv
  refine DI Ing.Event.enc 56 16 ?_
  refine Ag rfl Xz (.c rfl (.c rfl (.c rfl .n))) (.c (.t (.t .h)) (.c .h (.c .h .n))) (Kv _ (⟨X, b, []⟩ : AG) _ [89, 111, 117, 32, 104, 97, 118, 101] _ (X.has 1 b) rfl hF.b (by assumption) (AH.Ho _ _ _) (fun i hi => AH.Gb hi) hF.br (by decide) (Nat.zero_le _)) (fun v17 B hv => ?_)
  obtain ⟨y18, rfl, y19, rfl⟩ := hv
  refine AP (AB (.t2 6 9) ?_)
  refine AT (AA (Ao ?_))
  refine BF (N := 11) [0, 1, 3, 7, 0, 16, 48, 112, 15, 511, 1023] mix (by kernel_rfl) rfl ?_
  refine Pf 0 rfl (AE rfl) (Pf 1 rfl (BS rfl) (Pf 2 rfl (Af A6 rfl) (Pf 3 rfl (AZ rfl BT .m0 Ad.l0 rfl) (Pf 4 rfl (AE rfl) (Pf 5 rfl (BS rfl) (Pf 6 rfl (Af CG rfl) (Pf 7 rfl (AF rfl DZ .m0 Ad.l2 rfl rfl) ?_)))))))
  refine An 8 rfl (by kernel_rfl) ?_
  refine AR (AK (AS.id AH.fl.len AH.fl.one) rfl rfl rfl Dt rfl (.t (.t (.t .h)))) ?_
  refine BK rfl ⟨?_, ?_⟩
  · exact (Po rfl (AF rfl DZ .m0 Ad.l2 rfl rfl) rfl rfl (Po rfl (Af CG rfl) rfl rfl (Po rfl (BS rfl) rfl rfl (Po rfl (AE rfl) rfl rfl (Pk (Pk (Pk (Pk Au))))))))
  refine Pf 9 rfl (Az rfl) (Pf 10 rfl (Az rfl) ?_)
  refine A2 (by kernel_rfl) ?_
  refine AB (.t3 6 7 8) ?_
  refine AA (Ab ?_)
  refine AY rfl (.cell rfl .m3 (.inl ⟨(by rw [AH.fl.len]; exact BT), rfl⟩) (.tmp rfl (.tmp rfl .n))) ?_
  intro w1 hS
  have hS := (hS.perm (Av.perm (.c (.t .h) .n))).Ay
  have ha : AG.act (⟨X, b, []⟩ : AG) o = _ := ((AU c4).trans ((AU c5).trans (BB c6)))
  have hq : AG.Ff X b o = ((AG.act (⟨X, b, []⟩ : AG) o).w, (AG.act (⟨X, b, []⟩ : AG) o).out, 0) := ((AU c1).trans ((AU c2).trans (AU c3)))
  rw [ha] at hq
  refine ⟨_, ⟨?gq6, ?hv6, ?hl6, ?hB6⟩, hS⟩
  case hB6 => rw [hq]; (try rfl)
  case hv6 => rw [hq]; (try rfl)
  case hl6 => rw [hq]; (try dsimp only); exact y19
 have c6p := kz c6
 refine Gs (Gt (Af C1 rfl) (Gt (AF rfl A1 .m2 Order.l0 rfl rfl) (Gt (Ai rfl rfl) (Ga rfl (Gn (.t4 5 6 9 74) ?_)))))
 refine Gc (fun c7 => ?_) (fun c7 => ?_)
 ·
  refine AI (Gm rfl (Gt (Af QB rfl) (Gt (AF rfl CB .m2 Order.l5 rfl rfl) (Gt (A9 Ng H2 rfl (.cons Ing.Event.l0 rfl rfl rfl (.cons Ing.Event.l3 rfl rfl rfl (.cons Ing.Event.l9 rfl rfl rfl .nil)))) ?_))))
  refine DI Ing.Event.enc 56 16 ?_
  refine Ag rfl OF (.c rfl (.c rfl .n)) (.c (.t .h) (.c .h .n)) (CI _ (⟨X, b, []⟩ : AG) _ { AG.GI 7 with text := o.text } rfl hF.b (show (-1 : Int) < 6 by decide) (Nat.zero_le _)) (fun v21 B hv => ?_)
  obtain ⟨y22, rfl, y23, rfl⟩ := hv
  refine AP (AB (.t2 6 9) ?_)
  refine AT (AA (Ao ?_))
  refine BF (N := 11) [0, 1, 3, 7, 0, 16, 48, 112, 15, 511, 1023] mix (by kernel_rfl) rfl ?_
  refine Pf 0 rfl (AE rfl) (Pf 1 rfl (BS rfl) (Pf 2 rfl (Af A6 rfl) (Pf 3 rfl (AZ rfl BT .m0 Ad.l0 rfl) (Pf 4 rfl (AE rfl) (Pf 5 rfl (BS rfl) (Pf 6 rfl (Af CG rfl) (Pf 7 rfl (AF rfl DZ .m0 Ad.l2 rfl rfl) ?_)))))))
  refine An 8 rfl (by kernel_rfl) ?_
  refine AR (AK (AS.id AH.fl.len AH.fl.one) rfl rfl rfl Dt rfl (.t (.t .h))) ?_
  refine BK rfl ⟨?_, ?_⟩
  · exact (Po rfl (AF rfl DZ .m0 Ad.l2 rfl rfl) rfl rfl (Po rfl (Af CG rfl) rfl rfl (Po rfl (BS rfl) rfl rfl (Po rfl (AE rfl) rfl rfl (Pk (Pk (Pk (Pk Au))))))))
  refine Pf 9 rfl (Az rfl) (Pf 10 rfl (Az rfl) ?_)
  refine A2 (by kernel_rfl) ?_
  refine AB (.t3 6 7 8) ?_
  refine AA (Ab ?_)
  refine AY rfl (.cell rfl .m2 (.inl ⟨(by rw [AH.fl.len]; exact BT), rfl⟩) (.tmp rfl (.tmp rfl .n))) ?_
  intro w1 hS
  have hS := (hS.perm (Av.perm (.c (.t .h) .n))).Ay
  have ha : AG.act (⟨X, b, []⟩ : AG) o = _ := ((AU c4).trans ((AU c5).trans ((AU c6).trans (BB c7))))
  have hq : AG.Ff X b o = ((AG.act (⟨X, b, []⟩ : AG) o).w, (AG.act (⟨X, b, []⟩ : AG) o).out, 0) := ((AU c1).trans ((AU c2).trans (AU c3)))
  rw [ha] at hq
  refine ⟨_, ⟨?gq7, ?hv7, ?hl7, ?hB7⟩, hS⟩
  case hB7 => rw [hq]; (try rfl)
  case hv7 => rw [hq]; (try rfl)
  case hl7 => rw [hq]; (try dsimp only); exact y23
 have c7p := kz c7
 refine Gs (Gt (Af C1 rfl) (Gt (AF rfl A1 .m2 Order.l0 rfl rfl) (Gt (Ai rfl rfl) (Ga rfl (Gn (.t4 5 6 9 83) ?_)))))
 refine Gc (fun c8 => ?_) (fun c8 => ?_)
 ·
  refine AI (Gm rfl ?_)
  refine DI Ing.Event.enc 56 16 ?_
  refine Ag rfl Zc (.c rfl .n) (.c (.t .h) (.c .h .n)) (QQ _ (⟨X, b, []⟩ : AG) _ rfl hF (Nat.zero_le _)) (fun v25 B hv => ?_)
  obtain ⟨y26, rfl, y27, rfl⟩ := hv
  refine AP (AB (.t2 6 9) ?_)
  refine AT (AA (Ao ?_))
  refine BF (N := 11) [0, 1, 3, 7, 0, 16, 48, 112, 15, 511, 1023] mix (by kernel_rfl) rfl ?_
  refine Pf 0 rfl (AE rfl) (Pf 1 rfl (BS rfl) (Pf 2 rfl (Af A6 rfl) (Pf 3 rfl (AZ rfl BT .m0 Ad.l0 rfl) (Pf 4 rfl (AE rfl) (Pf 5 rfl (BS rfl) (Pf 6 rfl (Af CG rfl) (Pf 7 rfl (AF rfl DZ .m0 Ad.l2 rfl rfl) ?_)))))))
  refine An 8 rfl (by kernel_rfl) ?_
  refine AR (AK (AS.id AH.fl.len AH.fl.one) rfl rfl rfl Dt rfl (.t (.t .h))) ?_
  refine BK rfl ⟨?_, ?_⟩
  · exact (Po rfl (AF rfl DZ .m0 Ad.l2 rfl rfl) rfl rfl (Po rfl (Af CG rfl) rfl rfl (Po rfl (BS rfl) rfl rfl (Po rfl (AE rfl) rfl rfl (Pk (Pk (Pk (Pk Au))))))))
  refine Pf 9 rfl (Az rfl) (Pf 10 rfl (Az rfl) ?_)
  refine A2 (by kernel_rfl) ?_
  refine AB (.t3 6 7 8) ?_
  refine AA (Ab ?_)
  refine AY rfl (.cell rfl .m2 (.inl ⟨(by rw [AH.fl.len]; exact BT), rfl⟩) (.tmp rfl (.tmp rfl .n))) ?_
  intro w1 hS
  have hS := (hS.perm (Av.perm (.c (.t .h) .n))).Ay
  have ha : AG.act (⟨X, b, []⟩ : AG) o = _ := ((AU c4).trans ((AU c5).trans ((AU c6).trans ((AU c7).trans (BB c8)))))
  have hq : AG.Ff X b o = ((AG.act (⟨X, b, []⟩ : AG) o).w, (AG.act (⟨X, b, []⟩ : AG) o).out, 0) := ((AU c1).trans ((AU c2).trans (AU c3)))
  rw [ha] at hq
  refine ⟨_, ⟨?gq8, ?hv8, ?hl8, ?hB8⟩, hS⟩
  case hB8 => rw [hq]; (try rfl)
  case hv8 => rw [hq]; (try rfl)
  case hl8 => rw [hq]; (try dsimp only); exact y27
 have c8p := kz c8
 refine Gs (Gt (Af C1 rfl) (Gt (AF rfl A1 .m2 Order.l0 rfl rfl) (Gt (Ai rfl rfl) (Ga rfl (Gn (.t4 5 6 9 89) ?_)))))
 refine Gc (fun c9 => ?_) (fun c9 => ?_)
 ·
  refine AI (Gm rfl (Gt (AZ rfl B8 .m2 (AS.id Order.fl.len Order.fl.one) rfl) ?_))
  refine DI Ing.Event.enc 56 16 ?_
  refine BD rfl ZW (.c rfl (.c rfl .n)) (.c (.t .h) (.c .h .n)) (OO _ (⟨X, b, []⟩ : AG) _ o rfl hF hm (Nat.zero_le _)) (fun w hS => ⟨gl1.pull gm1 hS (.c (.t .h) (.c .h .n)), gl2.pull gm2 hS (.c (.t .h) (.c .h .n))⟩) (fun v29 B hv => ?_)
  obtain ⟨y30, rfl, y31, rfl⟩ := hv
  refine AP (AB (.t2 6 9) ?_)
  refine AT (AA (Ao ?_))
  refine BF (N := 11) [0, 1, 3, 7, 0, 16, 48, 112, 15, 511, 1023] mix (by kernel_rfl) rfl ?_
  refine Pf 0 rfl (AE rfl) (Pf 1 rfl (BS rfl) (Pf 2 rfl (Af A6 rfl) (Pf 3 rfl (AZ rfl BT .m0 Ad.l0 rfl) (Pf 4 rfl (AE rfl) (Pf 5 rfl (BS rfl) (Pf 6 rfl (Af CG rfl) (Pf 7 rfl (AF rfl DZ .m0 Ad.l2 rfl rfl) ?_)))))))
  refine An 8 rfl (by kernel_rfl) ?_
  refine AR (AK (AS.id AH.fl.len AH.fl.one) rfl rfl rfl Dt rfl (.t (.t .h))) ?_
  refine BK rfl ⟨?_, ?_⟩
  · exact (Po rfl (AF rfl DZ .m0 Ad.l2 rfl rfl) rfl rfl (Po rfl (Af CG rfl) rfl rfl (Po rfl (BS rfl) rfl rfl (Po rfl (AE rfl) rfl rfl (Pk (Pk (Pk (Pk Au))))))))
  refine Pf 9 rfl (Az rfl) (Pf 10 rfl (Az rfl) ?_)
  refine A2 (by kernel_rfl) ?_
  refine AB (.t3 6 7 8) ?_
  refine AA (Ab ?_)
  refine AY rfl (.cell rfl .m2 (.inl ⟨(by rw [AH.fl.len]; exact BT), rfl⟩) (.tmp rfl (.tmp rfl .n))) ?_
  intro w1 hS
  have hS := (hS.perm (Av.perm (.c (.t .h) .n))).Ay
  have ha : AG.act (⟨X, b, []⟩ : AG) o = _ := ((AU c4).trans ((AU c5).trans ((AU c6).trans ((AU c7).trans ((AU c8).trans (BB c9))))))
  have hq : AG.Ff X b o = ((AG.act (⟨X, b, []⟩ : AG) o).w, (AG.act (⟨X, b, []⟩ : AG) o).out, 0) := ((AU c1).trans ((AU c2).trans (AU c3)))
  rw [ha] at hq
  refine ⟨_, ⟨?gq9, ?hv9, ?hl9, ?hB9⟩, hS⟩
  case hB9 => rw [hq]; (try rfl)
  case hv9 => rw [hq]; (try rfl)
  case hl9 => rw [hq]; (try dsimp only); exact y31
 have c9p := kz c9
 refine Gs (Gt (Af C1 rfl) (Gt (AF rfl A1 .m2 Order.l0 rfl rfl) (Gt (Ai rfl rfl) (Ga rfl (Gn (.t4 5 6 9 96) ?_)))))
 refine Gc (fun c10 => ?_) (fun c10 => ?_)
 ·
  refine AI (Gm rfl (Gt (AZ rfl B8 .m2 (AS.id Order.fl.len Order.fl.one) rfl) ?_))
  refine DI Ing.Event.enc 56 16 ?_
  refine BD rfl Z2 (.c rfl (.c rfl .n)) (.c (.t .h) (.c .h .n)) (Q9 _ (⟨X, b, []⟩ : AG) _ o rfl hF hu (Nat.zero_le _)) (fun w hS => ⟨gl1.pull gm1 hS (.c (.t .h) (.c .h .n)), gl2.pull gm2 hS (.c (.t .h) (.c .h .n))⟩) (fun v33 B hv => ?_)
  obtain ⟨y34, rfl, y35, rfl⟩ := hv
  refine AP (AB (.t2 6 9) ?_)
  refine AT (AA (Ao ?_))
  refine BF (N := 11) [0, 1, 3, 7, 0, 16, 48, 112, 15, 511, 1023] mix (by kernel_rfl) rfl ?_
  refine Pf 0 rfl (AE rfl) (Pf 1 rfl (BS rfl) (Pf 2 rfl (Af A6 rfl) (Pf 3 rfl (AZ rfl BT .m0 Ad.l0 rfl) (Pf 4 rfl (AE rfl) (Pf 5 rfl (BS rfl) (Pf 6 rfl (Af CG rfl) (Pf 7 rfl (AF rfl DZ .m0 Ad.l2 rfl rfl) ?_)))))))
  refine An 8 rfl (by kernel_rfl) ?_
  refine AR (AK (AS.id AH.fl.len AH.fl.one) rfl rfl rfl Dt rfl (.t (.t .h))) ?_
  refine BK rfl ⟨?_, ?_⟩
  · exact (Po rfl (AF rfl DZ .m0 Ad.l2 rfl rfl) rfl rfl (Po rfl (Af CG rfl) rfl rfl (Po rfl (BS rfl) rfl rfl (Po rfl (AE rfl) rfl rfl (Pk (Pk (Pk (Pk Au))))))))
  refine Pf 9 rfl (Az rfl) (Pf 10 rfl (Az rfl) ?_)
  refine A2 (by kernel_rfl) ?_
  refine AB (.t3 6 7 8) ?_
  refine AA (Ab ?_)
  refine AY rfl (.cell rfl .m2 (.inl ⟨(by rw [AH.fl.len]; exact BT), rfl⟩) (.tmp rfl (.tmp rfl .n))) ?_
  intro w1 hS
  have hS := (hS.perm (Av.perm (.c (.t .h) .n))).Ay
  have ha : AG.act (⟨X, b, []⟩ : AG) o = _ := ((AU c4).trans ((AU c5).trans ((AU c6).trans ((AU c7).trans ((AU c8).trans ((AU c9).trans (BB c10)))))))
  have hq : AG.Ff X b o = ((AG.act (⟨X, b, []⟩ : AG) o).w, (AG.act (⟨X, b, []⟩ : AG) o).out, 0) := ((AU c1).trans ((AU c2).trans (AU c3)))
  rw [ha] at hq
  refine ⟨_, ⟨?gq10, ?hv10, ?hl10, ?hB10⟩, hS⟩
  case hB10 => rw [hq]; (try rfl)
  case hv10 => rw [hq]; (try rfl)
  case hl10 => rw [hq]; (try dsimp only); exact y35
 have c10p := kz c10
 refine Gs (Gt (Af C1 rfl) (Gt (AF rfl A1 .m2 Order.l0 rfl rfl) (Gt (Ai rfl rfl) (Gm rfl (BW 107 rfl rfl (fun q => Af C1 rfl) (BW 107 rfl rfl (fun q => AF (cF rfl q) A1 .m2 Order.l0 rfl rfl) (BW 107 rfl rfl (fun q => Ai (cF rfl q) rfl) ?_)))))))
 refine Gt (BR rfl rfl (fun h => by rw [h]; rfl)) ?_
 refine Gm rfl (BW 112 rfl rfl (fun q => Af C1 rfl) (BW 112 rfl rfl (fun q => AF (cF rfl q) A1 .m2 Order.l0 rfl rfl) (BW 112 rfl rfl (fun q => Ai (cF rfl q) rfl) ?_)))
 refine Gt (BR rfl rfl (fun h => by rw [h]; rfl)) ?_
 refine Ga rfl (Gn (.t4 5 6 9 103) ?_)
 refine Gc (fun c11 => ?_) (fun c11 => ?_)
 ·
  have c11p := kz c11
  refine AI (Gm rfl (Gt (AZ rfl B8 .m2 (AS.id Order.fl.len Order.fl.one) rfl) ?_))
  refine DI Ing.Event.enc 56 16 ?_
  refine BD rfl Zq (.c rfl (.c rfl .n)) (.c (.t .h) (.c .h .n)) (RS _ (⟨X, b, []⟩ : AG) _ o rfl hF (by omega) hu (Nat.zero_le _)) (fun w hS => ⟨gl1.pull gm1 hS (.c (.t .h) (.c .h .n)), gl2.pull gm2 hS (.c (.t .h) (.c .h .n))⟩) (fun v37 B hv => ?_)
  obtain ⟨y38, rfl, y39, rfl⟩ := hv
  refine AP (AB (.t2 6 9) ?_)
  refine AT (AA (Ao ?_))
  refine BF (N := 11) [0, 1, 3, 7, 0, 16, 48, 112, 15, 511, 1023] mix (by kernel_rfl) rfl ?_
  refine Pf 0 rfl (AE rfl) (Pf 1 rfl (BS rfl) (Pf 2 rfl (Af A6 rfl) (Pf 3 rfl (AZ rfl BT .m0 Ad.l0 rfl) (Pf 4 rfl (AE rfl) (Pf 5 rfl (BS rfl) (Pf 6 rfl (Af CG rfl) (Pf 7 rfl (AF rfl DZ .m0 Ad.l2 rfl rfl) ?_)))))))
  refine An 8 rfl (by kernel_rfl) ?_
  refine AR (AK (AS.id AH.fl.len AH.fl.one) rfl rfl rfl Dt rfl (.t (.t .h))) ?_
  refine BK rfl ⟨?_, ?_⟩
  · exact (Po rfl (AF rfl DZ .m0 Ad.l2 rfl rfl) rfl rfl (Po rfl (Af CG rfl) rfl rfl (Po rfl (BS rfl) rfl rfl (Po rfl (AE rfl) rfl rfl (Pk (Pk (Pk (Pk Au))))))))
  refine Pf 9 rfl (Az rfl) (Pf 10 rfl (Az rfl) ?_)
  refine A2 (by kernel_rfl) ?_
  refine AB (.t3 6 7 8) ?_
  refine AA (Ab ?_)
  refine AY rfl (.cell rfl .m2 (.inl ⟨(by rw [AH.fl.len]; exact BT), rfl⟩) (.tmp rfl (.tmp rfl .n))) ?_
  intro w1 hS
  have hS := (hS.perm (Av.perm (.c (.t .h) .n))).Ay
  have ha : AG.act (⟨X, b, []⟩ : AG) o = _ := ((AU c4).trans ((AU c5).trans ((AU c6).trans ((AU c7).trans ((AU c8).trans ((AU c9).trans ((AU c10).trans (BB c11))))))))
  have hq : AG.Ff X b o = ((AG.act (⟨X, b, []⟩ : AG) o).w, (AG.act (⟨X, b, []⟩ : AG) o).out, 0) := ((AU c1).trans ((AU c2).trans (AU c3)))
  rw [ha] at hq
  refine ⟨_, ⟨?gq11, ?hv11, ?hl11, ?hB11⟩, hS⟩
  case hB11 => rw [hq]; (try rfl)
  case hv11 => rw [hq]; (try rfl)
  case hl11 => rw [hq]; (try dsimp only); exact y39
 have c11p := kz c11
 refine AI (Gm rfl (Gt (AZ rfl B8 .m2 (AS.id Order.fl.len Order.fl.one) rfl) ?_))
 refine DI Ing.Event.enc 56 16 ?_
 refine BD rfl aJ (.c rfl (.c rfl .n)) (.c (.t .h) (.c .h .n)) (Ri _ (⟨X, b, []⟩ : AG) _ o rfl hF (by omega) (Nat.zero_le _)) (fun w hS => gl0.pull gm0 hS (.c (.t .h) (.c .h .n))) (fun v41 B hv => ?_)
 obtain ⟨y42, rfl, y43, rfl⟩ := hv
 refine AP (AB (.t2 6 9) ?_)
 refine AT (AA (Ao ?_))
 refine BF (N := 11) [0, 1, 3, 7, 0, 16, 48, 112, 15, 511, 1023] mix (by kernel_rfl) rfl ?_
 refine Pf 0 rfl (AE rfl) (Pf 1 rfl (BS rfl) (Pf 2 rfl (Af A6 rfl) (Pf 3 rfl (AZ rfl BT .m0 Ad.l0 rfl) (Pf 4 rfl (AE rfl) (Pf 5 rfl (BS rfl) (Pf 6 rfl (Af CG rfl) (Pf 7 rfl (AF rfl DZ .m0 Ad.l2 rfl rfl) ?_)))))))
 refine An 8 rfl (by kernel_rfl) ?_
 refine AR (AK (AS.id AH.fl.len AH.fl.one) rfl rfl rfl Dt rfl (.t (.t .h))) ?_
 refine BK rfl ⟨?_, ?_⟩
 · exact (Po rfl (AF rfl DZ .m0 Ad.l2 rfl rfl) rfl rfl (Po rfl (Af CG rfl) rfl rfl (Po rfl (BS rfl) rfl rfl (Po rfl (AE rfl) rfl rfl (Pk (Pk (Pk (Pk Au))))))))
 refine Pf 9 rfl (Az rfl) (Pf 10 rfl (Az rfl) ?_)
 refine A2 (by kernel_rfl) ?_
 refine AB (.t3 6 7 8) ?_
 refine AA (Ab ?_)
 refine AY rfl (.cell rfl .m2 (.inl ⟨(by rw [AH.fl.len]; exact BT), rfl⟩) (.tmp rfl (.tmp rfl .n))) ?_
 intro w1 hS
 have hS := (hS.perm (Av.perm (.c (.t .h) .n))).Ay
 have ha : AG.act (⟨X, b, []⟩ : AG) o = _ := ((AU c4).trans ((AU c5).trans ((AU c6).trans ((AU c7).trans ((AU c8).trans ((AU c9).trans ((AU c10).trans (AU c11))))))))
 have hq : AG.Ff X b o = ((AG.act (⟨X, b, []⟩ : AG) o).w, (AG.act (⟨X, b, []⟩ : AG) o).out, 0) := ((AU c1).trans ((AU c2).trans (AU c3)))
 rw [ha] at hq
 refine ⟨_, ⟨?gq12, ?hv12, ?hl12, ?hB12⟩, hS⟩
 case hB12 => rw [hq]; (try rfl)
 case hv12 => rw [hq]; (try rfl)
 case hl12 => rw [hq]; (try dsimp only); exact y43
theorem Hf (b : Nat) (V : AJ) (ls : Vector BE 4) (ev : List Ing.Event) (k : Int) (n m : Nat) (hk : 0 ≤ k ∧ k < 4) (hF : AL.Fit (A3 V ls ev) n m) (hn : n ≤ 900000) (hm : m ≤ 900000) : Eu Tryz.prog 67 #[.pointer (some ⟨b, 0, none⟩), .pointer (some ⟨b, 165 + k.toNat * 22, none⟩)] [Ac.box b 101 (AJ.enc V), Ac.DY (B6 9 (AJ.Ap V) ls), Ac.own (AJ.last V) 56 16 ((ev).flatMap Ing.Event.enc)] (fun w => (GV 2 FV w ∧ 2 ∉ CW [Ac.box b 101 (AJ.enc V), Ac.DY (B6 9 (AJ.Ap V) ls), Ac.own (AJ.last V) 56 16 ((ev).flatMap Ing.Event.enc)]) ∧ (GV 0 AH.C4 w ∧ 0 ∉ CW [Ac.box b 101 (AJ.enc V), Ac.DY (B6 9 (AJ.Ap V) ls), Ac.own (AJ.last V) 56 16 ((ev).flatMap Ing.Event.enc)]) ∧ (GG 7 w ∧ 7 ∉ CW [Ac.box b 101 (AJ.enc V), Ac.DY (B6 9 (AJ.Ap V) ls), Ac.own (AJ.last V) 56 16 ((ev).flatMap Ing.Event.enc)]) ∧ (GG 8 w ∧ 8 ∉ CW [Ac.box b 101 (AJ.enc V), Ac.DY (B6 9 (AJ.Ap V) ls), Ac.own (AJ.last V) 56 16 ((ev).flatMap Ing.Event.enc)])) (fun v B => ∃ V' ls' ev', v = .tuple #[] ∧ A3 V' ls' ev' = AL.leave (A3 V ls ev) k ∧ B = [Ac.box b 101 (AJ.enc V'), Ac.DY (B6 9 (AJ.Ap V') ls'), Ac.own (AJ.last V') 56 16 ((ev').flatMap Ing.Event.enc)]) := by
 intro w hS0 hH
 obtain ⟨⟨gl0, gm0⟩, ⟨gl1, gm1⟩, ⟨gl2, gm2⟩, ⟨gl3, gm3⟩⟩ := hH
 have hbe := Tx hF hk.1 hk.2
 refine Aj _ _ Tryz.func67 rfl rfl rfl (hS0) ?_
 refine Ao (Ao ?_)
 refine BF (N := 18) [0, 1, 3, 7, 15, 31, 63, 63, 191, 447, 959, 127, 2175, 6271, 16383, 32767, 65535, 131071] mix (by kernel_rfl) rfl ?_
 refine Pf 0 rfl (AE rfl) (Pf 1 rfl (BS rfl) (Pf 2 rfl (Af IH rfl) (Pf 3 rfl (AF rfl A1 .m0 ((AJ.l1.comp (AS.arr (n := 4) A0.fl hk.1 hk.2)).comp A0.l0) rfl rfl) (Pf 4 rfl (Ai rfl rfl) (Pf 5 rfl (AE rfl) (Lj 6 12 rfl rfl rfl (fun q => AE rfl) (Lj 7 12 rfl rfl rfl (fun q => AE rfl) ?_)))))))
 refine Lj 8 12 rfl rfl rfl (fun q => BS (BV rfl q)) (Lj 9 12 rfl rfl rfl (fun q => Af Hl (BV rfl q)) (Lj 10 12 rfl rfl rfl (fun q => AF (BV rfl q) A1 .m0 ((AJ.l1.comp (AS.arr (n := 4) A0.fl hk.1 hk.2)).comp A0.l1) rfl rfl) (Lj 11 12 rfl rfl rfl (fun q => BS (BV rfl q)) (Lj 12 12 rfl rfl rfl (fun q => Af Du (BV rfl q)) (Lj 13 12 rfl rfl rfl (fun q => Af Bi (BV rfl q)) ?_)))))
 refine BX 14 rfl rfl (by kernel_rfl) (Q3 (t := 12) rfl rfl (fun q => by have q1 := q; (try simp at q1); exact IE (AQ Cy (BV rfl q) (BV rfl q) (by first | omega | exact hk.1 | exact hk.2) (by first | omega | exact hk.1 | exact hk.2)))) ?_
 refine Lj 15 12 rfl rfl rfl (fun q => Af Hg (BV rfl q)) ?_
 refine BX 16 rfl rfl (by kernel_rfl) (Q3 (t := 12) rfl rfl (fun q => by have q1 := q; (try simp at q1); exact IE (AF (BV rfl q) Ct .m0 (((AJ.l0.comp AH.l2).comp (AS.ar (n := 6) Al.fl (by first | omega | exact hk))).comp Al.l1) rfl rfl))) ?_
 refine Pf 17 rfl (BH rfl rfl (fun h => h)) ?_
 refine A2 (by kernel_rfl) ?_
 refine AB (.t3 0 1 24) ?_
 refine AA ?_
 refine Gc (fun c1 => ?_) (fun c1 => ?_)
 ·
  have c1p := kz c1
  have hdl := AG.Me V.w (V.Ap.at k).A7 AL.FX
  have hds := AG.Mi (b := (V.Ap.at k).A7) (o := AL.FX) hF.G9 AL.Oc
  refine Ao ?_
  refine BF (N := 18) [0, 1, 3, 7, 0, 16, 48, 112, 0, 511, 1023, 2047, 2047, 2047, 0, 20479, 57343, 131071] mix (by kernel_rfl) rfl ?_
  refine Pf 0 rfl (AE rfl) (Pf 1 rfl (BS rfl) (Pf 2 rfl (Af Du rfl) (Pf 3 rfl (AZ rfl BT .m0 AJ.l0 rfl) (Pf 4 rfl (AE rfl) (Pf 5 rfl (BS rfl) (Pf 6 rfl (Af Hl rfl) (Pf 7 rfl (AF rfl A1 .m0 ((AJ.l1.comp (AS.arr (n := 4) A0.fl hk.1 hk.2)).comp A0.l1) rfl rfl) ?_)))))))
  refine Pf 8 rfl (A9 Rk LI rfl (.cons Order.l0 rfl rfl rfl .nil)) ?_
  refine Iv 9 14 rfl rfl (by kernel_rfl) ?_ ?_
  ·
   refine BD rfl Wy (.c rfl (.c rfl (.c rfl .n))) .n (Fw V.w (V.Ap.at k).A7 AL.FX hF.G9.L4 (Nat.zero_le _) (Nat.zero_le _)) (fun w hS => ⟨gl1.pull gm1 hS .n, gl2.pull gm2 hS .n, gl3.pull gm3 hS .n⟩) (fun v1 B hv => ?_)
   obtain ⟨y2, rfl, y3, rfl⟩ := hv
   refine Bn rfl ⟨?_, ?_⟩
   · exact (Pk (Pk (Pk (Pk (Pk (Pk (Pk (Pk (Pk Au)))))))))
   refine Pf 10 rfl (AE rfl) (Pf 11 rfl (AM rfl rfl) (Pf 12 rfl (AM rfl rfl) (Pf 13 rfl (AM rfl rfl) ?_)))
   refine An 14 rfl (by kernel_rfl) ?_
   refine BG rfl Li rfl (fun b1 => ?_)
   refine Bn rfl ⟨?_, ?_⟩
   · exact (Po rfl (AM rfl rfl) rfl rfl (Po rfl (AM rfl rfl) rfl rfl (Po rfl (AM rfl rfl) rfl rfl (Po rfl (AE rfl) rfl rfl (Po rfl (A9 Rk LI rfl (.cons Order.l0 rfl rfl rfl .nil)) rfl rfl (Po rfl (AF rfl A1 .m2 ((AJ.l1.comp (AS.arr (n := 4) A0.fl hk.1 hk.2)).comp A0.l1) rfl rfl) rfl rfl (Po rfl (Af Hl rfl) rfl rfl (Po rfl (BS rfl) rfl rfl (Po rfl (AE rfl) rfl rfl (Po rfl (AZ rfl BT .m2 AJ.l0 rfl) rfl rfl (Po rfl (Af Du rfl) rfl rfl (Po rfl (BS rfl) rfl rfl (Po rfl (AE rfl) rfl rfl Au)))))))))))))
   refine An 15 rfl (by kernel_rfl) ?_
   refine AR (AK (AS.id AH.fl.len AH.fl.one) rfl rfl rfl Dt rfl .h) ?_
   refine BK rfl ⟨?_, ?_⟩
   · exact (Po rfl (AM rfl rfl) rfl rfl (Po rfl (AM rfl rfl) rfl rfl (Pk (Pk (Pk (Pk (Pk (Pk (Pk (Pk (Pk (Pk (Pk Au)))))))))))))
   refine Pf 16 rfl (Az rfl) (Pf 17 rfl (Az rfl) ?_)
   refine A2 (by kernel_rfl) ?_
   refine AB (.t4 0 1 4 5) ?_
   refine AA (Gs (Gm rfl (Gt (AZ rfl BT .m0 (AS.id AH.fl.len AH.fl.one) rfl) (Gt (BS rfl) (Gt (Af Du rfl) ?_)))))
   refine AR (AK AJ.l0 rfl rfl rfl Dt rfl (.t (.t .h))) ?_
   refine Gn (.t3 0 1 5) (Ao ?_)
   refine D6 (.c (.t (.t .h)) (.c (.t (.t .h)) .n)) ?_
   refine Er (k := k) hk.1 hk.2 (fun sv sl hsv hlv hln => ?_)
   refine AI (Gm rfl (Gt (A9 Uf Ui rfl .nil) (Gt (BS rfl) ?_)))
   refine AR (AK (AS.BL { V with w := (AG.Ff V.w (V.Ap.at k).A7 AL.FX).1 } hk.1 hk.2) rfl rfl rfl Se rfl (.t (.t (.t .h)))) ?_
   refine Gn (.t3 0 1 5) ?_
   refine Ep A4 9 1 ?_
   refine Ep A4 9 1 ?_
   refine Ep A4 9 1 ?_
   refine D6 (.c (.t (.t .h)) (.c (.t .h) (.c .h (.c (.t (.t (.t .h))) (.c (.t (.t (.t .h))) .n))))) ?_
   refine GZ hk.1 hk.2 (by rfl) (by rfl) (by rfl) ?_
   refine AI (Gm rfl (Gm rfl ?_))
   refine BD rfl Un (.c rfl (.c rfl .n)) (.c .h (.c .h (.c (.t (.t (.t (.t (.t .h))))) (.c (.t (.t (.t (.t .h)))) .n)))) (Ed _ (AJ.BL { V with w := (AG.Ff V.w (V.Ap.at k).A7 AL.FX).1 } k default) (ls.put k ⟨[], [], []⟩) ev _ (AG.Ff V.w (V.Ap.at k).A7 AL.FX).2.1 n (by assumption) (F9 (((hF.land hds.1).free hk.1 hk.2) |> fun h => by rw [← NT, ← Hu hk.1 hk.2] at h; exact h)) (by omega) (Nat.le_trans hF.last (by omega)) (fun e he c _ => hds.2 e he)) (fun w hS => ⟨gl0.pull gm0 hS (.c .h (.c .h (.c (.t (.t (.t (.t (.t .h))))) (.c (.t (.t (.t (.t .h)))) .n)))), gl1.pull gm1 hS (.c .h (.c .h (.c (.t (.t (.t (.t (.t .h))))) (.c (.t (.t (.t (.t .h)))) .n))))⟩) (fun v8 B hv => ?_)
   obtain ⟨y9, y10, y11, rfl, y12, rfl⟩ := hv
   refine Gn (.t1 1) ?_
   refine Er (k := k) hk.1 hk.2 (fun sv sl hsv hlv hln => ?_)
   refine AI (Gm rfl (Gt (A9 Uf Ui rfl .nil) (Gt (BS rfl) ?_)))
   refine AR (AK (AS.BL y9 hk.1 hk.2) rfl rfl rfl Se rfl (.t (.t (.t .h)))) ?_
   refine AP ?_
   refine Bf rfl .n ?_
   intro w1 hS
   have hS := hS.Cj 9 1
   have hS := hS.Cj 9 1
   have hS := hS.Cj 9 1
   have hS := (hS.perm (Av.perm (.c (.t (.t .h)) (.c (.t .h) (.c .h (.c (.t (.t (.t .h))) (.c (.t (.t (.t .h))) (.c (.t (.t (.t .h))) .n)))))))).Ay
   have hS := St.close' (s := default) (qs := []) (ws := []) (ts := []) hk.1 hk.2 rfl rfl rfl hS
   refine ⟨_, ⟨_, _, _, rfl, ?ga1, rfl⟩, hS⟩
   case ga1 => exact PQ hk.1 hk.2 c1 y12
  ·
   refine BG rfl Li rfl (fun b2 => ?_)
   refine Bn rfl ⟨?_, ?_⟩
   · exact (Po rfl (A9 Rk LI rfl (.cons Order.l0 rfl rfl rfl .nil)) rfl rfl (Po rfl (AF rfl A1 .m1 ((AJ.l1.comp (AS.arr (n := 4) A0.fl hk.1 hk.2)).comp A0.l1) rfl rfl) rfl rfl (Po rfl (Af Hl rfl) rfl rfl (Po rfl (BS rfl) rfl rfl (Po rfl (AE rfl) rfl rfl (Po rfl (AZ rfl BT .m1 AJ.l0 rfl) rfl rfl (Po rfl (Af Du rfl) rfl rfl (Po rfl (BS rfl) rfl rfl (Po rfl (AE rfl) rfl rfl Au)))))))))
   refine An 9 rfl (by kernel_rfl) ?_
   refine BD rfl Wy (.c rfl (.c rfl (.c rfl .n))) .n (Fw V.w (V.Ap.at k).A7 AL.FX hF.G9.L4 (Nat.zero_le _) (Nat.zero_le _)) (fun w hS => ⟨gl1.pull gm1 hS .n, gl2.pull gm2 hS .n, gl3.pull gm3 hS .n⟩) (fun v16 B hv => ?_)
   obtain ⟨y17, rfl, y18, rfl⟩ := hv
   refine Bn rfl ⟨?_, ?_⟩
   · exact (Pk (Pk (Pk (Pk (Pk (Pk (Pk (Pk (Pk Au)))))))))
   refine Pf 10 rfl (AE rfl) (Pf 11 rfl (AM rfl rfl) (Pf 12 rfl (AM rfl rfl) (Pf 13 rfl (AM rfl rfl) ?_)))
   refine An 15 rfl (by kernel_rfl) ?_
   refine AR (AK (AS.id AH.fl.len AH.fl.one) rfl rfl rfl Dt rfl (.t .h)) ?_
   refine BK rfl ⟨?_, ?_⟩
   · exact (Po rfl (AM rfl rfl) rfl rfl (Po rfl (AM rfl rfl) rfl rfl (Pk (Pk (Pk (Pk (Pk (Pk (Pk (Pk (Pk (Pk (Pk Au)))))))))))))
   refine Pf 16 rfl (Az rfl) (Pf 17 rfl (Az rfl) ?_)
   refine A2 (by kernel_rfl) ?_
   refine AB (.t4 0 1 4 5) ?_
   refine AA (Gs (Gm rfl (Gt (AZ rfl BT .m1 (AS.id AH.fl.len AH.fl.one) rfl) (Gt (BS rfl) (Gt (Af Du rfl) ?_)))))
   refine AR (AK AJ.l0 rfl rfl rfl Dt rfl (.t (.t .h))) ?_
   refine Gn (.t3 0 1 5) (Ao ?_)
   refine D6 (.c (.t (.t .h)) (.c (.t (.t .h)) .n)) ?_
   refine Er (k := k) hk.1 hk.2 (fun sv sl hsv hlv hln => ?_)
   refine AI (Gm rfl (Gt (A9 Uf Ui rfl .nil) (Gt (BS rfl) ?_)))
   refine AR (AK (AS.BL { V with w := (AG.Ff V.w (V.Ap.at k).A7 AL.FX).1 } hk.1 hk.2) rfl rfl rfl Se rfl (.t (.t (.t .h)))) ?_
   refine Gn (.t3 0 1 5) ?_
   refine Ep A4 9 1 ?_
   refine Ep A4 9 1 ?_
   refine Ep A4 9 1 ?_
   refine D6 (.c (.t (.t .h)) (.c (.t .h) (.c .h (.c (.t (.t (.t .h))) (.c (.t (.t (.t .h))) .n))))) ?_
   refine GZ hk.1 hk.2 (by rfl) (by rfl) (by rfl) ?_
   refine AI (Gm rfl (Gm rfl ?_))
   refine BD rfl Un (.c rfl (.c rfl .n)) (.c .h (.c .h (.c (.t (.t (.t (.t (.t .h))))) (.c (.t (.t (.t .h))) .n)))) (Ed _ (AJ.BL { V with w := (AG.Ff V.w (V.Ap.at k).A7 AL.FX).1 } k default) (ls.put k ⟨[], [], []⟩) ev _ (AG.Ff V.w (V.Ap.at k).A7 AL.FX).2.1 n (by assumption) (F9 (((hF.land hds.1).free hk.1 hk.2) |> fun h => by rw [← NT, ← Hu hk.1 hk.2] at h; exact h)) (by omega) (Nat.le_trans hF.last (by omega)) (fun e he c _ => hds.2 e he)) (fun w hS => ⟨gl0.pull gm0 hS (.c .h (.c .h (.c (.t (.t (.t (.t (.t .h))))) (.c (.t (.t (.t .h))) .n)))), gl1.pull gm1 hS (.c .h (.c .h (.c (.t (.t (.t (.t (.t .h))))) (.c (.t (.t (.t .h))) .n))))⟩) (fun v23 B hv => ?_)
   obtain ⟨y24, y25, y26, rfl, y27, rfl⟩ := hv
   refine Gn (.t1 1) ?_
   refine Er (k := k) hk.1 hk.2 (fun sv sl hsv hlv hln => ?_)
   refine AI (Gm rfl (Gt (A9 Uf Ui rfl .nil) (Gt (BS rfl) ?_)))
   refine AR (AK (AS.BL y24 hk.1 hk.2) rfl rfl rfl Se rfl (.t (.t (.t .h)))) ?_
   refine AP ?_
   refine Bf rfl .n ?_
   intro w1 hS
   have hS := hS.Cj 9 1
   have hS := hS.Cj 9 1
   have hS := hS.Cj 9 1
   have hS := (hS.perm (Av.perm (.c (.t (.t .h)) (.c (.t .h) (.c .h (.c (.t (.t (.t .h))) (.c (.t (.t (.t .h))) (.c (.t (.t (.t .h))) .n)))))))).Ay
   have hS := St.close' (s := default) (qs := []) (ws := []) (ts := []) hk.1 hk.2 rfl rfl rfl hS
   refine ⟨_, ⟨_, _, _, rfl, ?ga2, rfl⟩, hS⟩
   case ga2 => exact PQ hk.1 hk.2 c1 y27
 refine Aa ?_
 refine AB (.t1 1) ?_
 refine AA ?_
 refine Er (k := k) hk.1 hk.2 (fun sv sl hsv hlv hln => ?_)
 refine AI (Gm rfl (Gt (A9 Uf Ui rfl .nil) (Gt (BS rfl) ?_)))
 refine AR (AK (AS.BL V hk.1 hk.2) rfl rfl rfl Se rfl (.t (.t (.t .h)))) ?_
 refine AP ?_
 refine Bf rfl .n ?_
 intro w1 hS
 have hS := hS.Cj 9 1
 have hS := hS.Cj 9 1
 have hS := hS.Cj 9 1
 have hS := (hS.perm (Av.perm (.c (.t (.t .h)) (.c (.t .h) (.c .h (.c (.t (.t (.t .h))) (.c (.t (.t (.t .h))) (.c (.t (.t (.t .h))) .n)))))))).Ay
 have hS := St.close' (s := default) (qs := []) (ws := []) (ts := []) hk.1 hk.2 rfl rfl rfl hS
 refine ⟨_, ⟨_, _, _, rfl, ?ga3, rfl⟩, hS⟩
 case ga3 => exact TC hk.1 hk.2 c1
theorem OP (b : Nat) (V : AJ) (ls : Vector BE 4) (ev : List Ing.Event) (k : Int) (u : As) (n m : Nat) (hk : 0 ≤ k ∧ k < 4) (hF : AL.Fit (A3 V ls ev) n m) (hn : n ≤ 900000) (hm : m ≤ 900000) (hu : u.length ≤ 1000) : Eu Tryz.prog 95 #[.pointer (some ⟨b, 0, none⟩), .pointer (some ⟨b, 165 + k.toNat * 22, none⟩), BP u] [Ac.box b 101 (AJ.enc V), Ac.DY (B6 9 (AJ.Ap V) ls), Ac.own (AJ.last V) 56 16 ((ev).flatMap Ing.Event.enc)] (fun w => (GV 2 FV w ∧ 2 ∉ CW [Ac.box b 101 (AJ.enc V), Ac.DY (B6 9 (AJ.Ap V) ls), Ac.own (AJ.last V) 56 16 ((ev).flatMap Ing.Event.enc)]) ∧ (GV 0 AH.C4 w ∧ 0 ∉ CW [Ac.box b 101 (AJ.enc V), Ac.DY (B6 9 (AJ.Ap V) ls), Ac.own (AJ.last V) 56 16 ((ev).flatMap Ing.Event.enc)]) ∧ (GG 7 w ∧ 7 ∉ CW [Ac.box b 101 (AJ.enc V), Ac.DY (B6 9 (AJ.Ap V) ls), Ac.own (AJ.last V) 56 16 ((ev).flatMap Ing.Event.enc)]) ∧ (GG 8 w ∧ 8 ∉ CW [Ac.box b 101 (AJ.enc V), Ac.DY (B6 9 (AJ.Ap V) ls), Ac.own (AJ.last V) 56 16 ((ev).flatMap Ing.Event.enc)])) (fun v B => ∃ V' ls' ev', v = .tuple #[] ∧ A3 V' ls' ev' = AL.order (A3 V ls ev) k u ∧ B = [Ac.box b 101 (AJ.enc V'), Ac.DY (B6 9 (AJ.Ap V') ls'), Ac.own (AJ.last V') 56 16 ((ev').flatMap Ing.Event.enc)]) := by
 intro w hS0 hH
 obtain ⟨⟨gl0, gm0⟩, ⟨gl1, gm1⟩, ⟨gl2, gm2⟩, ⟨gl3, gm3⟩⟩ := hH
 have hps := Words.MD u
 have hdl := AG.Me V.w (V.Ap.at k).A7 (Words.parse u).1
 have hds := AG.Mi (b := (V.Ap.at k).A7) (o := (Words.parse u).1) hF.G9 (by have := hps.2.2; omega)
 have htn := F9 hF
 refine Aj _ _ Tryz.func95 rfl rfl rfl (hS0) ?_
 refine Gs (Gm rfl ?_)
 refine A8 rfl ZU (.c rfl .n) (fun w hS => Lo u (by omega) w (gl1.stM gm1 hS) (gl2.stM gm2 hS) (gl3.stM gm3 hS)) ?_
 refine Gm rfl (Gt (AM rfl rfl) (Gt (AM rfl rfl) ?_))
 refine BG rfl LI rfl (fun b1 => ?_)
 refine AR (AK (AS.id Order.fl.len Order.fl.one) rfl rfl rfl Dq rfl .h) ?_
 refine Ga rfl (Gn (.t4 0 1 6 7) (CA (Gm rfl (Gt (CK rfl rfl) (Gn (.t4 0 1 6 17) ?_)))))
 refine Gc (fun c1 => ?_) (fun c1 => ?_)
 ·
  have c1p := kz c1
  refine Gs (Gm rfl (Gm rfl ?_))
  refine Ag rfl Sv (.c rfl (.c rfl (.c rfl .n))) (.c (.t .h) (.c (.t .h) (.c (.t .h) .n))) (D4 _ V ls ev k _ hk (Nat.le_trans (htn k hk.1 hk.2) (by omega))) (fun v1 B hv => ?_)
  obtain ⟨y2, y3, y4, rfl, y5, rfl⟩ := hv
  refine Gn (.nil _) (Ab (AD ?_))
  refine AY rfl .n ?_
  intro w1 hS
  have hS := (hS.perm (Av.perm (.c .h (.c .h (.c .h .n))))).Ay
  refine ⟨_, ⟨y2, y3, y4, rfl, ?ga1, rfl⟩, hS⟩
  case ga1 => exact y5.trans (if_pos c1).symm
 have c1p := kz c1
 refine Aa ?_
 refine AB (.t3 0 1 6) ?_
 refine AA (CA (Gt (Af C1 rfl) (Gt (AF rfl A1 .m0 Order.l0 rfl rfl) (Gt (Ai rfl rfl) (Gn (.t4 0 1 6 23) ?_)))))
 refine Gc (fun c2 => ?_) (fun c2 => ?_)
 ·
  refine Gs (Gm rfl (Gm rfl ?_))
  refine BD rfl YP (.c rfl (.c rfl .n)) (.c (.t .h) (.c (.t .h) (.c (.t .h) .n))) (Hf _ V ls ev k n m hk hF hn hm) (fun w hS => ⟨gl0.pull gm0 hS (.c (.t .h) (.c (.t .h) (.c (.t .h) .n))), gl1.pull gm1 hS (.c (.t .h) (.c (.t .h) (.c (.t .h) .n))), gl2.pull gm2 hS (.c (.t .h) (.c (.t .h) (.c (.t .h) .n))), gl3.pull gm3 hS (.c (.t .h) (.c (.t .h) (.c (.t .h) .n)))⟩) (fun v6 B hv => ?_)
  obtain ⟨y7, y8, y9, rfl, y10, rfl⟩ := hv
  refine Gn (.nil _) (Ab (AD ?_))
  refine AY rfl .n ?_
  intro w1 hS
  have hS := (hS.perm (Av.perm (.c .h (.c .h (.c .h .n))))).Ay
  refine ⟨_, ⟨y7, y8, y9, rfl, ?ga2, rfl⟩, hS⟩
  case ga2 => exact y10.trans ((AU c1).trans (BB c2)).symm
 have c2p := kz c2
 refine Aa ?_
 refine AB (.t3 0 1 6) ?_
 refine AA (Ao ?_)
 refine BF (N := 18) [0, 1, 3, 7, 0, 16, 48, 112, 0, 511, 1023, 2047, 2047, 2047, 0, 20479, 57343, 131071] mix (by kernel_rfl) rfl ?_
 refine Pf 0 rfl (AE rfl) (Pf 1 rfl (BS rfl) (Pf 2 rfl (Af Du rfl) (Pf 3 rfl (AZ rfl BT .m1 AJ.l0 rfl) (Pf 4 rfl (AE rfl) (Pf 5 rfl (BS rfl) (Pf 6 rfl (Af Hl rfl) (Pf 7 rfl (AF rfl A1 .m1 ((AJ.l1.comp (AS.arr (n := 4) A0.fl hk.1 hk.2)).comp A0.l1) rfl rfl) ?_)))))))
 refine Pf 8 rfl (AZ rfl B8 .m0 (AS.id Order.fl.len Order.fl.one) rfl) ?_
 refine Iv 9 14 rfl rfl (by kernel_rfl) ?_ ?_
 ·
  refine BD rfl Wy (.c rfl (.c rfl (.c rfl .n))) .n (Fw V.w (V.Ap.at k).A7 (Words.parse u).1 hF.G9.L4 (by have := hps.2.1; omega) (by have := hps.1; omega)) (fun w hS => ⟨gl1.pull gm1 hS .n, gl2.pull gm2 hS .n, gl3.pull gm3 hS .n⟩) (fun v11 B hv => ?_)
  obtain ⟨y12, rfl, y13, rfl⟩ := hv
  refine Bn rfl ⟨?_, ?_⟩
  · exact (Pk (Pk (Pk (Pk (Pk (Pk (Pk (Pk (Pk Au)))))))))
  refine Pf 10 rfl (AE rfl) (Pf 11 rfl (AM rfl rfl) (Pf 12 rfl (AM rfl rfl) (Pf 13 rfl (AM rfl rfl) ?_)))
  refine An 14 rfl (by kernel_rfl) ?_
  refine BG rfl Li rfl (fun b2 => ?_)
  refine Bn rfl ⟨?_, ?_⟩
  · exact (Po rfl (AM rfl rfl) rfl rfl (Po rfl (AM rfl rfl) rfl rfl (Po rfl (AM rfl rfl) rfl rfl (Po rfl (AE rfl) rfl rfl (Po rfl (AZ rfl B8 .m2 (AS.id Order.fl.len Order.fl.one) rfl) rfl rfl (Po rfl (AF rfl A1 .m3 ((AJ.l1.comp (AS.arr (n := 4) A0.fl hk.1 hk.2)).comp A0.l1) rfl rfl) rfl rfl (Po rfl (Af Hl rfl) rfl rfl (Po rfl (BS rfl) rfl rfl (Po rfl (AE rfl) rfl rfl (Po rfl (AZ rfl BT .m3 AJ.l0 rfl) rfl rfl (Po rfl (Af Du rfl) rfl rfl (Po rfl (BS rfl) rfl rfl (Po rfl (AE rfl) rfl rfl Au)))))))))))))
  refine An 15 rfl (by kernel_rfl) ?_
  refine AR (AK (AS.id AH.fl.len AH.fl.one) rfl rfl rfl Dt rfl .h) ?_
  refine BK rfl ⟨?_, ?_⟩
  · exact (Po rfl (AM rfl rfl) rfl rfl (Po rfl (AM rfl rfl) rfl rfl (Pk (Pk (Pk (Pk (Pk (Pk (Pk (Pk (Pk (Pk (Pk Au)))))))))))))
  refine Pf 16 rfl (Az rfl) (Pf 17 rfl (Az rfl) ?_)
  refine A2 (by kernel_rfl) ?_
  refine AB (.t3 0 8 9) ?_
  refine AA (Gs (Gm rfl (Gt (AZ rfl BT .m0 (AS.id AH.fl.len AH.fl.one) rfl) (Gt (BS rfl) (Gt (Af Du rfl) ?_)))))
  refine AR (AK AJ.l0 rfl rfl rfl Dt rfl (.t (.t (.t .h)))) ?_
  refine Gn (.t2 0 9) (AI (Gm rfl (Gm rfl ?_)))
  refine BD rfl Un (.c rfl (.c rfl .n)) (.c (.t (.t (.t .h))) (.c (.t (.t (.t .h))) (.c (.t (.t (.t .h))) (.c (.t .h) .n)))) (Ed _ { V with w := (AG.Ff V.w (V.Ap.at k).A7 (Words.parse u).1).1 } ls ev _ (AG.Ff V.w (V.Ap.at k).A7 (Words.parse u).1).2.1 n (by assumption) htn (by omega) (Nat.le_trans hF.last (by omega)) (fun e he c _ => hds.2 e he)) (fun w hS => ⟨gl0.pull gm0 hS (.c (.t (.t (.t .h))) (.c (.t (.t (.t .h))) (.c (.t (.t (.t .h))) (.c (.t .h) .n)))), gl1.pull gm1 hS (.c (.t (.t (.t .h))) (.c (.t (.t (.t .h))) (.c (.t (.t (.t .h))) (.c (.t .h) .n))))⟩) (fun v15 B hv => ?_)
  obtain ⟨y16, y17, y18, rfl, y19, rfl⟩ := hv
  refine AP ?_
  refine Bf rfl .n ?_
  intro w1 hS
  have hS := (hS.perm (Av.perm (.c .h (.c .h (.c .h .n))))).Ay
  refine ⟨_, ⟨y16, y17, y18, rfl, ?ga3, rfl⟩, hS⟩
  case ga3 => exact TR hk.1 hk.2 c1 c2 y19
 ·
  refine BG rfl Li rfl (fun b3 => ?_)
  refine Bn rfl ⟨?_, ?_⟩
  · exact (Po rfl (AZ rfl B8 .m1 (AS.id Order.fl.len Order.fl.one) rfl) rfl rfl (Po rfl (AF rfl A1 .m2 ((AJ.l1.comp (AS.arr (n := 4) A0.fl hk.1 hk.2)).comp A0.l1) rfl rfl) rfl rfl (Po rfl (Af Hl rfl) rfl rfl (Po rfl (BS rfl) rfl rfl (Po rfl (AE rfl) rfl rfl (Po rfl (AZ rfl BT .m2 AJ.l0 rfl) rfl rfl (Po rfl (Af Du rfl) rfl rfl (Po rfl (BS rfl) rfl rfl (Po rfl (AE rfl) rfl rfl Au)))))))))
  refine An 9 rfl (by kernel_rfl) ?_
  refine BD rfl Wy (.c rfl (.c rfl (.c rfl .n))) .n (Fw V.w (V.Ap.at k).A7 (Words.parse u).1 hF.G9.L4 (by have := hps.2.1; omega) (by have := hps.1; omega)) (fun w hS => ⟨gl1.pull gm1 hS .n, gl2.pull gm2 hS .n, gl3.pull gm3 hS .n⟩) (fun v20 B hv => ?_)
  obtain ⟨y21, rfl, y22, rfl⟩ := hv
  refine Bn rfl ⟨?_, ?_⟩
  · exact (Pk (Pk (Pk (Pk (Pk (Pk (Pk (Pk (Pk Au)))))))))
  refine Pf 10 rfl (AE rfl) (Pf 11 rfl (AM rfl rfl) (Pf 12 rfl (AM rfl rfl) (Pf 13 rfl (AM rfl rfl) ?_)))
  refine An 15 rfl (by kernel_rfl) ?_
  refine AR (AK (AS.id AH.fl.len AH.fl.one) rfl rfl rfl Dt rfl (.t .h)) ?_
  refine BK rfl ⟨?_, ?_⟩
  · exact (Po rfl (AM rfl rfl) rfl rfl (Po rfl (AM rfl rfl) rfl rfl (Pk (Pk (Pk (Pk (Pk (Pk (Pk (Pk (Pk (Pk (Pk Au)))))))))))))
  refine Pf 16 rfl (Az rfl) (Pf 17 rfl (Az rfl) ?_)
  refine A2 (by kernel_rfl) ?_
  refine AB (.t3 0 8 9) ?_
  refine AA (Gs (Gm rfl (Gt (AZ rfl BT .m1 (AS.id AH.fl.len AH.fl.one) rfl) (Gt (BS rfl) (Gt (Af Du rfl) ?_)))))
  refine AR (AK AJ.l0 rfl rfl rfl Dt rfl (.t (.t (.t .h)))) ?_
  refine Gn (.t2 0 9) (AI (Gm rfl (Gm rfl ?_)))
  refine BD rfl Un (.c rfl (.c rfl .n)) (.c (.t (.t (.t .h))) (.c (.t (.t (.t .h))) (.c (.t (.t (.t .h))) (.c .h .n)))) (Ed _ { V with w := (AG.Ff V.w (V.Ap.at k).A7 (Words.parse u).1).1 } ls ev _ (AG.Ff V.w (V.Ap.at k).A7 (Words.parse u).1).2.1 n (by assumption) htn (by omega) (Nat.le_trans hF.last (by omega)) (fun e he c _ => hds.2 e he)) (fun w hS => ⟨gl0.pull gm0 hS (.c (.t (.t (.t .h))) (.c (.t (.t (.t .h))) (.c (.t (.t (.t .h))) (.c .h .n)))), gl1.pull gm1 hS (.c (.t (.t (.t .h))) (.c (.t (.t (.t .h))) (.c (.t (.t (.t .h))) (.c .h .n))))⟩) (fun v24 B hv => ?_)
  obtain ⟨y25, y26, y27, rfl, y28, rfl⟩ := hv
  refine AP ?_
  refine Bf rfl .n ?_
  intro w1 hS
  have hS := (hS.perm (Av.perm (.c .h (.c .h (.c .h .n))))).Ay
  refine ⟨_, ⟨y25, y26, y27, rfl, ?ga4, rfl⟩, hS⟩
  case ga4 => exact TR hk.1 hk.2 c1 c2 y28
theorem PR (b : Nat) (V : AJ) (ls : Vector BE 4) (ev : List Ing.Event) (k : Int) (n m : Nat) (hk : 0 ≤ k ∧ k < 4) (hF : AL.Fit (A3 V ls ev) n m) (hn : n ≤ 900000) (hm : m ≤ 900000) : Eu Tryz.prog 77 #[.pointer (some ⟨b, 0, none⟩), .pointer (some ⟨b, 165 + k.toNat * 22, none⟩)] [Ac.box b 101 (AJ.enc V), Ac.DY (B6 9 (AJ.Ap V) ls), Ac.own (AJ.last V) 56 16 ((ev).flatMap Ing.Event.enc)] (fun w => (GV 2 FV w ∧ 2 ∉ CW [Ac.box b 101 (AJ.enc V), Ac.DY (B6 9 (AJ.Ap V) ls), Ac.own (AJ.last V) 56 16 ((ev).flatMap Ing.Event.enc)]) ∧ (GV 0 AH.C4 w ∧ 0 ∉ CW [Ac.box b 101 (AJ.enc V), Ac.DY (B6 9 (AJ.Ap V) ls), Ac.own (AJ.last V) 56 16 ((ev).flatMap Ing.Event.enc)]) ∧ (GG 7 w ∧ 7 ∉ CW [Ac.box b 101 (AJ.enc V), Ac.DY (B6 9 (AJ.Ap V) ls), Ac.own (AJ.last V) 56 16 ((ev).flatMap Ing.Event.enc)]) ∧ (GG 8 w ∧ 8 ∉ CW [Ac.box b 101 (AJ.enc V), Ac.DY (B6 9 (AJ.Ap V) ls), Ac.own (AJ.last V) 56 16 ((ev).flatMap Ing.Event.enc)])) (fun v B => ∃ V' ls' ev', v = .tuple #[] ∧ A3 V' ls' ev' = AL.EN (A3 V ls ev) k ∧ B = [Ac.box b 101 (AJ.enc V'), Ac.DY (B6 9 (AJ.Ap V') ls'), Ac.own (AJ.last V') 56 16 ((ev').flatMap Ing.Event.enc)]) := by
 intro w hS0 hH
 obtain ⟨⟨gl0, gm0⟩, ⟨gl1, gm1⟩, ⟨gl2, gm2⟩, ⟨gl3, gm3⟩⟩ := hH
 refine Aj _ _ Tryz.func77 rfl rfl rfl (hS0) ?_
 refine CA (Gm rfl (Gt (BS rfl) (Gt (Af IH rfl) (Gt (AF rfl A1 .m0 ((AJ.l1.comp (AS.arr (n := 4) A0.fl hk.1 hk.2)).comp A0.l0) rfl rfl) (Gt (Ai rfl rfl) (Gn (.t3 0 1 11) ?_))))))
 refine Gc (fun c1 => ?_) (fun c1 => ?_)
 ·
  refine Ab (AD ?_)
  refine AY rfl .n ?_
  intro w1 hS
  have hS := (hS.perm (Av.perm (.c .h (.c .h (.c .h .n))))).Ay
  exact ⟨_, ⟨V, ls, ev, rfl, UY hk.1 hk.2 c1, rfl⟩, hS⟩
 have c1p := kz c1
 refine Aa ?_
 refine AB (.t2 0 1) ?_
 refine AA (Gs (Ga rfl (Gn (.t2 0 1) (Gs (Ga rfl (Gn (.t2 0 1) (Ao ?_)))))))
 refine Ao ?_
 refine Er (k := k) hk.1 hk.2 (fun sv sl hsv hlv hln => ?_)
 refine AI (Gm rfl (Gm rfl (Gt (BS rfl) (Gt (Af KW rfl) (Gt (AZ rfl HL .m3 ((AS.BL V hk.1 hk.2).comp A0.l3) rfl) ?_)))))
 refine BD rfl bx (.c rfl .n) .n (NB _ _ (by have h := (Uz hF hk.1 hk.2).1; rw [hlv] at h; omega)) (fun w hS => ⟨(Kn.own .m0) w hS, (Um.own .m0) w hS⟩) (fun v1 B hv => ?_)
 rcases hv with ⟨y2, rfl, rfl⟩ | ⟨y3, y4, y5, y6, rfl, y7, rfl⟩
 ·
  refine Gm rfl (Gt (AM rfl rfl) (Gt (AM rfl rfl) (Gt (AM rfl rfl) (Gt (BS rfl) (Gt (Af KW rfl) ?_)))))
  refine AR (AK ((AS.BL V hk.1 hk.2).comp A0.l3) rfl rfl rfl LU rfl (.t (.t (.t .h)))) ?_
  refine Ga rfl (Ga rfl (Gn (.t4 0 1 4 5) (Gs (Gm rfl (Gt (BO rfl) (Gn (.t4 0 1 4 25) ?_))))))
  refine FM rfl rfl ?_
  refine Ab (AD ?_)
  refine AY rfl .n ?_
  intro w1 hS
  have hS := (hS.perm (Av.perm (.c .h (.c .h (.c .h (.c .h (.c .h (.c .h .n)))))))).Ay
  have hS := hS.close' hk.1 hk.2 (by rfl) (by rfl) (by rfl)
  refine ⟨_, ⟨V.BL k sv, ls.put k ⟨sl.queue, sl.wait, sl.told⟩, ev, rfl, ?ga2, rfl⟩, hS⟩
  case ga2 => exact Ub hk.1 hk.2 hsv hlv y2 c1
 refine Gm rfl (Gt (AM rfl rfl) (Gt (AM rfl rfl) (Gt (AM rfl rfl) (Gt (BS rfl) (Gt (Af KW rfl) ?_)))))
 refine AR (AK ((AS.BL V hk.1 hk.2).comp A0.l3) rfl rfl rfl LU rfl (.t (.t (.t (.t .h))))) ?_
 refine Ga rfl (Ga rfl (Gn (.t4 0 1 4 5) (Gs (Gm rfl (Gt (BO rfl) (Gn (.t4 0 1 4 25) ?_))))))
 refine DX rfl rfl ?_
 refine Aa ?_
 refine AB (.t3 0 1 4) ?_
 refine AA (Gs (Gm rfl (Gt (BS rfl) (Gt (Af Db rfl) (Gt (Af Ly rfl) (Gt (AF rfl Ct .m4 (((AS.BL V hk.1 hk.2).comp A0.l4).comp Ar.l2) rfl rfl) (Ga rfl ?_)))))))
 refine Gn (.t4 0 1 4 6) (Gs (Gm rfl (Gm rfl (Gt (BS rfl) (Gt (Af Db rfl) (Gt (AZ rfl Cn .m4 ((AS.BL V hk.1 hk.2).comp A0.l4) rfl) ?_))))))
 refine A8 rfl bm (.c rfl .n) (fun w hS => MV _ w) ?_
 refine Gt (BS rfl) (Gt (Af Db rfl) ?_)
 refine AR (AK ((AS.BL V hk.1 hk.2).comp A0.l4) rfl rfl rfl E4 rfl (.t (.t (.t (.t .h))))) ?_
 refine Gn (.t4 0 1 4 6) (Ae (Ao ?_))
 refine D6 (.c .h (.c (.t .h) (.c (.t .h) (.c (.t .h) (.c (.t .h) .n))))) ?_
 refine GZ hk.1 hk.2 (by rfl) (by rfl) (by rfl) ?_
 refine AI (Gm rfl (Ga rfl (Gn (.t4 0 1 4 43) ?_)))
 refine Gc (fun c2 => ?_) (fun c2 => ?_)
 ·
  refine Aa ?_
  refine AB (.nil _) ?_
  refine AT ?_
  refine Bf rfl .n ?_
  intro w1 hS
  have hS := (hS.perm (Av.perm (.c .h (.c .h (.c (.t .h) .n))))).Ay
  exact ⟨_, ⟨(AJ.BL V k { sv with Dv := ⟨sv.Dv.now, sv.Dv.Cc, sv.Dv.ret, y6⟩, out := ⟨sv.out.wait, 0, false, sv.out.ring, sv.out.cut⟩ }), (ls.put k ⟨y4, sl.wait, sl.told⟩), ev, rfl, (DO (ev := ev) hk.1 hk.2 hsv hlv y5 c1 y6).1.trans ((DO (ev := ev) hk.1 hk.2 hsv hlv y5 c1 y6).2.2.trans (if_pos c2)).symm, rfl⟩, hS⟩
 have c2p := kz c2
 refine Gs (Gm rfl (Gt (BS rfl) (Gt (Af IH rfl) (Gt (AF rfl A1 .m0 ((AJ.l1.comp (AS.arr (n := 4) A0.fl hk.1 hk.2)).comp A0.l0) rfl rfl) (Gt (Ai rfl rfl) (Ga rfl (Gn (.t4 0 1 4 45) ?_)))))))
 refine Gc (fun c3 => ?_) (fun c3 => ?_)
 ·
  have c3p := kz c3
  refine AI (Gm rfl (Gm rfl (Gm rfl ?_)))
  refine A8 rfl Zg (.c rfl (.c rfl .n)) (fun w hS => HN y3 (by have h : y3.length ≤ 1000 := (by have h := (hF.queue k hk.1 hk.2).2 y3 (by rw [(DO (ev := ev) hk.1 hk.2 hsv hlv y5 c1 y6).2.1]; exact List.mem_cons_self ..); omega); omega) w) ?_
  refine BD rfl cA (.c rfl (.c rfl (.c rfl .n))) (.c .h (.c .h (.c (.t .h) .n))) (Pq _ (AJ.BL V k { sv with Dv := ⟨sv.Dv.now, sv.Dv.Cc, sv.Dv.ret, y6⟩, out := ⟨sv.out.wait, 0, false, sv.out.ring, sv.out.cut⟩ }) (ls.put k ⟨y4, sl.wait, sl.told⟩) ev k _ n m hk (by rw [(DO (ev := ev) hk.1 hk.2 hsv hlv y5 c1 y6).1]; exact hF.FR hk.1 hk.2 (DO (ev := ev) hk.1 hk.2 hsv hlv y5 c1 y6).2.1) hn hm (by have h : y3.length ≤ 1000 := (by have h := (hF.queue k hk.1 hk.2).2 y3 (by rw [(DO (ev := ev) hk.1 hk.2 hsv hlv y5 c1 y6).2.1]; exact List.mem_cons_self ..); omega); have h1 := Words.Kl 32 (Words.Q4 32 y3); have h2 := Words.QU 32 y3; omega)) (fun w hS => ⟨gl0.pull gm0 hS (.c .h (.c .h (.c (.t .h) .n))), gl1.pull gm1 hS (.c .h (.c .h (.c (.t .h) .n)))⟩) (fun v9 B hv => ?_)
  obtain ⟨y10, y11, y12, rfl, y13, rfl⟩ := hv
  refine AP (AB (.nil _) ?_)
  refine AT ?_
  refine Bf rfl .n ?_
  intro w1 hS
  have hS := (hS.perm (Av.perm (.c .h (.c .h (.c .h .n))))).Ay
  have c9 : decide (sv.state = 1) = true := by
    have h := c3
    rw [show (AJ.Ap (AJ.BL V k { sv with Dv := ⟨sv.Dv.now, sv.Dv.Cc, sv.Dv.ret, y6⟩, out := ⟨sv.out.wait, 0, false, sv.out.ring, sv.out.cut⟩ })).at k = _ from Vector.CM hk.1 hk.2] at h
    exact h
  refine ⟨_, ⟨y10, y11, y12, rfl, ?ga4, rfl⟩, hS⟩
  case ga4 => exact y13.trans ((congrArg (fun X => AL.named X k _) (DO (ev := ev) hk.1 hk.2 hsv hlv y5 c1 y6).1).trans ((DO (ev := ev) hk.1 hk.2 hsv hlv y5 c1 y6).2.2.trans ((AU c2).trans (BB c9))).symm)
 have c3p := kz c3
 refine AI (Gm rfl (Gm rfl (Gm rfl ?_)))
 refine BD rfl bQ (.c rfl (.c rfl (.c rfl .n))) (.c .h (.c .h (.c (.t .h) .n))) (OP _ (AJ.BL V k { sv with Dv := ⟨sv.Dv.now, sv.Dv.Cc, sv.Dv.ret, y6⟩, out := ⟨sv.out.wait, 0, false, sv.out.ring, sv.out.cut⟩ }) (ls.put k ⟨y4, sl.wait, sl.told⟩) ev k _ n m hk (by rw [(DO (ev := ev) hk.1 hk.2 hsv hlv y5 c1 y6).1]; exact hF.FR hk.1 hk.2 (DO (ev := ev) hk.1 hk.2 hsv hlv y5 c1 y6).2.1) hn hm (by have h := (hF.queue k hk.1 hk.2).2 y3 (by rw [(DO (ev := ev) hk.1 hk.2 hsv hlv y5 c1 y6).2.1]; exact List.mem_cons_self ..); omega)) (fun w hS => ⟨gl0.pull gm0 hS (.c .h (.c .h (.c (.t .h) .n))), gl1.pull gm1 hS (.c .h (.c .h (.c (.t .h) .n))), gl2.pull gm2 hS (.c .h (.c .h (.c (.t .h) .n))), gl3.pull gm3 hS (.c .h (.c .h (.c (.t .h) .n)))⟩) (fun v14 B hv => ?_)
 obtain ⟨y15, y16, y17, rfl, y18, rfl⟩ := hv
 refine AP (AB (.nil _) ?_)
 refine AT ?_
 refine Bf rfl .n ?_
 intro w1 hS
 have hS := (hS.perm (Av.perm (.c .h (.c .h (.c .h .n))))).Ay
 have c9 : decide (sv.state = 1) = false := by
   have h := c3
   rw [show (AJ.Ap (AJ.BL V k { sv with Dv := ⟨sv.Dv.now, sv.Dv.Cc, sv.Dv.ret, y6⟩, out := ⟨sv.out.wait, 0, false, sv.out.ring, sv.out.cut⟩ })).at k = _ from Vector.CM hk.1 hk.2] at h
   exact h
 refine ⟨_, ⟨y15, y16, y17, rfl, ?ga5, rfl⟩, hS⟩
 case ga5 => exact y18.trans ((congrArg (fun X => AL.order X k _) (DO (ev := ev) hk.1 hk.2 hsv hlv y5 c1 y6).1).trans ((DO (ev := ev) hk.1 hk.2 hsv hlv y5 c1 y6).2.2.trans ((AU c2).trans (AU c9))).symm)
theorem N9 (X : AH) (b : Int) (hF : (AG.FW X b).Fit) : Eu Tryz.prog 97 #[.agg X.enc.toArray, .int .i64 b] [] (fun w => (GV 0 AH.C4 w ∧ 0 ∉ CW [])) (fun v B => ∃ h : Hd, v = .tuple #[.agg ((AG.IQ X b).w.enc).toArray, h.val] ∧ h.len = (AG.IQ X b).out.length ∧ B = [Ac.own h 56 16 ((AG.IQ X b).out.flatMap Ing.Event.enc)]) := by
 intro w hS0 hH
 obtain ⟨gl0, gm0⟩ := hH
 have hb : 0 ≤ b ∧ b < 6 := hF.b
 refine Aj _ _ Tryz.func97 rfl rfl rfl (hS0) ?_
 refine Gs ?_
 refine Bu rfl rfl rfl (fun b1 => ?_)
 refine BG rfl Li rfl (fun b2 => ?_)
 refine Ga rfl (Gn (.t3 1 2 4) (Gs (Gt (AZ rfl BT .m1 (AS.id AH.fl.len AH.fl.one) rfl) (Gm rfl (Gt (A9 TL TV rfl (.cons Ad.l0 rfl rfl rfl (.cons Ad.l1 rfl rfl rfl .nil))) ?_)))))
 refine Bu rfl rfl rfl (fun b3 => ?_)
 refine Ga rfl (Gn (.t3 1 4 6) (Gs (Gm rfl (Gm rfl (Gt (BS rfl) (Gt (Af A6 rfl) (Gt (Af Bi rfl) ?_)))))))
 refine Gt (AQ Cy rfl rfl (by first | omega | exact hb.1 | exact hb.2 | (dsimp only; omega)) (by first | omega | exact hb.1 | exact hb.2 | (dsimp only; omega))) ?_
 refine Gt (Af I2 rfl) ?_
 refine AR (AK (((Ad.l0.comp AH.l2).comp (AS.ar (n := 6) Al.fl (by first | omega | exact hb | (dsimp only; omega)))).comp Al.l4) rfl rfl rfl C3 rfl .h) ?_
 refine Gn (.t3 1 4 6) (Gs (Gm rfl ?_))
 refine DI Ing.Event.enc 56 16 ?_
 refine Ag rfl S1 (.c rfl (.c rfl .n)) (.c (.t .h) (.c .h .n)) (Ft _ (AG.FW X b) _ 15 rfl hb (Nat.zero_le _)) (fun v2 B hv => ?_)
 obtain ⟨y3, rfl, y4, rfl⟩ := hv
 refine Gn (.t3 1 4 6) (Gs (Gm rfl ?_))
 refine Ag rfl YF (.c rfl .n) (.c .h .n) (Kz _ ((AG.FW X b).kind 15) _ (hF.PW rfl rfl)) (fun v5 B hv => ?_)
 obtain ⟨y6, y7, rfl, rfl⟩ := hv
 refine Gn (.t3 1 4 6) (CA (Gm rfl (Gt (A5 rfl rfl) (Gn (.t4 1 4 6 24) ?_))))
 refine Gc (fun c1 => ?_) (fun c1 => ?_)
 ·
  have c1p := kz c1
  refine Gs (Gm rfl (Gm rfl (Gt (A9 U9 LM rfl .nil) (Gt (BS rfl) (Gt (Af A6 rfl) (Gt (Af Bi rfl) ?_))))))
  refine Gt (AQ Cy rfl rfl (by first | omega | exact hb.1 | exact hb.2 | (dsimp only; omega)) (by first | omega | exact hb.1 | exact hb.2 | (dsimp only; omega))) ?_
  refine AR (AK ((Ad.l0.comp AH.l2).comp (AS.ar (n := 6) Al.fl (by first | omega | exact hb | (dsimp only; omega)))) rfl rfl rfl Jm rfl .h) ?_
  refine Gn (.t2 4 6) (Ao ?_)
  refine BF (N := 10) [0, 1, 3, 7, 0, 16, 48, 112, 15, 511] mix (by kernel_rfl) rfl ?_
  refine Pf 0 rfl (AE rfl) (Pf 1 rfl (BS rfl) (Pf 2 rfl (Af A6 rfl) (Pf 3 rfl (AZ rfl BT .m0 Ad.l0 rfl) (Pf 4 rfl (AE rfl) (Pf 5 rfl (BS rfl) (Pf 6 rfl (Af CG rfl) (Pf 7 rfl (AF rfl DZ .m0 Ad.l2 rfl rfl) ?_)))))))
  refine An 8 rfl (by kernel_rfl) ?_
  refine AR (AK (AS.id AH.fl.len AH.fl.one) rfl rfl rfl Dt rfl (.t (.t .h))) ?_
  refine BK rfl ⟨?_, ?_⟩
  · exact (Po rfl (AF rfl DZ .m0 Ad.l2 rfl rfl) rfl rfl (Po rfl (Af CG rfl) rfl rfl (Po rfl (BS rfl) rfl rfl (Po rfl (AE rfl) rfl rfl (Pk (Pk (Pk (Pk Au))))))))
  refine Pf 9 rfl (Az rfl) ?_
  refine A2 (by kernel_rfl) ?_
  refine AB (.t2 4 5) ?_
  refine AA (Ab (AD ?_))
  refine AY rfl (.cell rfl .m2 (.inl ⟨(by rw [AH.fl.len]; exact BT), rfl⟩) (.tmp rfl .n)) ?_
  intro w1 hS
  have hS := (hS.perm (Av.perm (.c (.t .h) .n))).Ay
  have hq : AG.IQ X b = _ := BB c1
  rw [AG.TG y7] at hq
  refine ⟨_, ⟨y3, ?hv, ?hl, ?hB⟩, hS⟩
  case hv => rw [hq]; rfl
  case hl => rw [hq]; exact y4
  case hB => rw [hq]
 have c1p := kz c1
 refine Aa ?_
 refine AB (.t3 1 4 6) ?_
 refine AA (Gs (Gm rfl (Gm rfl (Gt (BS rfl) (Gt (Af A6 rfl) (Gt (Af Bi rfl) ?_))))))
 refine Gt (AQ Cy rfl rfl (by first | omega | exact hb.1 | exact hb.2 | (dsimp only; omega)) (by first | omega | exact hb.1 | exact hb.2 | (dsimp only; omega))) ?_
 refine Ga rfl (Gn (.t3 4 6 7) (Gs (Gm rfl (Gm rfl (Gt (BS rfl) (Gt (Af Cx rfl) ?_))))))
 refine AR (AK (((Ad.l0.comp AH.l2).comp (AS.ar (n := 6) Al.fl (by first | omega | exact hb | (dsimp only; omega)))).comp Al.l3) rfl rfl rfl C3 rfl .h) ?_
 refine Gt (BS rfl) (Gt (Af I2 rfl) ?_)
 refine AR (AK (((Ad.l0.comp AH.l2).comp (AS.ar (n := 6) Al.fl (by first | omega | exact hb | (dsimp only; omega)))).comp Al.l4) rfl rfl rfl C3 rfl .h) ?_
 refine Gn (.t2 4 6) (Ao ?_)
 refine Fh (fun _ => .h) (congrArg (fun q => Ad.enc ⟨q, b, y3⟩) (AG.XU y6 hb)) ?_
 have hT2 := AG.W6 y7
 have hf2 := AG.RJ hF
 rw [hT2] at hf2
 refine AI (Gm rfl ?_)
 refine Ag rfl S1 (.c rfl (.c rfl .n)) (.c .h (.c .h .n)) (Ft _ (⟨y6.Cz b { y6.AW.at b with room := 0, BM := 10 }, b, ((AG.FW X b).kind 15).out⟩ : AG) _ 17 y4 hb (by decide : (0 : Nat) + 1 ≤ 100000)) (fun v8 B hv => ?_)
 obtain ⟨y9, rfl, y10, rfl⟩ := hv
 refine Gn (.t2 4 6) (Gs (Gm rfl ?_))
 refine BD rfl Td (.c rfl .n) (.c .h (.c .h .n)) (Gh _ ((⟨y6.Cz b { y6.AW.at b with room := 0, BM := 10 }, b, ((AG.FW X b).kind 15).out⟩ : AG).kind 17) _ y10 hb hf2.br (by decide : (0 : Nat) + 1 + 1 ≤ 90000)) (fun w hS => gl0.pull gm0 hS (.c .h (.c .h .n))) (fun v11 B hv => ?_)
 obtain ⟨y12, rfl, y13, rfl⟩ := hv
 refine Gn (.t2 4 6) (Ao ?_)
 refine BF (N := 10) [0, 1, 3, 7, 0, 16, 48, 112, 15, 511] mix (by kernel_rfl) rfl ?_
 refine Pf 0 rfl (AE rfl) (Pf 1 rfl (BS rfl) (Pf 2 rfl (Af A6 rfl) (Pf 3 rfl (AZ rfl BT .m0 Ad.l0 rfl) (Pf 4 rfl (AE rfl) (Pf 5 rfl (BS rfl) (Pf 6 rfl (Af CG rfl) (Pf 7 rfl (AF rfl DZ .m0 Ad.l2 rfl rfl) ?_)))))))
 refine An 8 rfl (by kernel_rfl) ?_
 refine AR (AK (AS.id AH.fl.len AH.fl.one) rfl rfl rfl Dt rfl (.t (.t .h))) ?_
 refine BK rfl ⟨?_, ?_⟩
 · exact (Po rfl (AF rfl DZ .m0 Ad.l2 rfl rfl) rfl rfl (Po rfl (Af CG rfl) rfl rfl (Po rfl (BS rfl) rfl rfl (Po rfl (AE rfl) rfl rfl (Pk (Pk (Pk (Pk Au))))))))
 refine Pf 9 rfl (Az rfl) ?_
 refine A2 (by kernel_rfl) ?_
 refine AB (.t2 4 5) ?_
 refine AA (Ab ?_)
 refine AY rfl (.cell rfl .m2 (.inl ⟨(by rw [AH.fl.len]; exact BT), rfl⟩) (.tmp rfl .n)) ?_
 intro w1 hS
 have hS := (hS.perm (Av.perm (.c (.t .h) .n))).Ay
 have hq : AG.IQ X b = _ := AU c1
 rw [hT2] at hq
 refine ⟨_, ⟨y12, ?hv, ?hl, ?hB⟩, hS⟩
 case hv => rw [hq]; rfl
 case hl => rw [hq]; exact y13
 case hB => rw [hq]
end Go.Proofs.YtoidpggbbfncpaaGreatDoor
