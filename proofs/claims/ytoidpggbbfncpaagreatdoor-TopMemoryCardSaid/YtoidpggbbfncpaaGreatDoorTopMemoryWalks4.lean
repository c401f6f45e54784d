/- What the functions that the law TopMemory reaches compute: walks, part 4. No condition. -/
import Derived.Test.YtoidpggbbfncpaaGreatDoorCards
import Derived.Test.YtoidpggbbfncpaaGreatDoorTie
import Derived.Deep.DeepHandedRow
import Derived.Test.YtoidpggbbfncpaaGreatDoorRows
import Derived.Test.YtoidpggbbfncpaaGreatDoorTopMemoryEc3
import Derived.Test.YtoidpggbbfncpaaGreatDoorTopMemoryRa1
import Derived.Test.YtoidpggbbfncpaaGreatDoorTopMemoryRb1
import Derived.Test.YtoidpggbbfncpaaGreatDoorTopMemoryRc1
import Derived.Test.YtoidpggbbfncpaaGreatDoorTopMemoryWalks
import Derived.Test.YtoidpggbbfncpaaGreatDoorTopMemoryWalks2
import Derived.Test.YtoidpggbbfncpaaGreatDoorTopMemoryWalks3
set_option linter.unusedSimpArgs false
set_option linter.unusedVariables false
set_option maxRecDepth 100000
set_option maxHeartbeats 1000000
namespace Go.Proofs.YtoidpggbbfncpaaGreatDoor
open Go Go.Ing Go.RowKit Go.ChangeShapes Go.WideShapes Go.ChangeAt
theorem Qx (b : Nat) (T : AG) (g : Hd) (o : Order) (hg : g.len = T.out.length) (hF : T.Fit) (hv : o.verb = 8 ∨ o.verb = 9 ∨ o.verb = 10) (hu : o.second.length ≤ 5000000) (hn : T.out.length ≤ 90000) : Ev Tryz.prog 106 #[.pointer (some ⟨b, 0, none⟩), .agg o.enc.toArray] [Ab.box b 163 (Ad.enc ⟨T.w, T.b, g⟩), Ab.own g 56 16 (T.out.flatMap Ing.Event.enc)] (fun w => (F2 7 w ∧ 7 ∉ CR [Ab.box b 163 (Ad.enc ⟨T.w, T.b, g⟩), Ab.own g 56 16 (T.out.flatMap Ing.Event.enc)]) ∧ (F2 8 w ∧ 8 ∉ CR [Ab.box b 163 (Ad.enc ⟨T.w, T.b, g⟩), Ab.own g 56 16 (T.out.flatMap Ing.Event.enc)])) (fun v B => ∃ g' : Hd, v = .tuple #[] ∧ g'.len = (T.G6 o).out.length ∧ B = [Ab.box b 163 (Ad.enc ⟨(T.G6 o).w, (T.G6 o).b, g'⟩), Ab.own g' 56 16 ((T.G6 o).out.flatMap Ing.Event.enc)]) := by
 intro w hS0 hH
 obtain ⟨⟨gl0, gm0⟩, ⟨gl1, gm1⟩⟩ := hH
 have hb := hF.b
 have hr := hF.room
 refine Ai _ _ Tryz.func106 rfl rfl rfl (hS0) ?_
 refine Gs ?_
 refine Bw rfl rfl rfl (fun b1 => ?_)
 refine Gn (.t2 0 3) (Gs (Ga rfl (Ga rfl (AM (AA ?_)))))
 refine BU (.t (.t .h)) ?_
 refine BU (.t (.t .h)) ?_
 refine XK (Lm := [_, _]) (fun (X : AG) (to : Int) (p : Bool) (j : Hd) => X = (T.DG o).1 ∧ to = (T.DG o).2.1 ∧ p = (T.DG o).2.2 ∧ j.len = X.out.length) (fun (X : AG) (to : Int) (p : Bool) (j : Hd) => [(4, .int .i64 to), (5, .bool p)]) (fun (X : AG) (to : Int) (p : Bool) (j : Hd) => [Ab.box b 163 (Ad.enc ⟨X.w, X.b, j⟩), Ab.own j 56 16 (X.out.flatMap Ing.Event.enc)]) (.t2 0 3) rfl ?_ (fun X to p j hC => ?_)
 ·
  refine Gs (Gt (Ah C4 rfl) (Gt (AF rfl A1 .m2 Order.l0 rfl rfl) (Gn (.t5 0 3 4 5 11) (Ae (Gs (Gt (Aj rfl rfl) (Ga rfl ?_)))))))
  refine Gn (.t6 0 3 4 5 11 12) ?_
  refine Gc (fun c1 => ?_) (fun c1 => ?_)
  ·
   have c1p := kz c1
   refine AJ (Gm rfl (Gt (Ah HR rfl) (Gt (AF rfl CC .m2 Order.l4 rfl rfl) ?_)))
   refine BF rfl YB (.c rfl (.c rfl .n)) (.c .h (.c .h .n)) (MF _ T _ _ hg hF hu (by omega)) (fun w hS => ⟨gl0.pull gm0 hS (.c .h (.c .h .n)), gl1.pull gm1 hS (.c .h (.c .h .n))⟩) (fun v1 B hv => ?_)
   obtain ⟨y2, rfl, y3, rfl⟩ := hv
   refine Gm rfl (Gt (AL rfl rfl) (Gt (AL rfl rfl) (Ga rfl (Ga rfl ?_))))
   refine AM (AB (.t4 0 3 4 5) ?_)
   refine AU ?_
   refine QC _ _ _ _ ?_ (.t4 4 5 0 3) (.refl _)
   · have ht : T.DG o = _ := BC c1
     exact ⟨by rw [ht], by rw [ht], by rw [ht], by assumption⟩
  have c1p := kz c1
  refine Gs (Gt (Aj rfl rfl) (Ga rfl (Gn (.t5 0 3 4 5 21) ?_)))
  refine Gc (fun c2 => ?_) (fun c2 => ?_)
  ·
   have c2p := kz c2
   refine AJ (Gm rfl (Gt (Ah HR rfl) (Gt (AF rfl CC .m2 Order.l4 rfl rfl) ?_)))
   refine BF rfl YA (.c rfl (.c rfl .n)) (.c .h (.c .h .n)) (IC _ T _ _ hg hF hu (by omega)) (fun w hS => ⟨gl0.pull gm0 hS (.c .h (.c .h .n)), gl1.pull gm1 hS (.c .h (.c .h .n))⟩) (fun v4 B hv => ?_)
   obtain ⟨y5, rfl, y6, rfl⟩ := hv
   refine Gm rfl (Gt (AL rfl rfl) (Gt (AL rfl rfl) (Ga rfl (Ga rfl ?_))))
   refine AM (AB (.t4 0 3 4 5) ?_)
   refine AU ?_
   refine QC _ _ _ _ ?_ (.t4 4 5 0 3) (.refl _)
   · have ht : T.DG o = _ := (AV c1).trans (BC c2)
     exact ⟨by rw [ht], by rw [ht], by rw [ht], by assumption⟩
  have c2p := kz c2
  refine Aa ?_
  refine AB (.t4 0 3 4 5) ?_
  refine AU ?_
  refine QC _ _ _ _ ?_ (.t4 4 5 0 3) (.refl _)
  · have ht : T.DG o = _ := (AV c1).trans (AV c2)
    exact ⟨by rw [ht], by rw [ht], by rw [ht], by assumption⟩
 obtain ⟨hD1, hD2, hD3, hD4⟩ := hC
 have hXw := T.TE o
 have hXo : X.out.length ≤ T.out.length + 1 := by rw [hD1]; exact T.On o
 rw [← hD1] at hXw
 have hXF : X.Fit := hF.Pa hXw.1 hXw.2
 have hPl : ((AG.BP X.w X.own o.nth o.name o.Bn)).length ≤ 9 := AG.RR.2.2
 refine CB (Gm rfl (Gt (BQ rfl) (Gn (.t4 0 3 4 31) ?_)))
 refine Gc (fun c3 => ?_) (fun c3 => ?_)
 ·
  refine Ac (AD ?_)
  refine AY rfl .n ?_
  intro w1 hS
  have hS := (hS.perm (Av.perm (.c .h (.c .h .n)))).Ay
  have hq : T.G6 o = X := AG.UB hD1 hD3 c3
  refine ⟨_, ⟨?gq1, rfl, ?hl1, ?hB1⟩, hS⟩
  case hB1 => rw [hq]; (try rfl)
  case hl1 => rw [hq]; exact hD4
 have c3p := kz c3
 obtain ⟨hgo, hn0, hn9, hok⟩ := AG.Rv hD1 hD2 hD3 c3
 refine Aa ?_
 refine AB (.t3 0 3 4) ?_
 refine AA (Ao ?_)
 refine BE (N := 11) [0, 0, 2, 0, 8, 0, 32, 0, 128, 511, 1023] mix (by kernel_rfl) rfl ?_
 refine Pf 0 rfl (AE rfl) (Pf 1 rfl (AE rfl) (Pf 3 rfl (Ah Fv rfl) (Pf 4 rfl (AF rfl A1 .m2 Order.l1 rfl rfl) (Pf 5 rfl (Ah FQ rfl) (Pf 6 rfl (AF rfl CC .m2 Order.l3 rfl rfl) (Pf 7 rfl (Ah Gi rfl) (Pf 8 rfl (AF rfl Ct .m2 Order.l2 rfl rfl) ?_)))))))
 refine An 2 rfl (by kernel_rfl) ?_
 refine Ag rfl Sx (.c rfl .n) (.c .h .n) (HU _ X _ hXF) (fun v7 B hv => ?_)
 obtain ⟨y8, rfl, y9, rfl⟩ := hv
 refine Bm rfl ⟨?_, ?_⟩
 · exact (Po rfl (AF rfl Ct .m3 Order.l2 rfl rfl) rfl rfl (Po rfl (Ah Gi rfl) rfl rfl (Po rfl (AF rfl CC .m3 Order.l3 rfl rfl) rfl rfl (Po rfl (Ah FQ rfl) rfl rfl (Po rfl (AF rfl A1 .m3 Order.l1 rfl rfl) rfl rfl (Po rfl (Ah Fv rfl) rfl rfl (Pk (Po rfl (AE rfl) rfl rfl As))))))))
 refine An 9 rfl (by kernel_rfl) ?_
 refine Ag rfl Oq (.c rfl (.c rfl (.c rfl (.c rfl (.c rfl .n))))) (.c .h (.c .h .n)) (Ea _ X _ _ X.own _ _ _ hXF (by assumption) (Nat.le_trans X.Jg (by decide)) (fun i hi => AG.Kk hi)) (fun v11 B hv => ?_)
 obtain ⟨y12, rfl, y13, rfl⟩ := hv
 refine Bm rfl ⟨?_, ?_⟩
 · exact (Pk (Pk (Pk (Pk (Pk (Pk (Pk (Pk As))))))))
 refine Pf 10 rfl (Az rfl) ?_
 refine A3 (by kernel_rfl) ?_
 refine AB (.t4 0 3 4 6) ?_
 refine AA ?_
 refine BU (.t (.t (.t .h))) ?_
 refine BU (.t .h) ?_
 refine PO (Lm := [_, _]) (fun (Z : AG) (m : Hd) => Z = X.QS o ∧ m.len = Z.out.length) (fun (Z : AG) (m : Hd) => []) (fun (Z : AG) (m : Hd) => [Ab.box b 163 (Ad.enc ⟨Z.w, Z.b, m⟩), Ab.own m 56 16 (Z.out.flatMap Ing.Event.enc)]) (.t4 0 3 4 6) rfl ?_ (fun Z m hC => ?_)
 ·
  refine Gs (Gm rfl (Gt (Aq rfl Tryz.underlying169 rfl) (Gt (Aj rfl rfl) (Gn (.t5 0 3 4 6 44) ?_))))
  refine Gc (fun c4 => ?_) (fun c4 => ?_)
  ·
   have c4p := kz c4
   rw [y13] at c4
   refine AJ (Gm rfl ?_)
   refine Ag rfl D3 (.c rfl (.c rfl .n)) (.c .h (.c .h .n)) (Bb _ X _ _ (by assumption) (by rw [hXw.2]; exact hb) (by omega)) (fun v15 B hv => ?_)
   obtain ⟨y16, rfl, y17, rfl⟩ := hv
   refine AM (AB (.t4 0 3 4 6) ?_)
   refine EN _ _ ?_ (.t4 0 3 4 6) (.refl _)
   · exact ⟨(AG.Y1 (T := X) (o := o) c4).symm, by assumption⟩
  rw [y13] at c4
  refine Aa ?_
  refine AB (.t4 0 3 4 6) ?_
  refine EN _ _ ?_ (.t4 0 3 4 6) (.refl _)
  · exact ⟨(AG.ZF (T := X) (o := o) c4).symm, by exact hD4⟩
 obtain ⟨hE1, hE2⟩ := hC
 refine Gs (Gm rfl (Gt (Aq rfl Tryz.underlying169 rfl) (Gm rfl (Gn (.t6 0 3 4 47 48 49) (Ae ?_)))))
 refine Bf (.t6 49 0 3 4 47 48) ?_
 refine BU (.t .h) ?_
 refine BU (.t .h) ?_
 refine Dh (fun (k : Int) (V : AG) (f : Hd) => 0 ≤ k ∧ V = X.P1 to o k.toNat ∧ k ≤ ((AG.BP X.w X.own o.nth o.name o.Bn).length : Int) ∧ f.len = V.out.length) (fun (k : Int) (V : AG) (f : Hd) => (((AG.BP X.w X.own o.nth o.name o.Bn).length : Int) - k).toNat) (fun (k : Int) (V : AG) (f : Hd) => [(49, .int .i64 k)]) (fun (k : Int) (V : AG) (f : Hd) => [Ab.box b 163 (Ad.enc ⟨V.w, V.b, f⟩), Ab.own f 56 16 (V.out.flatMap Ing.Event.enc)]) (0) (_) (_) ?_ rfl rfl (fun k V f hI1 => ?_)
 · exact ⟨by omega, hE1, by omega, hE2⟩
 obtain ⟨hI11, hI12, hI13, hI14⟩ := hI1
 refine Gs (Gt (A5 rfl rfl) (AM (AA (Ao ?_))))
 refine Gc (fun c5 => ?_) (fun c5 => ?_)
 ·
  have c5p := kz c5
  have hx : 0 ≤ ((AG.BP X.w X.own o.nth o.name o.Bn).getD k.toNat 0) ∧ ((AG.BP X.w X.own o.nth o.name o.Bn).getD k.toNat 0) < 9 := AG.Kk (AG.Ek (Bc.Ef (xs := (AG.BP X.w X.own o.nth o.name o.Bn)) (i := k.toNat) (by omega)))
  have hVK := AG.VW X to o k.toNat
  rw [← hI12] at hVK
  have hVb := hVK.2
  have hVo := hVK.1
  have hbV : 0 ≤ V.b ∧ V.b < 6 := by rw [hVb, hXw.2]; exact hb
  refine Aa ?_
  refine AB (.t6 0 3 4 47 48 49) ?_
  refine AA (Ao (Ae (Gs ?_)))
  refine Gt (Bg GC (by decide) (Kn.own .m3) rfl rfl (by omega) (by omega)) ?_
  refine Gt (C8 rfl A1 (Kn.own .m3) (by omega)) ?_
  refine Ga rfl (Gn (.t7 0 3 4 8 47 48 49) (Gs (Gm rfl (Gm rfl (Gt (BS rfl) (Gt (Ah A6 rfl) (Gt (Ah Cq rfl) ?_)))))))
  refine Gt (AR Fo rfl rfl (by first | omega | exact hbV.1 | exact hbV.2 | (dsimp only; omega)) (by first | omega | exact hbV.1 | exact hbV.2 | (dsimp only; omega))) ?_
  refine Ga rfl (Gn (.t8 0 3 4 8 9 47 48 49) (Ae (Gs (Gm rfl (Gt (BS rfl) (Gt (Ah GS rfl) ?_))))))
  refine Gt (AF rfl A1 .m0 (((Ad.l0.comp AI.l1).comp (AS.ar (n := 9) Ak.fl (by first | omega | exact hbV | (dsimp only; omega)))).comp Ak.l1) rfl rfl) ?_
  refine Gt (Aj rfl rfl) (Gm rfl (Ba 87 rfl rfl (fun q => AE rfl) (Ba 87 rfl rfl (fun q => BS (BX rfl q)) (Ba 87 rfl rfl (fun q => Ah Fk (BX rfl q)) ?_))))
  refine Ba 87 rfl rfl (fun q => by have q1 := q; (try simp at q1); exact AF (BX rfl q) Ct .m0 (((Ad.l0.comp AI.l1).comp (AS.ar (n := 9) Ak.fl (by first | omega | exact hbV | (dsimp only; omega)))).comp Ak.l4) rfl rfl) ?_
  refine Gt (BH rfl rfl (fun h => h)) (Ga rfl (Gn (.t9 0 3 4 8 9 47 48 49 81) ?_))
  refine Gc (fun c6 => ?_) (fun c6 => ?_)
  ·
   have c6p := kz c6
   refine AJ (Gm rfl ?_)
   refine Ag rfl D3 (.c rfl (.c rfl .n)) (.c .h (.c .h .n)) (Bb _ V _ _ (by assumption) hbV (by omega)) (fun v18 B hv => ?_)
   obtain ⟨y19, rfl, y20, rfl⟩ := hv
   refine AM (AB (.t6 0 3 4 47 48 49) ?_)
   refine AU (AU (AA (AJ ?_)))
   refine Gt (Aw rfl rfl (IntWalk.i64_in _ (by first | omega | exact hbV.1 | exact hbV.2 | (dsimp only; omega)))) ?_
   refine Gm rfl ?_
   refine AM (AB (.t6 0 3 4 47 48 49) ?_)
   refine Bu (k + 1) _ _ ?_ ?_ (.t6 49 0 3 4 47 48) (.refl _)
   · have hq : V.DS o.verb to ((AG.BP X.w X.own o.nth o.name o.Bn).getD k.toNat 0) = _ := (BC c6)
     (try rw [AG.Dm hx.1 hx.2] at *)
     (try rw [AG.DO hx.1 hx.2 hn0] at *)
     exact ⟨by omega, (by (try rw [AG.Dm hx.1 hx.2]); (try rw [AG.DO hx.1 hx.2 hn0]); exact hq.symm.trans ((congrArg (fun q => AG.DS q o.verb to ((AG.BP X.w X.own o.nth o.name o.Bn).getD k.toNat 0)) hI12).trans (AG.H4 hI11 (by show k < (((AG.BP X.w X.own o.nth o.name o.Bn)).length : Int); omega)).symm)), by omega, by assumption⟩
   · omega
  have c6p := kz c6
  refine Gs (Gt (Ah C4 rfl) (Gt (AF rfl A1 .m4 Order.l0 rfl rfl) (Gt (Aj rfl rfl) (Ga rfl (Gn (.t9 0 3 4 8 9 47 48 49 95) ?_)))))
  refine Gc (fun c7 => ?_) (fun c7 => ?_)
  ·
   have c7p := kz c7
   refine Ao ?_
   refine BE (N := 19) [0, 0, 0, 0, 8, 24, 56, 4, 132, 388, 1020, 2044, 4092, 8189, 16381, 32765, 65535, 131071, 262143] mix (by kernel_rfl) rfl ?_
   refine Pf 0 rfl (AE rfl) (Pf 1 rfl (AE rfl) (Pf 2 rfl (AE rfl) (Pf 3 rfl (AE rfl) (Pf 4 rfl (BS rfl) (Pf 5 rfl (Ah CM rfl) (Pf 6 rfl (AF rfl A1 .m0 Ad.l1 rfl rfl) (Pf 7 rfl (BS rfl) ?_)))))))
   refine Pf 8 rfl (Ah A6 rfl) (Pf 9 rfl (Ah Bk rfl) ?_)
   refine Pf 10 rfl (AR Cy rfl rfl (by first | omega | exact hbV.1 | exact hbV.2 | (dsimp only; omega)) (by first | omega | exact hbV.1 | exact hbV.2 | (dsimp only; omega))) ?_
   refine Pf 11 rfl (Ah Cv rfl) ?_
   refine Pf 12 rfl (AF rfl A1 .m0 (((Ad.l0.comp AI.l2).comp (AS.ar (n := 6) Al.fl (by first | omega | exact hbV | (dsimp only; omega)))).comp Al.l3) rfl rfl) ?_
   refine Pf 13 rfl (BS rfl) (Pf 14 rfl (Ah E6 rfl) ?_)
   refine An 15 rfl (by kernel_rfl) ?_
   refine AQ (AK (((Ad.l0.comp AI.l1).comp (AS.ar (n := 9) Ak.fl (by first | omega | exact hbV | (dsimp only; omega)))).comp Ak.l2) rfl rfl rfl C5 rfl .h) ?_
   refine BK rfl ⟨?_, ?_⟩
   · exact (Pk (Pk (Pk (Pk (Pk (Pk (Pk (Pk (Pk (Pk (Pk (Pk (Pk (Po rfl (AE rfl) rfl rfl (Pk As)))))))))))))))
   refine Pf 16 rfl (BS rfl) (Pf 17 rfl (Ah DA rfl) ?_)
   refine An 18 rfl (by kernel_rfl) ?_
   refine AQ (AK (((Ad.l0.comp AI.l1).comp (AS.ar (n := 9) Ak.fl (by first | omega | exact hbV | (dsimp only; omega)))).comp Ak.l3) rfl rfl rfl C5 rfl .h) ?_
   refine BK rfl ⟨?_, ?_⟩
   · exact (Pk (Pk (Pk (Pk (Pk (Pk (Pk (Pk (Pk (Pk (Pk (Pk (Pk (Pk (Pk (Pk (Pk As)))))))))))))))))
   refine A3 (by kernel_rfl) ?_
   refine AB (.t7 0 3 4 8 47 48 49) ?_
   refine AA ?_
   refine Fc (fun _ => .h) (congrArg (fun q => Ad.enc ⟨q, _, _⟩) (AG.Gr V hx.1 hx.2 0 (V.w.AW.at V.b).room)) ?_
   refine AJ (Gm rfl (Gm rfl ?_))
   refine Ag rfl OL (.c rfl (.c rfl (.c rfl .n))) (.c .h (.c .h .n)) (Dn _ (V.place ((AG.BP X.w X.own o.nth o.name o.Bn).getD k.toNat 0) 0 (V.w.AW.at V.b).room) _ 4 ((AG.BP X.w X.own o.nth o.name o.Bn).getD k.toNat 0) (by assumption) hbV hx (show V.out.length ≤ 100000 by omega)) (fun v21 B hv => ?_)
   obtain ⟨y22, rfl, y23, rfl⟩ := hv
   refine AM (AB (.t6 0 3 4 47 48 49) ?_)
   refine AU (AU (AA (AJ ?_)))
   refine Gt (Aw rfl rfl (IntWalk.i64_in _ (by first | omega | exact hbV.1 | exact hbV.2 | (dsimp only; omega)))) ?_
   refine Gm rfl ?_
   refine AM (AB (.t6 0 3 4 47 48 49) ?_)
   refine Bu (k + 1) _ _ ?_ ?_ (.t6 49 0 3 4 47 48) (.refl _)
   · have hq : V.DS o.verb to ((AG.BP X.w X.own o.nth o.name o.Bn).getD k.toNat 0) = _ := ((AV c6).trans (BC c7))
     (try rw [AG.Dm hx.1 hx.2] at *)
     (try rw [AG.DO hx.1 hx.2 hn0] at *)
     exact ⟨by omega, (by (try rw [AG.Dm hx.1 hx.2]); (try rw [AG.DO hx.1 hx.2 hn0]); exact hq.symm.trans ((congrArg (fun q => AG.DS q o.verb to ((AG.BP X.w X.own o.nth o.name o.Bn).getD k.toNat 0)) hI12).trans (AG.H4 hI11 (by show k < (((AG.BP X.w X.own o.nth o.name o.Bn)).length : Int); omega)).symm)), by omega, by assumption⟩
   · omega
  have c7p := kz c7
  refine Gs (Gt (Ah C4 rfl) (Gt (AF rfl A1 .m4 Order.l0 rfl rfl) (Gt (Aj rfl rfl) (Ga rfl (Gn (.t9 0 3 4 8 9 47 48 49 119) ?_)))))
  refine Gc (fun c8 => ?_) (fun c8 => ?_)
  ·
   have c8p := kz c8
   refine Gs (Gm rfl (Gm rfl (Gm rfl (Gt (BS rfl) (Gt (Ah E6 rfl) ?_)))))
   refine AQ (AK (((Ad.l0.comp AI.l1).comp (AS.ar (n := 9) Ak.fl (by first | omega | exact hbV | (dsimp only; omega)))).comp Ak.l2) rfl rfl rfl C5 rfl .h) ?_
   refine Gt (BS rfl) (Gt (Ah DA rfl) ?_)
   refine AQ (AK (((Ad.l0.comp AI.l1).comp (AS.ar (n := 9) Ak.fl (by first | omega | exact hbV | (dsimp only; omega)))).comp Ak.l3) rfl rfl rfl C5 rfl .h) ?_
   refine Gn (.t7 0 3 4 9 47 48 49) ?_
   refine Fc (fun _ => .h) (congrArg (fun q => Ad.enc ⟨q, _, _⟩) (AG.Gr V hx.1 hx.2 1 to)) ?_
   refine AJ (Gm rfl (Gm rfl (Gm rfl (Gt (BS rfl) (Gt (Ah LW rfl) ?_)))))
   refine Gt (AF rfl CC .m0 (((Ad.l0.comp AI.l1).comp (AS.ar (n := 9) Ak.fl (by first | omega | exact hbV | (dsimp only; omega)))).comp Ak.l0) rfl rfl) ?_
   refine Gt (BD NO Hj rfl (.cons Ing.Event.l0 rfl rfl rfl (.cons Ing.Event.l3 rfl rfl rfl (.cons Ing.Event.l8 rfl rfl rfl .nil)))) ?_
   refine Ag rfl Nr (.c rfl (.c rfl .n)) (.c .h (.c .h .n)) (CL _ (V.place ((AG.BP X.w X.own o.nth o.name o.Bn).getD k.toNat 0) 1 to) _ { AG.GR 6 with other := to, B2 := ((V.place ((AG.BP X.w X.own o.nth o.name o.Bn).getD k.toNat 0) 1 to).w.AX.at ((AG.BP X.w X.own o.nth o.name o.Bn).getD k.toNat 0)).name } (by assumption) hbV (show to < 6 from (hok hv).cr (by omega)) (show V.out.length ≤ 100000 by omega)) (fun v24 B hv => ?_)
   obtain ⟨y25, rfl, y26, rfl⟩ := hv
   refine AM (AB (.t6 0 3 4 47 48 49) ?_)
   refine AU (AU (AA (AJ ?_)))
   refine Gt (Aw rfl rfl (IntWalk.i64_in _ (by first | omega | exact hbV.1 | exact hbV.2 | (dsimp only; omega)))) ?_
   refine Gm rfl ?_
   refine AM (AB (.t6 0 3 4 47 48 49) ?_)
   refine Bu (k + 1) _ _ ?_ ?_ (.t6 49 0 3 4 47 48) (.refl _)
   · have hq : V.DS o.verb to ((AG.BP X.w X.own o.nth o.name o.Bn).getD k.toNat 0) = _ := ((AV c6).trans ((AV c7).trans (BC c8)))
     (try rw [AG.Dm hx.1 hx.2] at *)
     (try rw [AG.DO hx.1 hx.2 hn0] at *)
     exact ⟨by omega, (by (try rw [AG.Dm hx.1 hx.2]); (try rw [AG.DO hx.1 hx.2 hn0]); exact hq.symm.trans ((congrArg (fun q => AG.DS q o.verb to ((AG.BP X.w X.own o.nth o.name o.Bn).getD k.toNat 0)) hI12).trans (AG.H4 hI11 (by show k < (((AG.BP X.w X.own o.nth o.name o.Bn)).length : Int); omega)).symm)), by omega, by assumption⟩
   · omega
  have c8p := kz c8
  refine Gs (Gm rfl (Gt (BS rfl) (Gt (Ah A6 rfl) (Gt (AZ rfl BT .m0 Ad.l0 rfl) (Gm rfl (Gm rfl ?_))))))
  refine A8 rfl Zk (.c rfl (.c rfl (.c rfl .n))) (fun w hS => Ln _ _ _ w) ?_
  refine Ga rfl (Gn (.t8 0 3 4 9 47 48 49 138) ?_)
  refine Gc (fun c9 => ?_) (fun c9 => ?_)
  ·
   have c9p := kz c9
   refine AJ (Gm rfl ?_)
   refine Ag rfl D3 (.c rfl (.c rfl .n)) (.c .h (.c .h .n)) (Bb _ V _ _ (by assumption) hbV (by omega)) (fun v27 B hv => ?_)
   obtain ⟨y28, rfl, y29, rfl⟩ := hv
   refine AM (AB (.t6 0 3 4 47 48 49) ?_)
   refine AU (AU (AA (AJ ?_)))
   refine Gt (Aw rfl rfl (IntWalk.i64_in _ (by first | omega | exact hbV.1 | exact hbV.2 | (dsimp only; omega)))) ?_
   refine Gm rfl ?_
   refine AM (AB (.t6 0 3 4 47 48 49) ?_)
   refine Bu (k + 1) _ _ ?_ ?_ (.t6 49 0 3 4 47 48) (.refl _)
   · have hq : V.DS o.verb to ((AG.BP X.w X.own o.nth o.name o.Bn).getD k.toNat 0) = _ := ((AV c6).trans ((AV c7).trans ((AV c8).trans (BC c9))))
     (try rw [AG.Dm hx.1 hx.2] at *)
     (try rw [AG.DO hx.1 hx.2 hn0] at *)
     exact ⟨by omega, (by (try rw [AG.Dm hx.1 hx.2]); (try rw [AG.DO hx.1 hx.2 hn0]); exact hq.symm.trans ((congrArg (fun q => AG.DS q o.verb to ((AG.BP X.w X.own o.nth o.name o.Bn).getD k.toNat 0)) hI12).trans (AG.H4 hI11 (by show k < (((AG.BP X.w X.own o.nth o.name o.Bn)).length : Int); omega)).symm)), by omega, by assumption⟩
   · omega
  have c9p := kz c9
  refine Gs (Gm rfl (Gm rfl (Gm rfl (Gt (BS rfl) (Gt (Ah E6 rfl) ?_)))))
  refine AQ (AK (((Ad.l0.comp AI.l1).comp (AS.ar (n := 9) Ak.fl (by first | omega | exact hbV | (dsimp only; omega)))).comp Ak.l2) rfl rfl rfl C5 rfl .h) ?_
  refine Gt (BS rfl) (Gt (Ah DA rfl) ?_)
  refine AQ (AK (((Ad.l0.comp AI.l1).comp (AS.ar (n := 9) Ak.fl (by first | omega | exact hbV | (dsimp only; omega)))).comp Ak.l3) rfl rfl rfl C5 rfl .h) ?_
  refine Gn (.t7 0 3 4 9 47 48 49) ?_
  refine Fc (fun _ => .h) (congrArg (fun q => Ad.enc ⟨q, _, _⟩) (AG.Gr V hx.1 hx.2 2 to)) ?_
  refine BE (N := 15) [0, 0, 2, 6, 14, 0, 0, 32, 160, 416, 992, 2016, 4064, 8190, 16383] mix (by kernel_rfl) rfl ?_
  refine Pf 0 rfl (AE rfl) (Pf 1 rfl (AE rfl) (Pf 2 rfl (BS rfl) (Pf 3 rfl (Ah LW rfl) ?_)))
  refine Pf 4 rfl (AF rfl CC .m0 (((Ad.l0.comp AI.l1).comp (AS.ar (n := 9) Ak.fl (by first | omega | exact hbV | (dsimp only; omega)))).comp Ak.l0) rfl rfl) ?_
  refine Pf 5 rfl (AE rfl) (Pf 6 rfl (AE rfl) (Pf 7 rfl (BS rfl) (Pf 8 rfl (Ah A6 rfl) (Pf 9 rfl (Ah Cq rfl) ?_))))
  refine Pf 10 rfl (AR Fo rfl rfl (by first | omega | exact hbV.1 | exact hbV.2 | (dsimp only; omega)) (by first | omega | exact hbV.1 | exact hbV.2 | (dsimp only; omega))) ?_
  refine Pf 11 rfl (Ah LW rfl) ?_
  refine Pf 12 rfl (AF rfl CC .m0 (((Ad.l0.comp AI.l1).comp (AS.ar (n := 9) Ak.fl (by first | omega | exact hbV | (dsimp only; omega)))).comp Ak.l0) rfl rfl) ?_
  refine Pf 13 rfl (BD NO Hj rfl (.cons Ing.Event.l0 rfl rfl rfl (.cons Ing.Event.l3 rfl rfl rfl (.cons Ing.Event.l8 rfl rfl rfl (.cons Ing.Event.l9 rfl rfl rfl .nil))))) ?_
  refine An 14 rfl (by kernel_rfl) ?_
  refine Ag rfl Nr (.c rfl (.c rfl .n)) (.c .h (.c .h .n)) (CL _ (V.place ((AG.BP X.w X.own o.nth o.name o.Bn).getD k.toNat 0) 2 to) _ { AG.GR 5 with B2 := ((V.place ((AG.BP X.w X.own o.nth o.name o.Bn).getD k.toNat 0) 2 to).w.AX.at ((AG.BP X.w X.own o.nth o.name o.Bn).getD k.toNat 0)).name, text := ((V.place ((AG.BP X.w X.own o.nth o.name o.Bn).getD k.toNat 0) 2 to).w.AX.at to).name } (by assumption) hbV (show (-1 : Int) < 6 by decide) (show V.out.length ≤ 100000 by omega)) (fun v30 B hv => ?_)
  obtain ⟨y31, rfl, y32, rfl⟩ := hv
  refine Bm rfl ⟨?_, ?_⟩
  · exact (Pk (Pk (Pk (Pk (Pk (Pk (Pk (Pk (Pk (Pk (Pk (Pk (Pk (Pk As))))))))))))))
  refine A3 (by kernel_rfl) ?_
  refine AB (.t6 0 3 4 47 48 49) ?_
  refine AU (AU (AA (AJ ?_)))
  refine Gt (Aw rfl rfl (IntWalk.i64_in _ (by first | omega | exact hbV.1 | exact hbV.2 | (dsimp only; omega)))) ?_
  refine Gm rfl ?_
  refine AM (AB (.t6 0 3 4 47 48 49) ?_)
  refine Bu (k + 1) _ _ ?_ ?_ (.t6 49 0 3 4 47 48) (.refl _)
  · have hq : V.DS o.verb to ((AG.BP X.w X.own o.nth o.name o.Bn).getD k.toNat 0) = _ := ((AV c6).trans ((AV c7).trans ((AV c8).trans (AV c9))))
    (try rw [AG.Dm hx.1 hx.2] at *)
    (try rw [AG.DO hx.1 hx.2 hn0] at *)
    exact ⟨by omega, (by (try rw [AG.Dm hx.1 hx.2]); (try rw [AG.DO hx.1 hx.2 hn0]); exact hq.symm.trans ((congrArg (fun q => AG.DS q o.verb to ((AG.BP X.w X.own o.nth o.name o.Bn).getD k.toNat 0)) hI12).trans (AG.H4 hI11 (by show k < (((AG.BP X.w X.own o.nth o.name o.Bn)).length : Int); omega)).symm)), by omega, by assumption⟩
  · omega
 have c5p := kz c5
 obtain rfl : k = ((AG.BP X.w X.own o.nth o.name o.Bn).length : Int) := by omega
 refine BV (AT (AT (Af ?_)))
 refine Bh rfl .n ?_
 intro w1 hS
 have hS := (hS.perm (Av.perm (.c .h (.c .h .n)))).Ay
 have hq : T.G6 o = V := hgo.trans (hI12.trans AG.Wm).symm
 refine ⟨_, ⟨?gq2, rfl, ?hl2, ?hB2⟩, hS⟩
 case hB2 => rw [hq]; (try rfl)
 case hl2 => rw [hq]; exact hI14
theorem JK (s : Au) (w : World) (gl0 : GV 0 AI.C2 w) : EG Tryz.prog 138 #[BO s] w fun v w' => v = .tuple #[.int .i64 (Words.dir s).1, .bool (Words.dir s).2] ∧ B6 w w' := by
 refine Ai [] [] Tryz.func138 rfl rfl rfl (St.start w []) ?_
 refine Gs (Ga rfl (Ga rfl (Gn (.t1 0) (CB (Gm rfl (AM (AA ?_)))))))
 refine Ae ?_
 refine Bf (.t2 5 0) ?_
 refine CJ (fun (k : Int) => 0 ≤ k ∧ k ≤ 6 ∧ Words.Nc s 6 = Words.Nc s (6 - k).toNat) (fun (k : Int) => (6 - k).toNat) (fun (k : Int) => [(5, .int .i64 k)]) (fun (k : Int) => []) (0) ?_ rfl rfl (fun k hI1 => ?_)
 · exact ⟨by omega, by omega, rfl⟩
 obtain ⟨hI11, hI12, hI13⟩ := hI1
 refine Gs (Gt (A5 rfl rfl) (AM (AA (Ao ?_))))
 refine Gc (fun c1 => ?_) (fun c1 => ?_)
 ·
  have c1p := kz c1
  rw [Words.Uv hI11 (by omega)] at hI13
  refine Aa ?_
  refine AB (.t2 0 5) ?_
  refine AA (Ao (Ae (Gs (Gm rfl (Ga rfl (Gn (.t3 0 4 5) (Gs ?_)))))))
  refine Gm rfl ?_
  refine Gt (AR Wa rfl rfl (by omega) (by omega)) ?_
  refine Gt (Pb gl0 rfl CC (AI.NF (by omega) (by omega))) ?_
  refine Gm rfl (Gt (Bo rfl rfl) (Gn (.t4 0 4 5 12) ?_))
  refine Gc (fun c2 => ?_) (fun c2 => ?_)
  ·
   refine Gs (Gm rfl (Ga rfl (Ga rfl (Gn (.t2 2 3) (Ac (AP (AD ?_)))))))
   refine AD (AP (AD ?_))
   refine AY rfl (.tmp rfl (.tmp rfl .n)) ?_
   intro w1 hS; refine ⟨?_, hS.Am⟩; rw [Words.dir, hI13, BC c2]; rfl
  have c2p := kz c2
  refine Aa ?_
  refine AB (.t2 0 5) ?_
  refine AU (AA (AJ ?_))
  refine Gt (Aw rfl rfl (IntWalk.i64_in _ (by omega))) ?_
  refine Gm rfl ?_
  refine AM (AB (.t2 0 5) ?_)
  refine Bx (k + 1) ?_ ?_ (.t2 5 0) (.refl _)
  · exact ⟨by omega, by omega, by rw [hI13, AV c2]⟩
  · omega
 have c1p := kz c1
 obtain rfl : k = 6 := by omega
 refine BV (AT (AT (Af ?_)))
 refine AB (.nil _) ?_
 refine AA (Gs (Ga rfl (Ga rfl (AM (AA (Ac ?_))))))
 refine AY rfl (.tmp rfl (.tmp rfl .n)) ?_
 intro w1 hS; refine ⟨?_, hS.Am⟩; rw [Words.dir, hI13]; rfl
theorem QG (b : Nat) (T : AG) (g : Hd) (d : Int) (p : Bool) (k : Int) (hg : g.len = T.out.length) (hF : T.Fit) (hd : 0 ≤ d ∧ d < 6) (hn : T.out.length ≤ 90000) : Ic Tryz.prog 139 #[.pointer (some ⟨b, 0, none⟩), .int .i64 d, .bool p, .int .i64 k] [Ab.box b 163 (Ad.enc ⟨T.w, T.b, g⟩), Ab.own g 56 16 (T.out.flatMap Ing.Event.enc)] (fun v B => ∃ g' : Hd, v = .tuple #[] ∧ g'.len = (T.I1 d p k).out.length ∧ B = [Ab.box b 163 (Ad.enc ⟨(T.I1 d p k).w, (T.I1 d p k).b, g'⟩), Ab.own g' 56 16 ((T.I1 d p k).out.flatMap Ing.Event.enc)]) := by
 intro w hS0
 have hb := hF.b
 have hr := hF.room
 have hx := hF.exit hd.1 hd.2
 have hop := AI.Ph d
 refine Ai _ _ Tryz.func139 rfl rfl rfl (hS0) ?_
 refine Ao ?_
 refine BE (N := 12) [0, 0, 2, 6, 14, 1, 33, 97, 255, 511, 1023, 2047] mix (by kernel_rfl) rfl ?_
 refine Pf 0 rfl (AE rfl) (Pf 1 rfl (AE rfl) (Pf 2 rfl (BS rfl) (Pf 3 rfl (Ah CM rfl) (Pf 4 rfl (AF rfl A1 .m0 Ad.l1 rfl rfl) (Pf 5 rfl (BS rfl) (Pf 6 rfl (Ah A6 rfl) (Pf 7 rfl (Ah Bk rfl) ?_)))))))
 refine Pf 8 rfl (AR Cy rfl rfl (by first | omega | exact hb.1 | exact hb.2 | exact hr.1 | exact hr.2 | (dsimp only; omega)) (by first | omega | exact hb.1 | exact hb.2 | exact hr.1 | exact hr.2 | (dsimp only; omega))) ?_
 refine Pf 9 rfl (Ah Cv rfl) ?_
 refine Pf 10 rfl (AF rfl A1 .m0 (((Ad.l0.comp AI.l2).comp (AS.ar (n := 6) Al.fl (by first | omega | exact hb | exact hr | (dsimp only; omega)))).comp Al.l3) rfl rfl) ?_
 refine Pf 11 rfl (Az rfl) ?_
 refine A3 (by kernel_rfl) ?_
 refine AB (.t5 0 1 2 3 8) ?_
 refine AA (Gs (Gm rfl (Gm rfl (Gm rfl (Gt (BS rfl) (Gt (Ah A6 rfl) (Gt (Ah GJ rfl) ?_)))))))
 refine Gt (AR N6 rfl rfl (by first | omega | exact hb.1 | exact hb.2 | exact hr.1 | exact hr.2 | (dsimp only; omega)) (by first | omega | exact hb.1 | exact hb.2 | exact hr.1 | exact hr.2 | (dsimp only; omega))) ?_
 refine Gt (Ah L5 rfl) ?_
 refine Gt (AR Rg rfl rfl (by first | omega | exact hb.1 | exact hb.2 | exact hr.1 | exact hr.2 | (dsimp only; omega)) (by first | omega | exact hb.1 | exact hb.2 | exact hr.1 | exact hr.2 | (dsimp only; omega))) ?_
 refine Gt (AF rfl A1 .m0 ((((Ad.l0.comp AI.l0).comp (AS.ar (n := 6) Room.fl (by first | omega | exact hb | exact hr | (dsimp only; omega)))).comp Room.l2).comp (AS.ar (n := 6) Bz (by first | omega | exact hb | exact hr | (dsimp only; omega)))) rfl rfl) ?_
 refine Gt (E8 rfl rfl (IntWalk.i64_in _ (by first | omega | exact hb.1 | exact hb.2 | exact hr.1 | exact hr.2 | (dsimp only; omega)))) ?_
 refine Ga rfl (Gn (.t6 0 1 2 3 8 9) (Ae (Gs (Gm rfl (Gt (A5 rfl rfl) (Ga rfl (Gn (.t7 0 1 2 3 8 9 74) ?_)))))))
 refine Gc (fun c1 => ?_) (fun c1 => ?_)
 ·
  have c1p := kz c1
  try dsimp only at c1p
  refine AJ (Gm rfl ?_)
  refine Ag rfl D3 (.c rfl (.c rfl .n)) (.c .h (.c .h .n)) (Bb _ _ _ _ hg hb (by omega)) (fun v1 B hv => ?_)
  obtain ⟨y2, rfl, y3, rfl⟩ := hv
  refine AM (AB (.nil _) ?_)
  refine AU ?_
  refine Bh rfl .n ?_
  intro w1 hS
  have hS := (hS.perm (Av.perm (.c .h (.c .h .n)))).Ay
  have hq : T.I1 d p k = _ := (BC c1)
  refine ⟨_, ⟨?gq1, rfl, ?hl1, ?hB1⟩, hS⟩
  case hB1 => rw [hq]; (try rfl)
  case hl1 => rw [hq]; assumption
 have c1p := kz c1
 try dsimp only at c1p
 refine Gs (Gm rfl (Gm rfl (Gm rfl (Gt (BS rfl) (Gt (Ah A6 rfl) (Gt (Ah GJ rfl) ?_))))))
 refine Gt (AR N6 rfl rfl (by first | omega | exact hb.1 | exact hb.2 | exact hr.1 | exact hr.2 | (dsimp only; omega)) (by first | omega | exact hb.1 | exact hb.2 | exact hr.1 | exact hr.2 | (dsimp only; omega))) ?_
 refine Gt (Ah L0 rfl) ?_
 refine Gt (AR Tu rfl rfl (by first | omega | exact hb.1 | exact hb.2 | exact hr.1 | exact hr.2 | (dsimp only; omega)) (by first | omega | exact hb.1 | exact hb.2 | exact hr.1 | exact hr.2 | (dsimp only; omega))) ?_
 refine Gt (AF rfl Ct .m0 ((((Ad.l0.comp AI.l0).comp (AS.ar (n := 6) Room.fl (by first | omega | exact hb | exact hr | (dsimp only; omega)))).comp Room.l3).comp (AS.ar (n := 6) Gh (by first | omega | exact hb | exact hr | (dsimp only; omega)))) rfl rfl) ?_
 refine Gm rfl (Gt (JR Tryz.underlying4 rfl rfl) (Ga rfl (Gn (.t7 0 1 2 3 8 9 79) ?_)))
 refine Gc (fun c2 => ?_) (fun c2 => ?_)
 ·
  have c2p := kz c2
  try dsimp only at c2p
  refine AJ (Gm rfl ?_)
  refine Ag rfl D3 (.c rfl (.c rfl .n)) (.c .h (.c .h .n)) (Bb _ _ _ _ hg hb (by omega)) (fun v4 B hv => ?_)
  obtain ⟨y5, rfl, y6, rfl⟩ := hv
  refine AM (AB (.nil _) ?_)
  refine AU ?_
  refine Bh rfl .n ?_
  intro w1 hS
  have hS := (hS.perm (Av.perm (.c .h (.c .h .n)))).Ay
  have hq : T.I1 d p k = _ := ((AV c1).trans (BC c2))
  refine ⟨_, ⟨?gq2, rfl, ?hl2, ?hB2⟩, hS⟩
  case hB2 => rw [hq]; (try rfl)
  case hl2 => rw [hq]; assumption
 have c2p := kz c2
 try dsimp only at c2p
 refine Gs (Gm rfl (Gm rfl (Gm rfl (Gm rfl (Gt (BQ rfl) (Gt (BS rfl) (Gt (Ah A6 rfl) ?_)))))))
 refine Gt (Ah GJ rfl) ?_
 refine Gt (AR N6 rfl rfl (by first | omega | exact hb.1 | exact hb.2 | exact hr.1 | exact hr.2 | (dsimp only; omega)) (by first | omega | exact hb.1 | exact hb.2 | exact hr.1 | exact hr.2 | (dsimp only; omega))) ?_
 refine Gt (Ah L0 rfl) ?_
 refine Gt (AR Tu rfl rfl (by first | omega | exact hb.1 | exact hb.2 | exact hr.1 | exact hr.2 | (dsimp only; omega)) (by first | omega | exact hb.1 | exact hb.2 | exact hr.1 | exact hr.2 | (dsimp only; omega))) ?_
 refine AQ (AK ((((Ad.l0.comp AI.l0).comp (AS.ar (n := 6) Room.fl (by first | omega | exact hb | exact hr | (dsimp only; omega)))).comp Room.l3).comp (AS.ar (n := 6) Gh (by first | omega | exact hb | exact hr | (dsimp only; omega)))) rfl rfl rfl Jt rfl .h) ?_
 refine Gn (.t6 0 1 2 3 8 9) (CB (Gm rfl ?_))
 refine A8 rfl YE (.c rfl .n) (fun w hS => G0 _ w) ?_
 refine Ga rfl (Gn (.t6 0 2 3 8 9 10) (Gs (Gm rfl (Gm rfl (Gm rfl (Gt (BS rfl) (Gt (Ah A6 rfl) ?_)))))))
 refine Gt (Ah GJ rfl) ?_
 refine Gt (AR N6 rfl rfl (by first | omega | exact hb.1 | exact hb.2 | exact hr.1 | exact hr.2 | (dsimp only; omega)) (by first | omega | exact hb.1 | exact hb.2 | exact hr.1 | exact hr.2 | (dsimp only; omega))) ?_
 refine Gt (Ah L5 rfl) ?_
 refine Gt (AR Rg rfl rfl (by first | omega | exact hb.1 | exact hb.2 | exact hr.1 | exact hr.2 | (dsimp only; omega)) (by first | omega | exact hb.1 | exact hb.2 | exact hr.1 | exact hr.2 | (dsimp only; omega))) ?_
 refine Gt (AF rfl A1 .m0 ((((Ad.l0.comp AI.l0).comp (AS.ar (n := 6) Room.fl (by first | omega | exact hb | exact hr | (dsimp only; omega)))).comp Room.l2).comp (AS.ar (n := 6) Bz (by first | omega | exact hb | exact hr | (dsimp only; omega)))) rfl rfl) ?_
 refine Gm rfl ?_
 refine Gt (Aw rfl rfl (IntWalk.i64_in _ (by first | omega | exact hb.1 | exact hb.2 | exact hr.1 | exact hr.2 | (dsimp only; omega)))) ?_
 refine Gt (Aj rfl rfl) (Gn (.t6 0 2 3 9 10 58) ?_)
 refine Gc (fun c3 => ?_) (fun c3 => ?_)
 ·
  have c3p := kz c3
  try dsimp only at c3p
  refine AJ (Gm rfl (Gm rfl (Gm rfl (Gm rfl (Gt (BQ rfl) (Gt (BS rfl) (Gt (Ah A6 rfl) ?_)))))))
  refine Gt (Ah GJ rfl) ?_
  refine Gt (AR N6 rfl rfl (by first | omega | exact hb.1 | exact hb.2 | exact hr.1 | exact hr.2 | (dsimp only; omega)) (by first | omega | exact hb.1 | exact hb.2 | exact hr.1 | exact hr.2 | (dsimp only; omega))) ?_
  refine Gt (Ah L0 rfl) ?_
  refine Gt (AR Tu rfl rfl (by first | omega | exact hb.1 | exact hb.2 | exact hr.1 | exact hr.2 | (dsimp only; omega)) (by first | omega | exact hb.1 | exact hb.2 | exact hr.1 | exact hr.2 | (dsimp only; omega))) ?_
  refine AQ (AK ((((Ad.l0.comp AI.l0).comp (AS.ar (n := 6) Room.fl (by first | omega | exact hb | exact hr | (dsimp only; omega)))).comp Room.l3).comp (AS.ar (n := 6) Gh (by first | omega | exact hb | exact hr | (dsimp only; omega)))) rfl rfl rfl Jt rfl .h) ?_
  refine Gn (.t2 0 3) (AJ (Gm rfl (Gm rfl (Gt (BD NO Hj rfl (.cons Ing.Event.l0 rfl rfl rfl (.cons Ing.Event.l3 rfl rfl rfl (.cons Ing.Event.l8 rfl rfl rfl .nil)))) ?_))))
  refine Ag rfl Nr (.c rfl (.c rfl .n)) (.c .h (.c .h .n)) (CL _ (AG.Fw (T.Fw T.me.room d (!p)) ((T.w.By.at (T.w.AW.at T.b).room).Db.at d - 1) (AI.opposite d) (!p)) _ { AG.GR k with B2 := AG.PH } hg hb (show (-1 : Int) < 6 by decide) (show T.out.length ≤ 100000 by omega)) (fun v7 B hv => ?_)
  obtain ⟨y8, rfl, y9, rfl⟩ := hv
  refine AM (AB (.nil _) ?_)
  refine AU ?_
  refine Bh rfl .n ?_
  intro w1 hS
  have hS := (hS.perm (Av.perm (.c .h (.c .h .n)))).Ay
  have hq : T.I1 d p k = _ := (show T.I1 d p k = _ from (AV c1).trans (AV c2)).trans (congrArg (fun q => AG.Bl q { AG.GR k with B2 := AG.PH }) (BC c3))
  refine ⟨_, ⟨?gq3, rfl, ?hl3, ?hB3⟩, hS⟩
  case hB3 => rw [hq]; (try rfl)
  case hl3 => rw [hq]; assumption
 have c3p := kz c3
 try dsimp only at c3p
 refine Aa ?_
 refine AB (.t2 0 3) ?_
 refine AA (AJ (Gm rfl (Gm rfl (Gt (BD NO Hj rfl (.cons Ing.Event.l0 rfl rfl rfl (.cons Ing.Event.l3 rfl rfl rfl (.cons Ing.Event.l8 rfl rfl rfl .nil)))) ?_))))
 refine Ag rfl Nr (.c rfl (.c rfl .n)) (.c .h (.c .h .n)) (CL _ (T.Fw T.me.room d (!p)) _ { AG.GR k with B2 := AG.PH } hg hb (show (-1 : Int) < 6 by decide) (show T.out.length ≤ 100000 by omega)) (fun v10 B hv => ?_)
 obtain ⟨y11, rfl, y12, rfl⟩ := hv
 refine AM (AB (.nil _) ?_)
 refine AU ?_
 refine Bh rfl .n ?_
 intro w1 hS
 have hS := (hS.perm (Av.perm (.c .h (.c .h .n)))).Ay
 have hq : T.I1 d p k = _ := (show T.I1 d p k = _ from (AV c1).trans (AV c2)).trans (congrArg (fun q => AG.Bl q { AG.GR k with B2 := AG.PH }) (AV c3))
 refine ⟨_, ⟨?gq4, rfl, ?hl4, ?hB4⟩, hS⟩
 case hB4 => rw [hq]; (try rfl)
 case hl4 => rw [hq]; assumption
theorem FK (b : Nat) (T : AG) (g : Hd) (a : Bool) (i : Int) (p : Bool) (k : Int) (hg : g.len = T.out.length) (hb : 0 ≤ T.b ∧ T.b < 6) (hi : 0 ≤ i ∧ i < 9) (hn : T.out.length ≤ 90000) : Ic Tryz.prog 140 #[.pointer (some ⟨b, 0, none⟩), .bool a, .int .i64 i, .bool p, .int .i64 k] [Ab.box b 163 (Ad.enc ⟨T.w, T.b, g⟩), Ab.own g 56 16 (T.out.flatMap Ing.Event.enc)] (fun v B => ∃ g' : Hd, v = .tuple #[] ∧ g'.len = (T.before a i p k).out.length ∧ B = [Ab.box b 163 (Ad.enc ⟨(T.before a i p k).w, (T.before a i p k).b, g'⟩), Ab.own g' 56 16 ((T.before a i p k).out.flatMap Ing.Event.enc)]) := by
 intro w hS0
 refine Ai _ _ Tryz.func140 rfl rfl rfl (hS0) ?_
 refine CB (Gm rfl (Gn (.t5 0 2 3 4 10) ?_))
 refine Gc (fun c1 => ?_) (fun c1 => ?_)
 ·
  have c1p := kz c1
  refine Gs (Gm rfl (Gm rfl (Gm rfl (Gt (BS rfl) (Gt (Ah A6 rfl) (Gt (Ah Cq rfl) ?_))))))
  refine Gt (AR Fo rfl rfl (by first | omega | exact hb.1 | exact hb.2 | (dsimp only; omega)) (by first | omega | exact hb.1 | exact hb.2 | (dsimp only; omega))) ?_
  refine Gt (Ah Fk rfl) ?_
  refine AQ (AK (((Ad.l0.comp AI.l1).comp (AS.ar (n := 9) Ak.fl (by first | omega | exact hb | (dsimp only; omega)))).comp Ak.l4) rfl rfl rfl Jt rfl .h) ?_
  refine Gn (.t3 0 2 4) (Gs (Gm rfl (Gm rfl (Gm rfl ?_))))
  refine Ag rfl OL (.c rfl (.c rfl (.c rfl .n))) (.c .h (.c .h .n)) (Dn _ (T.EE i { T.w.AX.at i with on := p }) _ k i hg hb hi (show T.out.length ≤ 100000 by omega)) (fun v1 B hv => ?_)
  obtain ⟨y2, rfl, y3, rfl⟩ := hv
  refine Gn (.nil _) (Ac (AD ?_))
  refine AY rfl .n ?_
  intro w1 hS
  have hS := (hS.perm (Av.perm (.c .h (.c .h .n)))).Ay
  have hq : T.before a i p k = _ := (BC c1)
  refine ⟨_, ⟨?gq1, rfl, ?hl1, ?hB1⟩, hS⟩
  case hB1 => rw [hq]; (try rfl)
  case hl1 => rw [hq]; assumption
 have c1p := kz c1
 refine Aa ?_
 refine AB (.t4 0 2 3 4) ?_
 refine AA (Gs (Gm rfl (Gm rfl (Gm rfl ?_))))
 refine Ag rfl OL (.c rfl (.c rfl (.c rfl .n))) (.c .h (.c .h .n)) (Dn _ T _ k i hg hb hi (show T.out.length ≤ 100000 by omega)) (fun v4 B hv => ?_)
 obtain ⟨y5, rfl, y6, rfl⟩ := hv
 refine Gn (.t3 0 2 3) (AJ (Gm rfl (Gm rfl (Gm rfl (Gt (BS rfl) (Gt (Ah A6 rfl) (Gt (Ah Cq rfl) ?_)))))))
 refine Gt (AR Fo rfl rfl (by first | omega | exact hb.1 | exact hb.2 | (dsimp only; omega)) (by first | omega | exact hb.1 | exact hb.2 | (dsimp only; omega))) ?_
 refine Gt (Ah Fk rfl) ?_
 refine AQ (AK (((Ad.l0.comp AI.l1).comp (AS.ar (n := 9) Ak.fl (by first | omega | exact hb | (dsimp only; omega)))).comp Ak.l4) rfl rfl rfl Jt rfl .h) ?_
 refine AM ?_
 refine Bh rfl .n ?_
 intro w1 hS
 have hS := (hS.perm (Av.perm (.c .h (.c .h .n)))).Ay
 have hq : T.before a i p k = _ := (AV c1)
 refine ⟨_, ⟨?gq2, rfl, ?hl2, ?hB2⟩, hS⟩
 case hB2 => rw [hq]; (try rfl)
 case hl2 => rw [hq]; assumption
theorem RX (b : Nat) (T : AG) (g : Hd) (o : Order) (hg : g.len = T.out.length) (hF : T.Fit) (hv : 12 ≤ o.verb ∧ o.verb ≤ 17) (hn : T.out.length ≤ 80000) : Ev Tryz.prog 107 #[.pointer (some ⟨b, 0, none⟩), .agg o.enc.toArray] [Ab.box b 163 (Ad.enc ⟨T.w, T.b, g⟩), Ab.own g 56 16 (T.out.flatMap Ing.Event.enc)] (fun w => (GV 0 AI.C2 w ∧ 0 ∉ CR [Ab.box b 163 (Ad.enc ⟨T.w, T.b, g⟩), Ab.own g 56 16 (T.out.flatMap Ing.Event.enc)])) (fun v B => ∃ g' : Hd, v = .tuple #[] ∧ g'.len = (T.set o).out.length ∧ B = [Ab.box b 163 (Ad.enc ⟨(T.set o).w, (T.set o).b, g'⟩), Ab.own g' 56 16 ((T.set o).out.flatMap Ing.Event.enc)]) := by
 intro w hS0 hH
 obtain ⟨gl0, gm0⟩ := hH
 have hb := hF.b
 have hr := hF.room
 have ho9 := T.Jg
 have hs9 := T.Hx
 refine Ai _ _ Tryz.func107 rfl rfl rfl (hS0) ?_
 refine Gs ?_
 refine Bw rfl rfl rfl (fun b1 => ?_)
 refine Gn (.t2 0 3) (Gs (Gt (Ah C4 rfl) (Gt (AF rfl A1 .m0 Order.l0 rfl rfl) (Gt (Aj rfl rfl) (Gm rfl (BZ 13 rfl rfl (fun q => Ah C4 rfl) (BZ 13 rfl rfl (fun q => AF (cF rfl q) A1 .m0 Order.l0 rfl rfl) ?_)))))))
 refine BZ 13 rfl rfl (fun q => Aj (cF rfl q) rfl) ?_
 refine Gt (BR rfl rfl (fun h => by rw [h]; rfl)) ?_
 refine Gm rfl (BZ 18 rfl rfl (fun q => Ah C4 rfl) (BZ 18 rfl rfl (fun q => AF (cF rfl q) A1 .m0 Order.l0 rfl rfl) (BZ 18 rfl rfl (fun q => Aj (cF rfl q) rfl) ?_)))
 refine Gt (BR rfl rfl (fun h => by rw [h]; rfl)) ?_
 refine Ga rfl (Gn (.t3 0 3 4) (Gs (Ga rfl (Ga rfl (AM (AA ?_))))))
 refine PO (Lm := []) (fun (kd : Int) (ev : Int) => kd = AG.setKind o.verb ∧ ev = AG.TA o.verb) (fun (kd : Int) (ev : Int) => [(5, .int .i64 kd), (6, .int .i64 ev)]) (fun (kd : Int) (ev : Int) => []) (.t3 0 3 4) rfl ?_ (fun kd ev hC => ?_)
 ·
  refine Gs (Gt (Ah C4 rfl) (Gt (AF rfl A1 .m0 Order.l0 rfl rfl) (Gn (.t6 0 3 4 5 6 24) (Ae (Gs (Gt (Aj rfl rfl) (Ga rfl ?_)))))))
  refine Gn (.t7 0 3 4 5 6 24 25) ?_
  refine Gc (fun c1 => ?_) (fun c1 => ?_)
  ·
   have c1p := kz c1
   refine AJ (Ga rfl ?_)
   refine AM (AB (.t5 0 3 4 5 6) ?_)
   refine AU ?_
   refine EN _ _ ?_ (.t5 5 6 0 3 4) (.refl _)
   · have hv6 : o.verb = 12 ∨ o.verb = 13 ∨ o.verb = 14 ∨ o.verb = 15 ∨ o.verb = 16 ∨ o.verb = 17 := by omega
     rcases hv6 with e | e | e | e | e | e <;> (try rw [e] at c1) <;> first | exact ⟨by rw [e]; rfl, by rw [e]; rfl⟩ | exact absurd c1 (by decide)
  have c1p := kz c1
  refine CB (Gt (Aj rfl rfl) (Ga rfl (Gn (.t7 0 3 4 5 6 24 27) ?_)))
  refine Gc (fun c2 => ?_) (fun c2 => ?_)
  ·
   have c2p := kz c2
   refine Aa (AA ?_)
   refine FL rfl c2 ?_
   refine Gs (Ga rfl (Ga rfl (Gn (.t5 0 3 4 5 6) (Gs (Gm rfl (Gt (BQ rfl) (Gn (.t6 0 3 4 5 6 31) ?_)))))))
   refine Gc (fun c3 => ?_) (fun c3 => ?_)
   ·
    have c3p := kz c3
    refine AJ (Ga rfl ?_)
    refine AM (AB (.t5 0 3 4 5 6) ?_)
    refine AU ?_
    refine EN _ _ ?_ (.t5 5 6 0 3 4) (.refl _)
    · have hv6 : o.verb = 12 ∨ o.verb = 13 ∨ o.verb = 14 ∨ o.verb = 15 ∨ o.verb = 16 ∨ o.verb = 17 := by omega
      rcases hv6 with e | e | e | e | e | e <;> (try rw [e] at c1) <;> (try rw [e] at c2) <;> (try rw [e] at c3) <;> first | exact ⟨by rw [e]; rfl, by rw [e]; rfl⟩ | exact absurd c1 (by decide) | exact absurd c2 (by decide) | exact absurd c3 (by decide)
   have c3p := kz c3
   refine Aa ?_
   refine AB (.t5 0 3 4 5 6) ?_
   refine AU ?_
   refine EN _ _ ?_ (.t5 5 6 0 3 4) (.refl _)
   · have hv6 : o.verb = 12 ∨ o.verb = 13 ∨ o.verb = 14 ∨ o.verb = 15 ∨ o.verb = 16 ∨ o.verb = 17 := by omega
     rcases hv6 with e | e | e | e | e | e <;> (try rw [e] at c1) <;> (try rw [e] at c2) <;> (try rw [e] at c3) <;> first | exact ⟨by rw [e]; rfl, by rw [e]; rfl⟩ | exact absurd c1 (by decide) | exact absurd c2 (by decide) | exact absurd c3 (by decide)
  have c2p := kz c2
  refine AJ (Gt (Aj rfl rfl) (Ga rfl (Gn (.t7 0 3 4 5 6 24 27) ?_)))
  refine Gc (fun c4 => ?_) (fun c4 => ?_)
  ·
   have c4p := kz c4
   refine Gs (Ga rfl (Ga rfl (Gn (.t5 0 3 4 5 6) (Gs (Gm rfl (Gt (BQ rfl) (Gn (.t6 0 3 4 5 6 31) ?_)))))))
   refine Gc (fun c5 => ?_) (fun c5 => ?_)
   ·
    have c5p := kz c5
    refine AJ (Ga rfl ?_)
    refine AM (AB (.t5 0 3 4 5 6) ?_)
    refine AU ?_
    refine EN _ _ ?_ (.t5 5 6 0 3 4) (.refl _)
    · have hv6 : o.verb = 12 ∨ o.verb = 13 ∨ o.verb = 14 ∨ o.verb = 15 ∨ o.verb = 16 ∨ o.verb = 17 := by omega
      rcases hv6 with e | e | e | e | e | e <;> (try rw [e] at c1) <;> (try rw [e] at c2) <;> (try rw [e] at c4) <;> (try rw [e] at c5) <;> first | exact ⟨by rw [e]; rfl, by rw [e]; rfl⟩ | exact absurd c1 (by decide) | exact absurd c2 (by decide) | exact absurd c4 (by decide) | exact absurd c5 (by decide)
   have c5p := kz c5
   refine Aa ?_
   refine AB (.t5 0 3 4 5 6) ?_
   refine AU ?_
   refine EN _ _ ?_ (.t5 5 6 0 3 4) (.refl _)
   · have hv6 : o.verb = 12 ∨ o.verb = 13 ∨ o.verb = 14 ∨ o.verb = 15 ∨ o.verb = 16 ∨ o.verb = 17 := by omega
     rcases hv6 with e | e | e | e | e | e <;> (try rw [e] at c1) <;> (try rw [e] at c2) <;> (try rw [e] at c4) <;> (try rw [e] at c5) <;> first | exact ⟨by rw [e]; rfl, by rw [e]; rfl⟩ | exact absurd c1 (by decide) | exact absurd c2 (by decide) | exact absurd c4 (by decide) | exact absurd c5 (by decide)
  have c4p := kz c4
  refine CB (Gt (Aj rfl rfl) (Ga rfl (Gn (.t7 0 3 4 5 6 24 32) ?_)))
  refine Gc (fun c6 => ?_) (fun c6 => ?_)
  ·
   have c6p := kz c6
   refine Aa ?_
   refine AB (.t6 0 3 4 5 6 32) ?_
   refine AA ?_
   refine FL rfl c6 ?_
   refine Gs (Ga rfl (Ga rfl (Gn (.t5 0 3 4 5 6) (Gs (Gm rfl (Gt (BQ rfl) (Gn (.t6 0 3 4 5 6 36) ?_)))))))
   refine Gc (fun c7 => ?_) (fun c7 => ?_)
   ·
    have c7p := kz c7
    refine AJ (Ga rfl ?_)
    refine AM (AB (.t5 0 3 4 5 6) ?_)
    refine AU ?_
    refine EN _ _ ?_ (.t5 5 6 0 3 4) (.refl _)
    · have hv6 : o.verb = 12 ∨ o.verb = 13 ∨ o.verb = 14 ∨ o.verb = 15 ∨ o.verb = 16 ∨ o.verb = 17 := by omega
      rcases hv6 with e | e | e | e | e | e <;> (try rw [e] at c1) <;> (try rw [e] at c2) <;> (try rw [e] at c4) <;> (try rw [e] at c6) <;> (try rw [e] at c7) <;> first | exact ⟨by rw [e]; rfl, by rw [e]; rfl⟩ | exact absurd c1 (by decide) | exact absurd c2 (by decide) | exact absurd c4 (by decide) | exact absurd c6 (by decide) | exact absurd c7 (by decide)
   have c7p := kz c7
   refine Aa ?_
   refine AB (.t5 0 3 4 5 6) ?_
   refine AU ?_
   refine EN _ _ ?_ (.t5 5 6 0 3 4) (.refl _)
   · have hv6 : o.verb = 12 ∨ o.verb = 13 ∨ o.verb = 14 ∨ o.verb = 15 ∨ o.verb = 16 ∨ o.verb = 17 := by omega
     rcases hv6 with e | e | e | e | e | e <;> (try rw [e] at c1) <;> (try rw [e] at c2) <;> (try rw [e] at c4) <;> (try rw [e] at c6) <;> (try rw [e] at c7) <;> first | exact ⟨by rw [e]; rfl, by rw [e]; rfl⟩ | exact absurd c1 (by decide) | exact absurd c2 (by decide) | exact absurd c4 (by decide) | exact absurd c6 (by decide) | exact absurd c7 (by decide)
  have c6p := kz c6
  refine AJ (Gt (Aj rfl rfl) (Ga rfl (Gn (.t6 0 3 4 5 6 32) ?_)))
  refine Gc (fun c8 => ?_) (fun c8 => ?_)
  ·
   have c8p := kz c8
   refine Gs (Ga rfl (Ga rfl (Gn (.t5 0 3 4 5 6) (Gs (Gm rfl (Gt (BQ rfl) (Gn (.t6 0 3 4 5 6 36) ?_)))))))
   refine Gc (fun c9 => ?_) (fun c9 => ?_)
   ·
    have c9p := kz c9
    refine AJ (Ga rfl ?_)
    refine AM (AB (.t5 0 3 4 5 6) ?_)
    refine AU ?_
    refine EN _ _ ?_ (.t5 5 6 0 3 4) (.refl _)
    · have hv6 : o.verb = 12 ∨ o.verb = 13 ∨ o.verb = 14 ∨ o.verb = 15 ∨ o.verb = 16 ∨ o.verb = 17 := by omega
      rcases hv6 with e | e | e | e | e | e <;> (try rw [e] at c1) <;> (try rw [e] at c2) <;> (try rw [e] at c4) <;> (try rw [e] at c6) <;> (try rw [e] at c8) <;> (try rw [e] at c9) <;> first | exact ⟨by rw [e]; rfl, by rw [e]; rfl⟩ | exact absurd c1 (by decide) | exact absurd c2 (by decide) | exact absurd c4 (by decide) | exact absurd c6 (by decide) | exact absurd c8 (by decide) | exact absurd c9 (by decide)
   have c9p := kz c9
   refine Aa ?_
   refine AB (.t5 0 3 4 5 6) ?_
   refine AU ?_
   refine EN _ _ ?_ (.t5 5 6 0 3 4) (.refl _)
   · have hv6 : o.verb = 12 ∨ o.verb = 13 ∨ o.verb = 14 ∨ o.verb = 15 ∨ o.verb = 16 ∨ o.verb = 17 := by omega
     rcases hv6 with e | e | e | e | e | e <;> (try rw [e] at c1) <;> (try rw [e] at c2) <;> (try rw [e] at c4) <;> (try rw [e] at c6) <;> (try rw [e] at c8) <;> (try rw [e] at c9) <;> first | exact ⟨by rw [e]; rfl, by rw [e]; rfl⟩ | exact absurd c1 (by decide) | exact absurd c2 (by decide) | exact absurd c4 (by decide) | exact absurd c6 (by decide) | exact absurd c8 (by decide) | exact absurd c9 (by decide)
  have c8p := kz c8
  refine Aa ?_
  refine AB (.t5 0 3 4 5 6) ?_
  refine AU ?_
  refine EN _ _ ?_ (.t5 5 6 0 3 4) (.refl _)
  · have hv6 : o.verb = 12 ∨ o.verb = 13 ∨ o.verb = 14 ∨ o.verb = 15 ∨ o.verb = 16 ∨ o.verb = 17 := by omega
    rcases hv6 with e | e | e | e | e | e <;> (try rw [e] at c1) <;> (try rw [e] at c2) <;> (try rw [e] at c4) <;> (try rw [e] at c6) <;> (try rw [e] at c8) <;> first | exact ⟨by rw [e]; rfl, by rw [e]; rfl⟩ | exact absurd c1 (by decide) | exact absurd c2 (by decide) | exact absurd c4 (by decide) | exact absurd c6 (by decide) | exact absurd c8 (by decide)
 obtain ⟨rfl, rfl⟩ := hC
 refine CB (Gt (Ah FQ rfl) (Gt (AF rfl CC .m0 Order.l3 rfl rfl) ?_))
 refine A8 rfl Zh (.c rfl .n) (fun w hS => JK _ w (gl0.stM gm0 hS)) ?_
 refine Gm rfl (Gt (AL rfl rfl) (Gt (AL rfl rfl) (Ga rfl (Ga rfl (Gn (.t7 0 3 4 5 6 7 8) (Gs (Gm rfl ?_)))))))
 refine Gm rfl (Ba 44 rfl rfl (fun q => AE rfl) (Ba 44 rfl rfl (fun q => Aj (BX rfl q) rfl) (Gt (BH rfl rfl (fun h => h)) (Gn (.t7 0 3 4 5 6 7 47) ?_))))
 refine Gc (fun c10 => ?_) (fun c10 => ?_)
 ·
  have c10p := kz c10
  refine Gs (Gm rfl (Gm rfl (Gm rfl (Gm rfl ?_))))
  refine Ag rfl aN (.c rfl (.c rfl (.c rfl (.c rfl .n)))) (.c (.t .h) (.c (.t .h) .n)) (QG _ T _ _ _ _ hg hF (Words.Xu (Bool.and_eq_true_iff.1 c10).1) (by omega)) (fun v1 B hv => ?_)
  obtain ⟨y2, rfl, y3, rfl⟩ := hv
  refine Gn (.nil _) (Ac (AD ?_))
  refine AY rfl .n ?_
  intro w1 hS
  have hS := (hS.perm (Av.perm (.c .h (.c .h .n)))).Ay
  have hq : T.set o = _ := (BC c10)
  refine ⟨_, ⟨?gq1, rfl, ?hl1, ?hB1⟩, hS⟩
  case hB1 => rw [hq]; (try rfl)
  case hl1 => rw [hq]; assumption
 have c10p := kz c10
 refine Aa ?_
 refine AB (.t5 0 3 4 5 6) ?_
 refine AA (Gs (Gm rfl ?_))
 refine Ag rfl Sx (.c rfl .n) (.c (.t .h) .n) (HU _ T _ hF) (fun v4 B hv => ?_)
 obtain ⟨y5, rfl, y6, rfl⟩ := hv
 refine Ga rfl (Gn (.t6 0 3 4 5 6 9) (CB (Gm rfl (Gt (Aj rfl rfl) (Gn (.t7 0 3 4 5 6 9 56) ?_)))))
 refine Gc (fun c11 => ?_) (fun c11 => ?_)
 ·
  have c11p := kz c11
  refine AJ (Gm rfl (Gm rfl ?_))
  refine Ag rfl VS (.c rfl .n) (.c .h .n) (Ib _ T _ hF) (fun v8 B hv => ?_)
  obtain ⟨y9, rfl, y10, rfl⟩ := hv
  refine CW Bz rfl Tryz.underlying169 C5 ZI rfl aq (by decide) (by decide) rfl rfl (fun w hS => Src.De Tryz.underlying169 ((Kn.own .m1) w hS)) (by (try dsimp only); omega) (fun _ => (.t (.t .h))) (fun h12 h12l h12z => ?_)
  refine Ga rfl (Gn (.t6 0 3 4 5 6 9) (Gs (Gm rfl (Gm rfl (Gt (Ah Fv rfl) (Gt (AF rfl A1 .m3 Order.l1 rfl rfl) (Gt (LN rfl rfl) ?_)))))))
  refine Gt (Ah FQ rfl) (Gt (AF rfl CC .m3 Order.l3 rfl rfl) ?_)
  refine Ag rfl Oq (.c rfl (.c rfl (.c rfl (.c rfl (.c rfl .n))))) (.c .h (.c (.t .h) .n)) (Ea _ T _ _ (T.own ++ T.seen) _ _ _ hF (by rw [List.length_append]; omega) (by rw [List.length_append]; omega) (fun i hi => AG.Ps hi)) (fun v13 B hv => ?_)
  obtain ⟨y14, rfl, y15, rfl⟩ := hv
  refine Ga rfl (Gn (.t5 0 4 5 6 9) (Ae (Ao ?_)))
  have hx0 := AG.Qu (l := (AG.BP T.w (T.own ++ T.seen) (max o.nth 1) o.name false)) (fun i hi => AG.Ps (AG.Ek hi))
  refine BE (N := 18) [0, 1, 3, 7, 15, 15, 47, 111, 31, 287, 799, 2047, 4095, 8191, 15, 32767, 65535, 131071] mix (by kernel_rfl) rfl ?_
  refine Pf 0 rfl (AE rfl) (Pf 1 rfl (Aq rfl Tryz.underlying169 rfl) (Pf 2 rfl (Aj rfl rfl) (Pf 3 rfl (AE rfl) (Gp 4 82 rfl rfl rfl (fun q => AE rfl) (Gp 5 82 rfl rfl rfl (fun q => AE rfl) ?_)))))
  refine BW 6 rfl rfl (by kernel_rfl) (GX (t := 82) rfl rfl (fun q => by have q1 := q; (try simp at q1); exact Hw (Bg GC (by decide) (Kn.own .m2) (cF rfl q) rfl (by omega) (by first | omega | (simp at q ⊢; omega))))) ?_
  refine BW 7 rfl rfl (by kernel_rfl) (GX (t := 82) rfl rfl (fun q => by have q1 := q; (try simp at q1); exact Hw (C8 (cF rfl q) A1 (Kn.own .m2) (by first | omega | (simp at q ⊢; omega))))) ?_
  refine Gp 8 82 rfl rfl rfl (fun q => BS (cF rfl q)) (Gp 9 82 rfl rfl rfl (fun q => Ah A6 (cF rfl q)) (Gp 10 82 rfl rfl rfl (fun q => Ah Cq (cF rfl q)) ?_))
  refine BW 11 rfl rfl (by kernel_rfl) (GX (t := 82) rfl rfl (fun q => by have q1 := q; (try simp at q1); exact Hw (AR Fo (cF rfl q) (cF rfl q) (by first | omega | exact hb.1 | exact hb.2 | exact hx0.1 | exact hx0.2 | (dsimp only; omega)) (by first | omega | exact hb.1 | exact hb.2 | exact hx0.1 | exact hx0.2 | (dsimp only; omega))))) ?_
  refine Gp 12 82 rfl rfl rfl (fun q => Ah GS (cF rfl q)) ?_
  refine BW 13 rfl rfl (by kernel_rfl) (GX (t := 82) rfl rfl (fun q => by have q1 := q; (try simp at q1); exact Hw (AF (cF rfl q) A1 .m0 (((Ad.l0.comp AI.l1).comp (AS.ar (n := 9) Ak.fl (by first | omega | exact hb | exact hx0 | (dsimp only; omega)))).comp Ak.l1) rfl rfl))) ?_
  refine Gp 14 82 rfl rfl rfl (fun q => AE rfl) (Gp 15 82 rfl rfl rfl (fun q => CT (cF rfl q) (cF rfl q)) ?_)
  refine Pf 16 rfl (BR rfl rfl (fun h => by rw [h]; rfl)) ?_
  refine Pf 17 rfl (Az rfl) ?_
  refine A3 (by kernel_rfl) ?_
  refine AB (.t6 0 4 5 6 9 78) ?_
  refine AA ?_
  refine Gc (fun c12 => ?_) (fun c12 => ?_)
  ·
   have c12p := kz c12
   rw [y15] at c12 c12p
   have hsl : T.E5 o = (AG.BP T.w (T.own ++ T.seen) (max o.nth 1) o.name false) := congrArg (fun q => AG.BP T.w q _ _ _) (BC c11)
   refine AJ (Gm rfl ?_)
   refine Ag rfl D3 (.c rfl (.c rfl .n)) (.c .h (.c (.t (.t (.t (.t .h)))) .n)) (Bb _ _ _ _ hg hb (by omega)) (fun v17 B hv => ?_)
   obtain ⟨y18, rfl, y19, rfl⟩ := hv
   refine AM (AB (.nil _) ?_)
   refine AU ?_
   refine Bh rfl .n ?_
   intro w1 hS
   have hS := (hS.perm (Av.perm (.c .h (.c .h .n)))).Ay
   have d0 : (decide (((T.E5 o).length : Int) = 0) || !decide ((T.w.AX.at ((T.E5 o).getD 0 0)).kind = AG.setKind o.verb)) = true := by rw [hsl]; exact c12
   have hq : T.set o = _ := (AV c10).trans (BC d0)
   (try rw [hsl] at hq)
   refine ⟨_, ⟨?gq2, rfl, ?hl2, ?hB2⟩, hS⟩
   case hB2 => rw [hq]; (try rfl)
   case hl2 => rw [hq]; assumption
  have c12p := kz c12
  rw [y15] at c12 c12p
  have hsl : T.E5 o = (AG.BP T.w (T.own ++ T.seen) (max o.nth 1) o.name false) := congrArg (fun q => AG.BP T.w q _ _ _) (BC c11)
  refine Ao ?_
  refine BE (N := 13) [0, 0, 2, 6, 1, 17, 49, 127, 255, 511, 0, 2047, 4095] mix (by kernel_rfl) rfl ?_
  refine Pf 0 rfl (AE rfl) (Pf 1 rfl (AE rfl) ?_)
  refine Pf 2 rfl (Bg GC (by decide) (Kn.own .m2) rfl rfl (by omega) (by first | omega | (simp at q ⊢; omega))) ?_
  refine Pf 3 rfl (C8 rfl A1 (Kn.own .m2) (by first | omega | (simp at q ⊢; omega))) ?_
  refine Pf 4 rfl (BS rfl) (Pf 5 rfl (Ah A6 rfl) (Pf 6 rfl (Ah Cq rfl) ?_))
  refine Pf 7 rfl (AR Fo rfl rfl (by first | omega | exact hb.1 | exact hb.2 | exact hx0.1 | exact hx0.2 | (dsimp only; omega)) (by first | omega | exact hb.1 | exact hb.2 | exact hx0.1 | exact hx0.2 | (dsimp only; omega))) ?_
  refine Pf 8 rfl (Ah Fk rfl) ?_
  refine Pf 9 rfl (AF rfl Ct .m0 (((Ad.l0.comp AI.l1).comp (AS.ar (n := 9) Ak.fl (by first | omega | exact hb | exact hx0 | (dsimp only; omega)))).comp Ak.l4) rfl rfl) ?_
  refine Pf 10 rfl (AE rfl) (Pf 11 rfl (EV Tryz.underlying4 rfl rfl) (Pf 12 rfl (Az rfl) ?_))
  refine A3 (by kernel_rfl) ?_
  refine AB (.t6 0 4 5 6 9 98) ?_
  refine AA ?_
  refine Gc (fun c13 => ?_) (fun c13 => ?_)
  ·
   have c13p := kz c13
   refine AJ (Gm rfl ?_)
   refine Ag rfl D3 (.c rfl (.c rfl .n)) (.c .h (.c (.t (.t (.t (.t .h)))) .n)) (Bb _ _ _ _ hg hb (by omega)) (fun v20 B hv => ?_)
   obtain ⟨y21, rfl, y22, rfl⟩ := hv
   refine AM (AB (.nil _) ?_)
   refine AU ?_
   refine Bh rfl .n ?_
   intro w1 hS
   have hS := (hS.perm (Av.perm (.c .h (.c .h .n)))).Ay
   have d0 : (decide (((T.E5 o).length : Int) = 0) || !decide ((T.w.AX.at ((T.E5 o).getD 0 0)).kind = AG.setKind o.verb)) = false := by rw [hsl]; exact c12
   have d1 : ((T.w.AX.at ((T.E5 o).getD 0 0)).on == AG.Gq o.verb) = true := by rw [hsl]; exact c13
   have hq : T.set o = _ := (AV c10).trans ((AV d0).trans (BC d1))
   (try rw [hsl] at hq)
   refine ⟨_, ⟨?gq3, rfl, ?hl3, ?hB3⟩, hS⟩
   case hB3 => rw [hq]; (try rfl)
   case hl3 => rw [hq]; assumption
  have c13p := kz c13
  refine Gs (Gm rfl (Ga rfl (Gn (.t6 0 4 5 6 9 113) ?_)))
  refine Gc (fun c14 => ?_) (fun c14 => ?_)
  ·
   have c14p := kz c14
   refine AJ (Gm rfl (Gm rfl (Gt (CT rfl rfl) (Gm rfl ?_))))
   refine Gt (Bg GC (by decide) (Kn.own .m2) rfl rfl (by omega) (by first | omega | (simp at q ⊢; omega))) ?_
   refine Gt (C8 rfl A1 (Kn.own .m2) (by first | omega | (simp at q ⊢; omega))) ?_
   refine Gm rfl (Gm rfl ?_)
   refine Ag rfl TJ (.c rfl (.c rfl (.c rfl (.c rfl (.c rfl .n))))) (.c .h (.c (.t (.t (.t (.t .h)))) .n)) (FK _ T _ (!decide (AG.setKind o.verb = 2)) ((AG.BP T.w (T.own ++ T.seen) (max o.nth 1) o.name false).getD (0 : Int).toNat 0) _ _ hg hb hx0 (by omega)) (fun v23 B hv => ?_)
   obtain ⟨y24, rfl, y25, rfl⟩ := hv
   refine AM (AB (.nil _) ?_)
   refine AU ?_
   refine Bh rfl .n ?_
   intro w1 hS
   have hS := (hS.perm (Av.perm (.c .h (.c .h .n)))).Ay
   have d0 : (decide (((T.E5 o).length : Int) = 0) || !decide ((T.w.AX.at ((T.E5 o).getD 0 0)).kind = AG.setKind o.verb)) = false := by rw [hsl]; exact c12
   have d1 : ((T.w.AX.at ((T.E5 o).getD 0 0)).on == AG.Gq o.verb) = false := by rw [hsl]; exact c13
   have d2 : AG.Gq o.verb = true := c14
   have hq : T.set o = _ := (AV c10).trans ((AV d0).trans ((AV d1).trans (BC d2)))
   (try rw [hsl] at hq)
   refine ⟨_, ⟨?gq4, rfl, ?hl4, ?hB4⟩, hS⟩
   case hB4 => rw [hq]; (try rfl)
   case hl4 => rw [hq]; assumption
  have c14p := kz c14
  refine AJ (Gm rfl (Gm rfl (Gt (Aj rfl rfl) (Gm rfl ?_))))
  refine Gt (Bg GC (by decide) (Kn.own .m2) rfl rfl (by omega) (by first | omega | (simp at q ⊢; omega))) ?_
  refine Gt (C8 rfl A1 (Kn.own .m2) (by first | omega | (simp at q ⊢; omega))) ?_
  refine Gm rfl (Gm rfl ?_)
  refine Ag rfl TJ (.c rfl (.c rfl (.c rfl (.c rfl (.c rfl .n))))) (.c .h (.c (.t (.t (.t (.t .h)))) .n)) (FK _ T _ (decide (AG.setKind o.verb = 2)) ((AG.BP T.w (T.own ++ T.seen) (max o.nth 1) o.name false).getD (0 : Int).toNat 0) _ _ hg hb hx0 (by omega)) (fun v26 B hv => ?_)
  obtain ⟨y27, rfl, y28, rfl⟩ := hv
  refine AM (AB (.nil _) ?_)
  refine AU ?_
  refine Bh rfl .n ?_
  intro w1 hS
  have hS := (hS.perm (Av.perm (.c .h (.c .h .n)))).Ay
  have d0 : (decide (((T.E5 o).length : Int) = 0) || !decide ((T.w.AX.at ((T.E5 o).getD 0 0)).kind = AG.setKind o.verb)) = false := by rw [hsl]; exact c12
  have d1 : ((T.w.AX.at ((T.E5 o).getD 0 0)).on == AG.Gq o.verb) = false := by rw [hsl]; exact c13
  have d2 : AG.Gq o.verb = false := c14
  have hq : T.set o = _ := (AV c10).trans ((AV d0).trans ((AV d1).trans (AV d2)))
  (try rw [hsl] at hq)
  refine ⟨_, ⟨?gq5, rfl, ?hl5, ?hB5⟩, hS⟩
  case hB5 => rw [hq]; (try rfl)
  case hl5 => rw [hq]; assumption
 have c11p := kz c11
 refine Aa ?_
 refine AB (.t6 0 3 4 5 6 9) ?_
 refine AA (Gs (Gm rfl (Gm rfl (Gt (Ah Fv rfl) (Gt (AF rfl A1 .m2 Order.l1 rfl rfl) (Gt (LN rfl rfl) (Gt (Ah FQ rfl) ?_)))))))
 refine Gt (AF rfl CC .m2 Order.l3 rfl rfl) ?_
 refine Ag rfl Oq (.c rfl (.c rfl (.c rfl (.c rfl (.c rfl .n))))) (.c .h (.c .h .n)) (Ea _ T _ _ T.own _ _ _ hF (by assumption) (by omega) (fun i hi => AG.Kk hi)) (fun v29 B hv => ?_)
 obtain ⟨y30, rfl, y31, rfl⟩ := hv
 refine Ga rfl (Gn (.t5 0 4 5 6 9) (Ae (Ao ?_)))
 have hx0 := AG.Qu (l := (AG.BP T.w T.own (max o.nth 1) o.name false)) (fun i hi => AG.Kk (AG.Ek hi))
 refine BE (N := 18) [0, 1, 3, 7, 15, 15, 47, 111, 31, 287, 799, 2047, 4095, 8191, 15, 32767, 65535, 131071] mix (by kernel_rfl) rfl ?_
 refine Pf 0 rfl (AE rfl) (Pf 1 rfl (Aq rfl Tryz.underlying169 rfl) (Pf 2 rfl (Aj rfl rfl) (Pf 3 rfl (AE rfl) (Gp 4 82 rfl rfl rfl (fun q => AE rfl) (Gp 5 82 rfl rfl rfl (fun q => AE rfl) ?_)))))
 refine BW 6 rfl rfl (by kernel_rfl) (GX (t := 82) rfl rfl (fun q => by have q1 := q; (try simp at q1); exact Hw (Bg GC (by decide) (Kn.own .m2) (cF rfl q) rfl (by omega) (by first | omega | (simp at q ⊢; omega))))) ?_
 refine BW 7 rfl rfl (by kernel_rfl) (GX (t := 82) rfl rfl (fun q => by have q1 := q; (try simp at q1); exact Hw (C8 (cF rfl q) A1 (Kn.own .m2) (by first | omega | (simp at q ⊢; omega))))) ?_
 refine Gp 8 82 rfl rfl rfl (fun q => BS (cF rfl q)) (Gp 9 82 rfl rfl rfl (fun q => Ah A6 (cF rfl q)) (Gp 10 82 rfl rfl rfl (fun q => Ah Cq (cF rfl q)) ?_))
 refine BW 11 rfl rfl (by kernel_rfl) (GX (t := 82) rfl rfl (fun q => by have q1 := q; (try simp at q1); exact Hw (AR Fo (cF rfl q) (cF rfl q) (by first | omega | exact hb.1 | exact hb.2 | exact hx0.1 | exact hx0.2 | (dsimp only; omega)) (by first | omega | exact hb.1 | exact hb.2 | exact hx0.1 | exact hx0.2 | (dsimp only; omega))))) ?_
 refine Gp 12 82 rfl rfl rfl (fun q => Ah GS (cF rfl q)) ?_
 refine BW 13 rfl rfl (by kernel_rfl) (GX (t := 82) rfl rfl (fun q => by have q1 := q; (try simp at q1); exact Hw (AF (cF rfl q) A1 .m0 (((Ad.l0.comp AI.l1).comp (AS.ar (n := 9) Ak.fl (by first | omega | exact hb | exact hx0 | (dsimp only; omega)))).comp Ak.l1) rfl rfl))) ?_
 refine Gp 14 82 rfl rfl rfl (fun q => AE rfl) (Gp 15 82 rfl rfl rfl (fun q => CT (cF rfl q) (cF rfl q)) ?_)
 refine Pf 16 rfl (BR rfl rfl (fun h => by rw [h]; rfl)) ?_
 refine Pf 17 rfl (Az rfl) ?_
 refine A3 (by kernel_rfl) ?_
 refine AB (.t6 0 4 5 6 9 78) ?_
 refine AA ?_
 refine Gc (fun c15 => ?_) (fun c15 => ?_)
 ·
  have c15p := kz c15
  rw [y31] at c15 c15p
  have hsl : T.E5 o = (AG.BP T.w T.own (max o.nth 1) o.name false) := congrArg (fun q => AG.BP T.w q _ _ _) (AV c11)
  refine AJ (Gm rfl ?_)
  refine Ag rfl D3 (.c rfl (.c rfl .n)) (.c .h (.c (.t (.t (.t .h))) .n)) (Bb _ _ _ _ hg hb (by omega)) (fun v33 B hv => ?_)
  obtain ⟨y34, rfl, y35, rfl⟩ := hv
  refine AM (AB (.nil _) ?_)
  refine AU ?_
  refine Bh rfl .n ?_
  intro w1 hS
  have hS := (hS.perm (Av.perm (.c .h (.c .h .n)))).Ay
  have d0 : (decide (((T.E5 o).length : Int) = 0) || !decide ((T.w.AX.at ((T.E5 o).getD 0 0)).kind = AG.setKind o.verb)) = true := by rw [hsl]; exact c15
  have hq : T.set o = _ := (AV c10).trans (BC d0)
  (try rw [hsl] at hq)
  refine ⟨_, ⟨?gq6, rfl, ?hl6, ?hB6⟩, hS⟩
  case hB6 => rw [hq]; (try rfl)
  case hl6 => rw [hq]; assumption
 have c15p := kz c15
 rw [y31] at c15 c15p
 have hsl : T.E5 o = (AG.BP T.w T.own (max o.nth 1) o.name false) := congrArg (fun q => AG.BP T.w q _ _ _) (AV c11)
 refine Ao ?_
 refine BE (N := 13) [0, 0, 2, 6, 1, 17, 49, 127, 255, 511, 0, 2047, 4095] mix (by kernel_rfl) rfl ?_
 refine Pf 0 rfl (AE rfl) (Pf 1 rfl (AE rfl) ?_)
 refine Pf 2 rfl (Bg GC (by decide) (Kn.own .m2) rfl rfl (by omega) (by first | omega | (simp at q ⊢; omega))) ?_
 refine Pf 3 rfl (C8 rfl A1 (Kn.own .m2) (by first | omega | (simp at q ⊢; omega))) ?_
 refine Pf 4 rfl (BS rfl) (Pf 5 rfl (Ah A6 rfl) (Pf 6 rfl (Ah Cq rfl) ?_))
 refine Pf 7 rfl (AR Fo rfl rfl (by first | omega | exact hb.1 | exact hb.2 | exact hx0.1 | exact hx0.2 | (dsimp only; omega)) (by first | omega | exact hb.1 | exact hb.2 | exact hx0.1 | exact hx0.2 | (dsimp only; omega))) ?_
 refine Pf 8 rfl (Ah Fk rfl) ?_
 refine Pf 9 rfl (AF rfl Ct .m0 (((Ad.l0.comp AI.l1).comp (AS.ar (n := 9) Ak.fl (by first | omega | exact hb | exact hx0 | (dsimp only; omega)))).comp Ak.l4) rfl rfl) ?_
 refine Pf 10 rfl (AE rfl) (Pf 11 rfl (EV Tryz.underlying4 rfl rfl) (Pf 12 rfl (Az rfl) ?_))
 refine A3 (by kernel_rfl) ?_
 refine AB (.t6 0 4 5 6 9 98) ?_
 refine AA ?_
 refine Gc (fun c16 => ?_) (fun c16 => ?_)
 ·
  have c16p := kz c16
  refine AJ (Gm rfl ?_)
  refine Ag rfl D3 (.c rfl (.c rfl .n)) (.c .h (.c (.t (.t (.t .h))) .n)) (Bb _ _ _ _ hg hb (by omega)) (fun v36 B hv => ?_)
  obtain ⟨y37, rfl, y38, rfl⟩ := hv
  refine AM (AB (.nil _) ?_)
  refine AU ?_
  refine Bh rfl .n ?_
  intro w1 hS
  have hS := (hS.perm (Av.perm (.c .h (.c .h .n)))).Ay
  have d0 : (decide (((T.E5 o).length : Int) = 0) || !decide ((T.w.AX.at ((T.E5 o).getD 0 0)).kind = AG.setKind o.verb)) = false := by rw [hsl]; exact c15
  have d1 : ((T.w.AX.at ((T.E5 o).getD 0 0)).on == AG.Gq o.verb) = true := by rw [hsl]; exact c16
  have hq : T.set o = _ := (AV c10).trans ((AV d0).trans (BC d1))
  (try rw [hsl] at hq)
  refine ⟨_, ⟨?gq7, rfl, ?hl7, ?hB7⟩, hS⟩
  case hB7 => rw [hq]; (try rfl)
  case hl7 => rw [hq]; assumption
 have c16p := kz c16
 refine Gs (Gm rfl (Ga rfl (Gn (.t6 0 4 5 6 9 113) ?_)))
 refine Gc (fun c17 => ?_) (fun c17 => ?_)
 ·
  have c17p := kz c17
  refine AJ (Gm rfl (Gm rfl (Gt (CT rfl rfl) (Gm rfl ?_))))
  refine Gt (Bg GC (by decide) (Kn.own .m2) rfl rfl (by omega) (by first | omega | (simp at q ⊢; omega))) ?_
  refine Gt (C8 rfl A1 (Kn.own .m2) (by first | omega | (simp at q ⊢; omega))) ?_
  refine Gm rfl (Gm rfl ?_)
  refine Ag rfl TJ (.c rfl (.c rfl (.c rfl (.c rfl (.c rfl .n))))) (.c .h (.c (.t (.t (.t .h))) .n)) (FK _ T _ (!decide (AG.setKind o.verb = 2)) ((AG.BP T.w T.own (max o.nth 1) o.name false).getD (0 : Int).toNat 0) _ _ hg hb hx0 (by omega)) (fun v39 B hv => ?_)
  obtain ⟨y40, rfl, y41, rfl⟩ := hv
  refine AM (AB (.nil _) ?_)
  refine AU ?_
  refine Bh rfl .n ?_
  intro w1 hS
  have hS := (hS.perm (Av.perm (.c .h (.c .h .n)))).Ay
  have d0 : (decide (((T.E5 o).length : Int) = 0) || !decide ((T.w.AX.at ((T.E5 o).getD 0 0)).kind = AG.setKind o.verb)) = false := by rw [hsl]; exact c15
  have d1 : ((T.w.AX.at ((T.E5 o).getD 0 0)).on == AG.Gq o.verb) = false := by rw [hsl]; exact c16
  have d2 : AG.Gq o.verb = true := c17
  have hq : T.set o = _ := (AV c10).trans ((AV d0).trans ((AV d1).trans (BC d2)))
  (try rw [hsl] at hq)
  refine ⟨_, ⟨?gq8, rfl, ?hl8, ?hB8⟩, hS⟩
  case hB8 => rw [hq]; (try rfl)
  case hl8 => rw [hq]; assumption
 have c17p := kz c17
 refine AJ (Gm rfl (Gm rfl (Gt (Aj rfl rfl) (Gm rfl ?_))))
 refine Gt (Bg GC (by decide) (Kn.own .m2) rfl rfl (by omega) (by first | omega | (simp at q ⊢; omega))) ?_
 refine Gt (C8 rfl A1 (Kn.own .m2) (by first | omega | (simp at q ⊢; omega))) ?_
 refine Gm rfl (Gm rfl ?_)
 refine Ag rfl TJ (.c rfl (.c rfl (.c rfl (.c rfl (.c rfl .n))))) (.c .h (.c (.t (.t (.t .h))) .n)) (FK _ T _ (decide (AG.setKind o.verb = 2)) ((AG.BP T.w T.own (max o.nth 1) o.name false).getD (0 : Int).toNat 0) _ _ hg hb hx0 (by omega)) (fun v42 B hv => ?_)
 obtain ⟨y43, rfl, y44, rfl⟩ := hv
 refine AM (AB (.nil _) ?_)
 refine AU ?_
 refine Bh rfl .n ?_
 intro w1 hS
 have hS := (hS.perm (Av.perm (.c .h (.c .h .n)))).Ay
 have d0 : (decide (((T.E5 o).length : Int) = 0) || !decide ((T.w.AX.at ((T.E5 o).getD 0 0)).kind = AG.setKind o.verb)) = false := by rw [hsl]; exact c15
 have d1 : ((T.w.AX.at ((T.E5 o).getD 0 0)).on == AG.Gq o.verb) = false := by rw [hsl]; exact c16
 have d2 : AG.Gq o.verb = false := c17
 have hq : T.set o = _ := (AV c10).trans ((AV d0).trans ((AV d1).trans (AV d2)))
 (try rw [hsl] at hq)
 refine ⟨_, ⟨?gq9, rfl, ?hl9, ?hB9⟩, hS⟩
 case hB9 => rw [hq]; (try rfl)
 case hl9 => rw [hq]; assumption
theorem Fz (X : AI) (b : Int) (o : Order) (hw : X.D4) (hu : o.second.length ≤ 5000000) (hm : o.name.length ≤ 5000000) : Ev Tryz.prog 84 #[.agg X.enc.toArray, .int .i64 b, .agg o.enc.toArray] [] (fun w => (GV 0 AI.C2 w ∧ 0 ∉ CR []) ∧ (F2 7 w ∧ 7 ∉ CR []) ∧ (F2 8 w ∧ 8 ∉ CR [])) (fun v B => ∃ h : Hd, v = .tuple #[.agg ((AG.Fh X b o).1.enc).toArray, h.val, .int .i64 (AG.Fh X b o).2.2] ∧ h.len = (AG.Fh X b o).2.1.length ∧ B = [Ab.own h 56 16 ((AG.Fh X b o).2.1.flatMap Ing.Event.enc)]) := by
 intro w hS0 hH
 obtain ⟨⟨gl0, gm0⟩, ⟨gl1, gm1⟩, ⟨gl2, gm2⟩⟩ := hH
 refine Ai _ _ Tryz.func84 rfl rfl rfl (hS0) ?_
 refine Gs ?_
 refine Bw rfl rfl rfl (fun b1 => ?_)
 refine Bw rfl rfl rfl (fun b2 => ?_)
 refine BB rfl LX rfl (fun b3 => ?_)
 refine Ga rfl (Ga rfl (Gn (.t4 1 3 5 6) (Ao (Ae (Gs (Gt (AZ rfl BT .m2 (AS.id AI.fl.len AI.fl.one) rfl) ?_))))))
 refine A8 rfl YM (.c rfl .n) (fun w hS => Gv _ w) ?_
 refine Gt (BQ rfl) (Ga rfl (Gn (.t5 1 3 5 6 10) ?_))
 refine Gc (fun c1 => ?_) (fun c1 => ?_)
 ·
  refine Gs (Gt (AZ rfl BT .m2 (AS.id AI.fl.len AI.fl.one) rfl) ?_)
  refine AQ (AK (AS.id AI.fl.len AI.fl.one) rfl rfl rfl Dw rfl .h) ?_
  refine Ga rfl (Ga rfl (Gn (.t3 6 7 8) (Ac (AP (AD ?_)))))
  refine AY rfl (.cell rfl .m0 (.inl ⟨(by rw [AI.fl.len]; exact BT), rfl⟩) (.tmp rfl (.tmp rfl .n))) ?_
  intro w1 hS
  have hS := hS.Cj 56 16
  have hS := (hS.perm (Av.perm (.c .h .n))).Ay
  have hq : AG.Fh X b o = _ := (BC c1)
  refine ⟨_, ⟨⟨none, 0, 0⟩, ?hv1, ?hl1, ?hB1⟩, hS⟩
  case hv1 => rw [hq]; rfl
  case hl1 => rw [hq]; rfl
  case hB1 => rw [hq]; rfl
 have c1p := kz c1
 refine Gs (Gm rfl (Gt (A5 rfl rfl) (Gm rfl (BZ 18 rfl rfl (fun q => AE rfl) (BZ 18 rfl rfl (fun q => CI (cF rfl q) rfl) ?_)))))
 refine Gt (BR rfl rfl (fun h => by rw [h]; rfl)) ?_
 refine Gm rfl (BZ 22 rfl rfl (fun q => AE rfl) (BZ 22 rfl rfl (fun q => Ah Bk rfl) ?_))
 refine BZ 22 rfl rfl (fun q => by have q1 := q; (try simp at q1); exact AR Cy (cF rfl q) (cF rfl q) (by first | omega | exact hb.1 | exact hb.2 | (dsimp only; omega)) (by first | omega | exact hb.1 | exact hb.2 | (dsimp only; omega))) ?_
 refine BZ 22 rfl rfl (fun q => Ah Hp (cF rfl q)) ?_
 refine BZ 22 rfl rfl (fun q => by have q1 := q; (try simp at q1); exact AF (cF rfl q) Ct .m2 ((AI.l2.comp (AS.ar (n := 6) Al.fl (by first | omega | exact hb | (dsimp only; omega)))).comp Al.l1) rfl rfl) ?_
 refine BZ 22 rfl rfl (fun q => BQ (cF rfl q)) ?_
 refine Gt (BR rfl rfl (fun h => by rw [h]; rfl)) ?_
 refine Ga rfl (Gn (.t5 1 3 5 6 15) ?_)
 refine Gc (fun c2 => ?_) (fun c2 => ?_)
 ·
  refine Gs (Gt (AZ rfl BT .m2 (AS.id AI.fl.len AI.fl.one) rfl) ?_)
  refine AQ (AK (AS.id AI.fl.len AI.fl.one) rfl rfl rfl Dw rfl .h) ?_
  refine Ga rfl (Ga rfl (Gn (.t3 6 7 8) (Ac (AP (AD ?_)))))
  refine AY rfl (.cell rfl .m0 (.inl ⟨(by rw [AI.fl.len]; exact BT), rfl⟩) (.tmp rfl (.tmp rfl .n))) ?_
  intro w1 hS
  have hS := hS.Cj 56 16
  have hS := (hS.perm (Av.perm (.c .h .n))).Ay
  have hq : AG.Fh X b o = _ := ((AV c1).trans (BC c2))
  refine ⟨_, ⟨⟨none, 0, 0⟩, ?hv2, ?hl2, ?hB2⟩, hS⟩
  case hv2 => rw [hq]; rfl
  case hl2 => rw [hq]; rfl
  case hB2 => rw [hq]; rfl
 have c2p := kz c2
 refine Gs (Gt (Ah C4 rfl) (Gt (AF rfl A1 .m1 Order.l0 rfl rfl) (Gt (A5 rfl rfl) (Gm rfl (BZ 35 rfl rfl (fun q => Ah C4 rfl) (BZ 35 rfl rfl (fun q => AF (cF rfl q) A1 .m1 Order.l0 rfl rfl) (BZ 35 rfl rfl (fun q => Cf (cF rfl q) rfl) ?_)))))))
 refine Gt (BR rfl rfl (fun h => by rw [h]; rfl)) ?_
 refine Ga rfl (Gn (.t5 1 3 5 6 31) ?_)
 refine Gc (fun c3 => ?_) (fun c3 => ?_)
 ·
  refine Gs (Gt (AZ rfl BT .m2 (AS.id AI.fl.len AI.fl.one) rfl) ?_)
  refine AQ (AK (AS.id AI.fl.len AI.fl.one) rfl rfl rfl Dw rfl .h) ?_
  refine Ga rfl (Ga rfl (Gn (.t3 6 7 8) (Ac (AP (AD ?_)))))
  refine AY rfl (.cell rfl .m0 (.inl ⟨(by rw [AI.fl.len]; exact BT), rfl⟩) (.tmp rfl (.tmp rfl .n))) ?_
  intro w1 hS
  have hS := hS.Cj 56 16
  have hS := (hS.perm (Av.perm (.c .h .n))).Ay
  have hq : AG.Fh X b o = _ := ((AV c1).trans ((AV c2).trans (BC c3)))
  refine ⟨_, ⟨⟨none, 0, 0⟩, ?hv3, ?hl3, ?hB3⟩, hS⟩
  case hv3 => rw [hq]; rfl
  case hl3 => rw [hq]; rfl
  case hB3 => rw [hq]; rfl
 have c3p := kz c3
 have hF := AG.Uq hw c1 c2
 have hb := hF.b
 refine Aa ?_
 refine AB (.t4 1 3 5 6) ?_
 refine AU (AA (Gs (Gt (AZ rfl BT .m2 (AS.id AI.fl.len AI.fl.one) rfl) (Gm rfl (Gt (BD TH S5 rfl (.cons Ad.l0 rfl rfl rfl (.cons Ad.l1 rfl rfl rfl .nil))) ?_)))))
 refine Bw rfl rfl rfl (fun b4 => ?_)
 refine Ga rfl (Gn (.t4 1 5 6 9) (Ao (Ae (Gs (Gt (Ah C4 rfl) (Gt (AF rfl A1 .m2 Order.l0 rfl rfl) (Gt (A5 rfl rfl) ?_)))))))
 refine Ga rfl (Gn (.t5 1 5 6 9 48) ?_)
 refine Gc (fun c4 => ?_) (fun c4 => ?_)
 ·
  have c4p := kz c4
  refine AJ (Gm rfl (Gt (Ah C4 rfl) (Gt (AF rfl A1 .m2 Order.l0 rfl rfl) ?_)))
  refine DC Ing.Event.enc 56 16 ?_
  refine BF rfl au (.c rfl (.c rfl .n)) (.c (.t .h) (.c .h .n)) (P2 _ (⟨X, b, []⟩ : AG) _ o.verb rfl hF (by omega) (Nat.zero_le _)) (fun w hS => gl0.pull gm0 hS (.c (.t .h) (.c .h .n))) (fun v5 B hv => ?_)
  obtain ⟨y6, rfl, y7, rfl⟩ := hv
  refine AM (AB (.t2 6 9) ?_)
  refine AU (AA (Ao ?_))
  refine BE (N := 11) [0, 1, 3, 7, 0, 16, 48, 112, 15, 511, 1023] mix (by kernel_rfl) rfl ?_
  refine Pf 0 rfl (AE rfl) (Pf 1 rfl (BS rfl) (Pf 2 rfl (Ah A6 rfl) (Pf 3 rfl (AZ rfl BT .m0 Ad.l0 rfl) (Pf 4 rfl (AE rfl) (Pf 5 rfl (BS rfl) (Pf 6 rfl (Ah CH rfl) (Pf 7 rfl (AF rfl DU .m0 Ad.l2 rfl rfl) ?_)))))))
  refine An 8 rfl (by kernel_rfl) ?_
  refine AQ (AK (AS.id AI.fl.len AI.fl.one) rfl rfl rfl Dw rfl (.t (.t .h))) ?_
  refine BK rfl ⟨?_, ?_⟩
  · exact (Po rfl (AF rfl DU .m0 Ad.l2 rfl rfl) rfl rfl (Po rfl (Ah CH rfl) rfl rfl (Po rfl (BS rfl) rfl rfl (Po rfl (AE rfl) rfl rfl (Pk (Pk (Pk (Pk As))))))))
  refine Pf 9 rfl (Az rfl) (Pf 10 rfl (Az rfl) ?_)
  refine A3 (by kernel_rfl) ?_
  refine AB (.t3 6 7 8) ?_
  refine AA (Ac ?_)
  refine AY rfl (.cell rfl .m2 (.inl ⟨(by rw [AI.fl.len]; exact BT), rfl⟩) (.tmp rfl (.tmp rfl .n))) ?_
  intro w1 hS
  have hS := (hS.perm (Av.perm (.c (.t .h) .n))).Ay
  have ha : AG.act (⟨X, b, []⟩ : AG) o = _ := (BC c4)
  have hq : AG.Fh X b o = ((AG.act (⟨X, b, []⟩ : AG) o).w, (AG.act (⟨X, b, []⟩ : AG) o).out, 0) := ((AV c1).trans ((AV c2).trans (AV c3)))
  rw [ha] at hq
  refine ⟨_, ⟨?gq4, ?hv4, ?hl4, ?hB4⟩, hS⟩
  case hB4 => rw [hq]; (try rfl)
  case hv4 => rw [hq]; (try rfl)
  case hl4 => rw [hq]; (try dsimp only); exact y7
 have c4p := kz c4
 refine Gs (Gt (Ah C4 rfl) (Gt (AF rfl A1 .m2 Order.l0 rfl rfl) (Gt (Aj rfl rfl) (Ga rfl (Gn (.t5 1 5 6 9 56) ?_)))))
 refine Gc (fun c5 => ?_) (fun c5 => ?_)
 ·
  refine AJ (Gm rfl ?_)
  refine DC Ing.Event.enc 56 16 ?_
  refine BF rfl Sr (.c rfl .n) (.c (.t .h) (.c .h .n)) (GZ _ (⟨X, b, []⟩ : AG) _ rfl hF.b hF.br (Nat.zero_le _)) (fun w hS => gl0.pull gm0 hS (.c (.t .h) (.c .h .n))) (fun v9 B hv => ?_)
  obtain ⟨y10, rfl, y11, rfl⟩ := hv
  refine AM (AB (.t2 6 9) ?_)
  refine AU (AA (Ao ?_))
  refine BE (N := 11) [0, 1, 3, 7, 0, 16, 48, 112, 15, 511, 1023] mix (by kernel_rfl) rfl ?_
  refine Pf 0 rfl (AE rfl) (Pf 1 rfl (BS rfl) (Pf 2 rfl (Ah A6 rfl) (Pf 3 rfl (AZ rfl BT .m0 Ad.l0 rfl) (Pf 4 rfl (AE rfl) (Pf 5 rfl (BS rfl) (Pf 6 rfl (Ah CH rfl) (Pf 7 rfl (AF rfl DU .m0 Ad.l2 rfl rfl) ?_)))))))
  refine An 8 rfl (by kernel_rfl) ?_
  refine AQ (AK (AS.id AI.fl.len AI.fl.one) rfl rfl rfl Dw rfl (.t (.t .h))) ?_
  refine BK rfl ⟨?_, ?_⟩
  · exact (Po rfl (AF rfl DU .m0 Ad.l2 rfl rfl) rfl rfl (Po rfl (Ah CH rfl) rfl rfl (Po rfl (BS rfl) rfl rfl (Po rfl (AE rfl) rfl rfl (Pk (Pk (Pk (Pk As))))))))
  refine Pf 9 rfl (Az rfl) (Pf 10 rfl (Az rfl) ?_)
  refine A3 (by kernel_rfl) ?_
  refine AB (.t3 6 7 8) ?_
  refine AA (Ac ?_)
  refine AY rfl (.cell rfl .m2 (.inl ⟨(by rw [AI.fl.len]; exact BT), rfl⟩) (.tmp rfl (.tmp rfl .n))) ?_
  intro w1 hS
  have hS := (hS.perm (Av.perm (.c (.t .h) .n))).Ay
  have ha : AG.act (⟨X, b, []⟩ : AG) o = _ := ((AV c4).trans (BC c5))
  have hq : AG.Fh X b o = ((AG.act (⟨X, b, []⟩ : AG) o).w, (AG.act (⟨X, b, []⟩ : AG) o).out, 0) := ((AV c1).trans ((AV c2).trans (AV c3)))
  rw [ha] at hq
  refine ⟨_, ⟨?gq5, ?hv5, ?hl5, ?hB5⟩, hS⟩
  case hB5 => rw [hq]; (try rfl)
  case hv5 => rw [hq]; (try rfl)
  case hl5 => rw [hq]; (try dsimp only); exact y11
 have c5p := kz c5
 refine Gs (Gt (Ah C4 rfl) (Gt (AF rfl A1 .m2 Order.l0 rfl rfl) (Gt (Aj rfl rfl) (Ga rfl (Gn (.t5 1 5 6 9 62) ?_)))))
 refine Gc (fun c6 => ?_) (fun c6 => ?_)
 ·
  have c6p := kz c6
  refine AJ (Gm rfl (Gm rfl (Gt (BS rfl) (Gt (Ah A6 rfl) (Gt (AZ rfl BT .m0 Ad.l0 rfl) (Gm rfl ?_))))))
  refine Ag rfl Qi (.c rfl (.c rfl (.c rfl .n))) .n (Ey _ _ _) (fun v12 B hv => ?_)
  obtain ⟨y13, rfl, y14, rfl⟩ := hv
  refine DC Ing.Event.enc 56 16 ?_
  refine Ag rfl YI (.c rfl (.c rfl (.c rfl .n))) (.c (.t (.t .h)) (.c .h (.c .h .n))) (Kp _ (⟨X, b, []⟩ : AG) _ [89, 111, 117, 32, 104, 97, 118, 101] _ (X.has 1 b) rfl hF.b (by assumption) (AI.Hq _ _ _) (fun i hi => AI.Gb hi) hF.br (by decide) (Nat.zero_le _)) (fun v17 B hv => ?_)
  obtain ⟨y18, rfl, y19, rfl⟩ := hv
  refine AM (AB (.t2 6 9) ?_)
  refine AU (AA (Ao ?_))
  refine BE (N := 11) [0, 1, 3, 7, 0, 16, 48, 112, 15, 511, 1023] mix (by kernel_rfl) rfl ?_
  refine Pf 0 rfl (AE rfl) (Pf 1 rfl (BS rfl) (Pf 2 rfl (Ah A6 rfl) (Pf 3 rfl (AZ rfl BT .m0 Ad.l0 rfl) (Pf 4 rfl (AE rfl) (Pf 5 rfl (BS rfl) (Pf 6 rfl (Ah CH rfl) (Pf 7 rfl (AF rfl DU .m0 Ad.l2 rfl rfl) ?_)))))))
  refine An 8 rfl (by kernel_rfl) ?_
  refine AQ (AK (AS.id AI.fl.len AI.fl.one) rfl rfl rfl Dw rfl (.t (.t (.t .h)))) ?_
  refine BK rfl ⟨?_, ?_⟩
  · exact (Po rfl (AF rfl DU .m0 Ad.l2 rfl rfl) rfl rfl (Po rfl (Ah CH rfl) rfl rfl (Po rfl (BS rfl) rfl rfl (Po rfl (AE rfl) rfl rfl (Pk (Pk (Pk (Pk As))))))))
  refine Pf 9 rfl (Az rfl) (Pf 10 rfl (Az rfl) ?_)
  refine A3 (by kernel_rfl) ?_
  refine AB (.t3 6 7 8) ?_
  refine AA (Ac ?_)
  refine AY rfl (.cell rfl .m3 (.inl ⟨(by rw [AI.fl.len]; exact BT), rfl⟩) (.tmp rfl (.tmp rfl .n))) ?_
  intro w1 hS
  have hS := (hS.perm (Av.perm (.c (.t .h) .n))).Ay
  have ha : AG.act (⟨X, b, []⟩ : AG) o = _ := ((AV c4).trans ((AV c5).trans (BC c6)))
  have hq : AG.Fh X b o = ((AG.act (⟨X, b, []⟩ : AG) o).w, (AG.act (⟨X, b, []⟩ : AG) o).out, 0) := ((AV c1).trans ((AV c2).trans (AV c3)))
  rw [ha] at hq
  refine ⟨_, ⟨?gq6, ?hv6, ?hl6, ?hB6⟩, hS⟩
  case hB6 => rw [hq]; (try rfl)
  case hv6 => rw [hq]; (try rfl)
  case hl6 => rw [hq]; (try dsimp only); exact y19
 have c6p := kz c6
 refine Gs (Gt (Ah C4 rfl) (Gt (AF rfl A1 .m2 Order.l0 rfl rfl) (Gt (Aj rfl rfl) (Ga rfl (Gn (.t4 5 6 9 74) ?_)))))
 refine Gc (fun c7 => ?_) (fun c7 => ?_)
 ·
  refine AJ (Gm rfl (Gt (Ah P9 rfl) (Gt (AF rfl CC .m2 Order.l5 rfl rfl) (Gt (BD NO Hj rfl (.cons Ing.Event.l0 rfl rfl rfl (.cons Ing.Event.l3 rfl rfl rfl (.cons Ing.Event.l9 rfl rfl rfl .nil)))) ?_))))
  refine DC Ing.Event.enc 56 16 ?_
  refine Ag rfl Nr (.c rfl (.c rfl .n)) (.c (.t .h) (.c .h .n)) (CL _ (⟨X, b, []⟩ : AG) _ { AG.GR 7 with text := o.text } rfl hF.b (show (-1 : Int) < 6 by decide) (Nat.zero_le _)) (fun v21 B hv => ?_)
  obtain ⟨y22, rfl, y23, rfl⟩ := hv
  refine AM (AB (.t2 6 9) ?_)
  refine AU (AA (Ao ?_))
  refine BE (N := 11) [0, 1, 3, 7, 0, 16, 48, 112, 15, 511, 1023] mix (by kernel_rfl) rfl ?_
  refine Pf 0 rfl (AE rfl) (Pf 1 rfl (BS rfl) (Pf 2 rfl (Ah A6 rfl) (Pf 3 rfl (AZ rfl BT .m0 Ad.l0 rfl) (Pf 4 rfl (AE rfl) (Pf 5 rfl (BS rfl) (Pf 6 rfl (Ah CH rfl) (Pf 7 rfl (AF rfl DU .m0 Ad.l2 rfl rfl) ?_)))))))
  refine An 8 rfl (by kernel_rfl) ?_
  refine AQ (AK (AS.id AI.fl.len AI.fl.one) rfl rfl rfl Dw rfl (.t (.t .h))) ?_
  refine BK rfl ⟨?_, ?_⟩
  · exact (Po rfl (AF rfl DU .m0 Ad.l2 rfl rfl) rfl rfl (Po rfl (Ah CH rfl) rfl rfl (Po rfl (BS rfl) rfl rfl (Po rfl (AE rfl) rfl rfl (Pk (Pk (Pk (Pk As))))))))
  refine Pf 9 rfl (Az rfl) (Pf 10 rfl (Az rfl) ?_)
  refine A3 (by kernel_rfl) ?_
  refine AB (.t3 6 7 8) ?_
  refine AA (Ac ?_)
  refine AY rfl (.cell rfl .m2 (.inl ⟨(by rw [AI.fl.len]; exact BT), rfl⟩) (.tmp rfl (.tmp rfl .n))) ?_
  intro w1 hS
  have hS := (hS.perm (Av.perm (.c (.t .h) .n))).Ay
  have ha : AG.act (⟨X, b, []⟩ : AG) o = _ := ((AV c4).trans ((AV c5).trans ((AV c6).trans (BC c7))))
  have hq : AG.Fh X b o = ((AG.act (⟨X, b, []⟩ : AG) o).w, (AG.act (⟨X, b, []⟩ : AG) o).out, 0) := ((AV c1).trans ((AV c2).trans (AV c3)))
  rw [ha] at hq
  refine ⟨_, ⟨?gq7, ?hv7, ?hl7, ?hB7⟩, hS⟩
  case hB7 => rw [hq]; (try rfl)
  case hv7 => rw [hq]; (try rfl)
  case hl7 => rw [hq]; (try dsimp only); exact y23
 have c7p := kz c7
 refine Gs (Gt (Ah C4 rfl) (Gt (AF rfl A1 .m2 Order.l0 rfl rfl) (Gt (Aj rfl rfl) (Ga rfl (Gn (.t4 5 6 9 83) ?_)))))
 refine Gc (fun c8 => ?_) (fun c8 => ?_)
 ·
  refine AJ (Gm rfl ?_)
  refine DC Ing.Event.enc 56 16 ?_
  refine Ag rfl Za (.c rfl .n) (.c (.t .h) (.c .h .n)) (Pj _ (⟨X, b, []⟩ : AG) _ rfl hF (Nat.zero_le _)) (fun v25 B hv => ?_)
  obtain ⟨y26, rfl, y27, rfl⟩ := hv
  refine AM (AB (.t2 6 9) ?_)
  refine AU (AA (Ao ?_))
  refine BE (N := 11) [0, 1, 3, 7, 0, 16, 48, 112, 15, 511, 1023] mix (by kernel_rfl) rfl ?_
  refine Pf 0 rfl (AE rfl) (Pf 1 rfl (BS rfl) (Pf 2 rfl (Ah A6 rfl) (Pf 3 rfl (AZ rfl BT .m0 Ad.l0 rfl) (Pf 4 rfl (AE rfl) (Pf 5 rfl (BS rfl) (Pf 6 rfl (Ah CH rfl) (Pf 7 rfl (AF rfl DU .m0 Ad.l2 rfl rfl) ?_)))))))
  refine An 8 rfl (by kernel_rfl) ?_
  refine AQ (AK (AS.id AI.fl.len AI.fl.one) rfl rfl rfl Dw rfl (.t (.t .h))) ?_
  refine BK rfl ⟨?_, ?_⟩
  · exact (Po rfl (AF rfl DU .m0 Ad.l2 rfl rfl) rfl rfl (Po rfl (Ah CH rfl) rfl rfl (Po rfl (BS rfl) rfl rfl (Po rfl (AE rfl) rfl rfl (Pk (Pk (Pk (Pk As))))))))
  refine Pf 9 rfl (Az rfl) (Pf 10 rfl (Az rfl) ?_)
  refine A3 (by kernel_rfl) ?_
  refine AB (.t3 6 7 8) ?_
  refine AA (Ac ?_)
  refine AY rfl (.cell rfl .m2 (.inl ⟨(by rw [AI.fl.len]; exact BT), rfl⟩) (.tmp rfl (.tmp rfl .n))) ?_
  intro w1 hS
  have hS := (hS.perm (Av.perm (.c (.t .h) .n))).Ay
  have ha : AG.act (⟨X, b, []⟩ : AG) o = _ := ((AV c4).trans ((AV c5).trans ((AV c6).trans ((AV c7).trans (BC c8)))))
  have hq : AG.Fh X b o = ((AG.act (⟨X, b, []⟩ : AG) o).w, (AG.act (⟨X, b, []⟩ : AG) o).out, 0) := ((AV c1).trans ((AV c2).trans (AV c3)))
  rw [ha] at hq
  refine ⟨_, ⟨?gq8, ?hv8, ?hl8, ?hB8⟩, hS⟩
  case hB8 => rw [hq]; (try rfl)
  case hv8 => rw [hq]; (try rfl)
  case hl8 => rw [hq]; (try dsimp only); exact y27
 have c8p := kz c8
 refine Gs (Gt (Ah C4 rfl) (Gt (AF rfl A1 .m2 Order.l0 rfl rfl) (Gt (Aj rfl rfl) (Ga rfl (Gn (.t4 5 6 9 89) ?_)))))
 refine Gc (fun c9 => ?_) (fun c9 => ?_)
 ·
  refine AJ (Gm rfl (Gt (AZ rfl B9 .m2 (AS.id Order.fl.len Order.fl.one) rfl) ?_))
  refine DC Ing.Event.enc 56 16 ?_
  refine BF rfl ZX (.c rfl (.c rfl .n)) (.c (.t .h) (.c .h .n)) (OO _ (⟨X, b, []⟩ : AG) _ o rfl hF hm (Nat.zero_le _)) (fun w hS => ⟨gl1.pull gm1 hS (.c (.t .h) (.c .h .n)), gl2.pull gm2 hS (.c (.t .h) (.c .h .n))⟩) (fun v29 B hv => ?_)
  obtain ⟨y30, rfl, y31, rfl⟩ := hv
  refine AM (AB (.t2 6 9) ?_)
  refine AU (AA (Ao ?_))
  refine BE (N := 11) [0, 1, 3, 7, 0, 16, 48, 112, 15, 511, 1023] mix (by kernel_rfl) rfl ?_
  refine Pf 0 rfl (AE rfl) (Pf 1 rfl (BS rfl) (Pf 2 rfl (Ah A6 rfl) (Pf 3 rfl (AZ rfl BT .m0 Ad.l0 rfl) (Pf 4 rfl (AE rfl) (Pf 5 rfl (BS rfl) (Pf 6 rfl (Ah CH rfl) (Pf 7 rfl (AF rfl DU .m0 Ad.l2 rfl rfl) ?_)))))))
  refine An 8 rfl (by kernel_rfl) ?_
  refine AQ (AK (AS.id AI.fl.len AI.fl.one) rfl rfl rfl Dw rfl (.t (.t .h))) ?_
  refine BK rfl ⟨?_, ?_⟩
  · exact (Po rfl (AF rfl DU .m0 Ad.l2 rfl rfl) rfl rfl (Po rfl (Ah CH rfl) rfl rfl (Po rfl (BS rfl) rfl rfl (Po rfl (AE rfl) rfl rfl (Pk (Pk (Pk (Pk As))))))))
  refine Pf 9 rfl (Az rfl) (Pf 10 rfl (Az rfl) ?_)
  refine A3 (by kernel_rfl) ?_
  refine AB (.t3 6 7 8) ?_
  refine AA (Ac ?_)
  refine AY rfl (.cell rfl .m2 (.inl ⟨(by rw [AI.fl.len]; exact BT), rfl⟩) (.tmp rfl (.tmp rfl .n))) ?_
  intro w1 hS
  have hS := (hS.perm (Av.perm (.c (.t .h) .n))).Ay
  have ha : AG.act (⟨X, b, []⟩ : AG) o = _ := ((AV c4).trans ((AV c5).trans ((AV c6).trans ((AV c7).trans ((AV c8).trans (BC c9))))))
  have hq : AG.Fh X b o = ((AG.act (⟨X, b, []⟩ : AG) o).w, (AG.act (⟨X, b, []⟩ : AG) o).out, 0) := ((AV c1).trans ((AV c2).trans (AV c3)))
  rw [ha] at hq
  refine ⟨_, ⟨?gq9, ?hv9, ?hl9, ?hB9⟩, hS⟩
  case hB9 => rw [hq]; (try rfl)
  case hv9 => rw [hq]; (try rfl)
  case hl9 => rw [hq]; (try dsimp only); exact y31
 have c9p := kz c9
 refine Gs (Gt (Ah C4 rfl) (Gt (AF rfl A1 .m2 Order.l0 rfl rfl) (Gt (Aj rfl rfl) (Ga rfl (Gn (.t4 5 6 9 96) ?_)))))
 refine Gc (fun c10 => ?_) (fun c10 => ?_)
 ·
  refine AJ (Gm rfl (Gt (AZ rfl B9 .m2 (AS.id Order.fl.len Order.fl.one) rfl) ?_))
  refine DC Ing.Event.enc 56 16 ?_
  refine BF rfl Ze (.c rfl (.c rfl .n)) (.c (.t .h) (.c .h .n)) (RH _ (⟨X, b, []⟩ : AG) _ o rfl hF hu (Nat.zero_le _)) (fun w hS => ⟨gl1.pull gm1 hS (.c (.t .h) (.c .h .n)), gl2.pull gm2 hS (.c (.t .h) (.c .h .n))⟩) (fun v33 B hv => ?_)
  obtain ⟨y34, rfl, y35, rfl⟩ := hv
  refine AM (AB (.t2 6 9) ?_)
  refine AU (AA (Ao ?_))
  refine BE (N := 11) [0, 1, 3, 7, 0, 16, 48, 112, 15, 511, 1023] mix (by kernel_rfl) rfl ?_
  refine Pf 0 rfl (AE rfl) (Pf 1 rfl (BS rfl) (Pf 2 rfl (Ah A6 rfl) (Pf 3 rfl (AZ rfl BT .m0 Ad.l0 rfl) (Pf 4 rfl (AE rfl) (Pf 5 rfl (BS rfl) (Pf 6 rfl (Ah CH rfl) (Pf 7 rfl (AF rfl DU .m0 Ad.l2 rfl rfl) ?_)))))))
  refine An 8 rfl (by kernel_rfl) ?_
  refine AQ (AK (AS.id AI.fl.len AI.fl.one) rfl rfl rfl Dw rfl (.t (.t .h))) ?_
  refine BK rfl ⟨?_, ?_⟩
  · exact (Po rfl (AF rfl DU .m0 Ad.l2 rfl rfl) rfl rfl (Po rfl (Ah CH rfl) rfl rfl (Po rfl (BS rfl) rfl rfl (Po rfl (AE rfl) rfl rfl (Pk (Pk (Pk (Pk As))))))))
  refine Pf 9 rfl (Az rfl) (Pf 10 rfl (Az rfl) ?_)
  refine A3 (by kernel_rfl) ?_
  refine AB (.t3 6 7 8) ?_
  refine AA (Ac ?_)
  refine AY rfl (.cell rfl .m2 (.inl ⟨(by rw [AI.fl.len]; exact BT), rfl⟩) (.tmp rfl (.tmp rfl .n))) ?_
  intro w1 hS
  have hS := (hS.perm (Av.perm (.c (.t .h) .n))).Ay
  have ha : AG.act (⟨X, b, []⟩ : AG) o = _ := ((AV c4).trans ((AV c5).trans ((AV c6).trans ((AV c7).trans ((AV c8).trans ((AV c9).trans (BC c10)))))))
  have hq : AG.Fh X b o = ((AG.act (⟨X, b, []⟩ : AG) o).w, (AG.act (⟨X, b, []⟩ : AG) o).out, 0) := ((AV c1).trans ((AV c2).trans (AV c3)))
  rw [ha] at hq
  refine ⟨_, ⟨?gq10, ?hv10, ?hl10, ?hB10⟩, hS⟩
  case hB10 => rw [hq]; (try rfl)
  case hv10 => rw [hq]; (try rfl)
  case hl10 => rw [hq]; (try dsimp only); exact y35
 have c10p := kz c10
 refine Gs (Gt (Ah C4 rfl) (Gt (AF rfl A1 .m2 Order.l0 rfl rfl) (Gt (Aj rfl rfl) (Gm rfl (BZ 107 rfl rfl (fun q => Ah C4 rfl) (BZ 107 rfl rfl (fun q => AF (cF rfl q) A1 .m2 Order.l0 rfl rfl) (BZ 107 rfl rfl (fun q => Aj (cF rfl q) rfl) ?_)))))))
 refine Gt (BR rfl rfl (fun h => by rw [h]; rfl)) ?_
 refine Gm rfl (BZ 112 rfl rfl (fun q => Ah C4 rfl) (BZ 112 rfl rfl (fun q => AF (cF rfl q) A1 .m2 Order.l0 rfl rfl) (BZ 112 rfl rfl (fun q => Aj (cF rfl q) rfl) ?_)))
 refine Gt (BR rfl rfl (fun h => by rw [h]; rfl)) ?_
 refine Ga rfl (Gn (.t4 5 6 9 103) ?_)
 refine Gc (fun c11 => ?_) (fun c11 => ?_)
 ·
  have c11p := kz c11
  refine AJ (Gm rfl (Gt (AZ rfl B9 .m2 (AS.id Order.fl.len Order.fl.one) rfl) ?_))
  refine DC Ing.Event.enc 56 16 ?_
  refine BF rfl ZQ (.c rfl (.c rfl .n)) (.c (.t .h) (.c .h .n)) (Qx _ (⟨X, b, []⟩ : AG) _ o rfl hF (by omega) hu (Nat.zero_le _)) (fun w hS => ⟨gl1.pull gm1 hS (.c (.t .h) (.c .h .n)), gl2.pull gm2 hS (.c (.t .h) (.c .h .n))⟩) (fun v37 B hv => ?_)
  obtain ⟨y38, rfl, y39, rfl⟩ := hv
  refine AM (AB (.t2 6 9) ?_)
  refine AU (AA (Ao ?_))
  refine BE (N := 11) [0, 1, 3, 7, 0, 16, 48, 112, 15, 511, 1023] mix (by kernel_rfl) rfl ?_
  refine Pf 0 rfl (AE rfl) (Pf 1 rfl (BS rfl) (Pf 2 rfl (Ah A6 rfl) (Pf 3 rfl (AZ rfl BT .m0 Ad.l0 rfl) (Pf 4 rfl (AE rfl) (Pf 5 rfl (BS rfl) (Pf 6 rfl (Ah CH rfl) (Pf 7 rfl (AF rfl DU .m0 Ad.l2 rfl rfl) ?_)))))))
  refine An 8 rfl (by kernel_rfl) ?_
  refine AQ (AK (AS.id AI.fl.len AI.fl.one) rfl rfl rfl Dw rfl (.t (.t .h))) ?_
  refine BK rfl ⟨?_, ?_⟩
  · exact (Po rfl (AF rfl DU .m0 Ad.l2 rfl rfl) rfl rfl (Po rfl (Ah CH rfl) rfl rfl (Po rfl (BS rfl) rfl rfl (Po rfl (AE rfl) rfl rfl (Pk (Pk (Pk (Pk As))))))))
  refine Pf 9 rfl (Az rfl) (Pf 10 rfl (Az rfl) ?_)
  refine A3 (by kernel_rfl) ?_
  refine AB (.t3 6 7 8) ?_
  refine AA (Ac ?_)
  refine AY rfl (.cell rfl .m2 (.inl ⟨(by rw [AI.fl.len]; exact BT), rfl⟩) (.tmp rfl (.tmp rfl .n))) ?_
  intro w1 hS
  have hS := (hS.perm (Av.perm (.c (.t .h) .n))).Ay
  have ha : AG.act (⟨X, b, []⟩ : AG) o = _ := ((AV c4).trans ((AV c5).trans ((AV c6).trans ((AV c7).trans ((AV c8).trans ((AV c9).trans ((AV c10).trans (BC c11))))))))
  have hq : AG.Fh X b o = ((AG.act (⟨X, b, []⟩ : AG) o).w, (AG.act (⟨X, b, []⟩ : AG) o).out, 0) := ((AV c1).trans ((AV c2).trans (AV c3)))
  rw [ha] at hq
  refine ⟨_, ⟨?gq11, ?hv11, ?hl11, ?hB11⟩, hS⟩
  case hB11 => rw [hq]; (try rfl)
  case hv11 => rw [hq]; (try rfl)
  case hl11 => rw [hq]; (try dsimp only); exact y39
 have c11p := kz c11
 refine AJ (Gm rfl (Gt (AZ rfl B9 .m2 (AS.id Order.fl.len Order.fl.one) rfl) ?_))
 refine DC Ing.Event.enc 56 16 ?_
 refine BF rfl ah (.c rfl (.c rfl .n)) (.c (.t .h) (.c .h .n)) (RX _ (⟨X, b, []⟩ : AG) _ o rfl hF (by omega) (Nat.zero_le _)) (fun w hS => gl0.pull gm0 hS (.c (.t .h) (.c .h .n))) (fun v41 B hv => ?_)
 obtain ⟨y42, rfl, y43, rfl⟩ := hv
 refine AM (AB (.t2 6 9) ?_)
 refine AU (AA (Ao ?_))
 refine BE (N := 11) [0, 1, 3, 7, 0, 16, 48, 112, 15, 511, 1023] mix (by kernel_rfl) rfl ?_
 refine Pf 0 rfl (AE rfl) (Pf 1 rfl (BS rfl) (Pf 2 rfl (Ah A6 rfl) (Pf 3 rfl (AZ rfl BT .m0 Ad.l0 rfl) (Pf 4 rfl (AE rfl) (Pf 5 rfl (BS rfl) (Pf 6 rfl (Ah CH rfl) (Pf 7 rfl (AF rfl DU .m0 Ad.l2 rfl rfl) ?_)))))))
 refine An 8 rfl (by kernel_rfl) ?_
 refine AQ (AK (AS.id AI.fl.len AI.fl.one) rfl rfl rfl Dw rfl (.t (.t .h))) ?_
 refine BK rfl ⟨?_, ?_⟩
 · exact (Po rfl (AF rfl DU .m0 Ad.l2 rfl rfl) rfl rfl (Po rfl (Ah CH rfl) rfl rfl (Po rfl (BS rfl) rfl rfl (Po rfl (AE rfl) rfl rfl (Pk (Pk (Pk (Pk As))))))))
 refine Pf 9 rfl (Az rfl) (Pf 10 rfl (Az rfl) ?_)
 refine A3 (by kernel_rfl) ?_
 refine AB (.t3 6 7 8) ?_
 refine AA (Ac ?_)
 refine AY rfl (.cell rfl .m2 (.inl ⟨(by rw [AI.fl.len]; exact BT), rfl⟩) (.tmp rfl (.tmp rfl .n))) ?_
 intro w1 hS
 have hS := (hS.perm (Av.perm (.c (.t .h) .n))).Ay
 have ha : AG.act (⟨X, b, []⟩ : AG) o = _ := ((AV c4).trans ((AV c5).trans ((AV c6).trans ((AV c7).trans ((AV c8).trans ((AV c9).trans ((AV c10).trans (AV c11))))))))
 have hq : AG.Fh X b o = ((AG.act (⟨X, b, []⟩ : AG) o).w, (AG.act (⟨X, b, []⟩ : AG) o).out, 0) := ((AV c1).trans ((AV c2).trans (AV c3)))
 rw [ha] at hq
 refine ⟨_, ⟨?gq12, ?hv12, ?hl12, ?hB12⟩, hS⟩
 case hB12 => rw [hq]; (try rfl)
 case hv12 => rw [hq]; (try rfl)
 case hl12 => rw [hq]; (try dsimp only); exact y43
theorem Hl (b : Nat) (V : AH) (ls : Vector BG 4) (ev : List Ing.Event) (k : Int) (n m : Nat) (hk : 0 ≤ k ∧ k < 4) (hF : AN.Fit (A2 V ls ev) n m) (hn : n ≤ 900000) (hm : m ≤ 900000) : Ev Tryz.prog 67 #[.pointer (some ⟨b, 0, none⟩), .pointer (some ⟨b, 165 + k.toNat * 22, none⟩)] [Ab.box b 101 (AH.enc V), Ab.C3 (Bt 9 (AH.Ap V) ls), Ab.own (AH.last V) 56 16 ((ev).flatMap Ing.Event.enc)] (fun w => (GV 2 E7 w ∧ 2 ∉ CR [Ab.box b 101 (AH.enc V), Ab.C3 (Bt 9 (AH.Ap V) ls), Ab.own (AH.last V) 56 16 ((ev).flatMap Ing.Event.enc)]) ∧ (GV 0 AI.C2 w ∧ 0 ∉ CR [Ab.box b 101 (AH.enc V), Ab.C3 (Bt 9 (AH.Ap V) ls), Ab.own (AH.last V) 56 16 ((ev).flatMap Ing.Event.enc)]) ∧ (F2 7 w ∧ 7 ∉ CR [Ab.box b 101 (AH.enc V), Ab.C3 (Bt 9 (AH.Ap V) ls), Ab.own (AH.last V) 56 16 ((ev).flatMap Ing.Event.enc)]) ∧ (F2 8 w ∧ 8 ∉ CR [Ab.box b 101 (AH.enc V), Ab.C3 (Bt 9 (AH.Ap V) ls), Ab.own (AH.last V) 56 16 ((ev).flatMap Ing.Event.enc)])) (fun v B => ∃ V' ls' ev', v = .tuple #[] ∧ A2 V' ls' ev' = AN.leave (A2 V ls ev) k ∧ B = [Ab.box b 101 (AH.enc V'), Ab.C3 (Bt 9 (AH.Ap V') ls'), Ab.own (AH.last V') 56 16 ((ev').flatMap Ing.Event.enc)]) := by
 intro w hS0 hH
 obtain ⟨⟨gl0, gm0⟩, ⟨gl1, gm1⟩, ⟨gl2, gm2⟩, ⟨gl3, gm3⟩⟩ := hH
 have hbe := Ux hF hk.1 hk.2
 refine Ai _ _ Tryz.func67 rfl rfl rfl (hS0) ?_
 refine Ao (Ao ?_)
 refine BE (N := 18) [0, 1, 3, 7, 15, 31, 63, 63, 191, 447, 959, 127, 2175, 6271, 16383, 32767, 65535, 131071] mix (by kernel_rfl) rfl ?_
 refine Pf 0 rfl (AE rfl) (Pf 1 rfl (BS rfl) (Pf 2 rfl (Ah Ik rfl) (Pf 3 rfl (AF rfl A1 .m0 ((AH.l1.comp (AS.arr (n := 4) A0.fl hk.1 hk.2)).comp A0.l0) rfl rfl) (Pf 4 rfl (Aj rfl rfl) (Pf 5 rfl (AE rfl) (Lc 6 12 rfl rfl rfl (fun q => AE rfl) (Lc 7 12 rfl rfl rfl (fun q => AE rfl) ?_)))))))
 refine Lc 8 12 rfl rfl rfl (fun q => BS (BX rfl q)) (Lc 9 12 rfl rfl rfl (fun q => Ah Ho (BX rfl q)) (Lc 10 12 rfl rfl rfl (fun q => AF (BX rfl q) A1 .m0 ((AH.l1.comp (AS.arr (n := 4) A0.fl hk.1 hk.2)).comp A0.l1) rfl rfl) (Lc 11 12 rfl rfl rfl (fun q => BS (BX rfl q)) (Lc 12 12 rfl rfl rfl (fun q => Ah Dx (BX rfl q)) (Lc 13 12 rfl rfl rfl (fun q => Ah Bk (BX rfl q)) ?_)))))
 refine BW 14 rfl rfl (by kernel_rfl) (Q0 (t := 12) rfl rfl (fun q => by have q1 := q; (try simp at q1); exact Hw (AR Cy (BX rfl q) (BX rfl q) (by first | omega | exact hk.1 | exact hk.2) (by first | omega | exact hk.1 | exact hk.2)))) ?_
 refine Lc 15 12 rfl rfl rfl (fun q => Ah Hp (BX rfl q)) ?_
 refine BW 16 rfl rfl (by kernel_rfl) (Q0 (t := 12) rfl rfl (fun q => by have q1 := q; (try simp at q1); exact Hw (AF (BX rfl q) Ct .m0 (((AH.l0.comp AI.l2).comp (AS.ar (n := 6) Al.fl (by first | omega | exact hk))).comp Al.l1) rfl rfl))) ?_
 refine Pf 17 rfl (BH rfl rfl (fun h => h)) ?_
 refine A3 (by kernel_rfl) ?_
 refine AB (.t3 0 1 24) ?_
 refine AA ?_
 refine Gc (fun c1 => ?_) (fun c1 => ?_)
 ·
  have c1p := kz c1
  have hdl := AG.Mp V.w (V.Ap.at k).A7 AN.FY
  have hds := AG.Mk (b := (V.Ap.at k).A7) (o := AN.FY) hF.HE AN.PJ
  refine Ao ?_
  refine BE (N := 18) [0, 1, 3, 7, 0, 16, 48, 112, 0, 511, 1023, 2047, 2047, 2047, 0, 20479, 57343, 131071] mix (by kernel_rfl) rfl ?_
  refine Pf 0 rfl (AE rfl) (Pf 1 rfl (BS rfl) (Pf 2 rfl (Ah Dx rfl) (Pf 3 rfl (AZ rfl BT .m0 AH.l0 rfl) (Pf 4 rfl (AE rfl) (Pf 5 rfl (BS rfl) (Pf 6 rfl (Ah Ho rfl) (Pf 7 rfl (AF rfl A1 .m0 ((AH.l1.comp (AS.arr (n := 4) A0.fl hk.1 hk.2)).comp A0.l1) rfl rfl) ?_)))))))
  refine Pf 8 rfl (BD Qa Kx rfl (.cons Order.l0 rfl rfl rfl .nil)) ?_
  refine JO 9 14 rfl rfl (by kernel_rfl) ?_ ?_
  ·
   refine BF rfl XZ (.c rfl (.c rfl (.c rfl .n))) .n (Fz V.w (V.Ap.at k).A7 AN.FY hF.HE.MH (Nat.zero_le _) (Nat.zero_le _)) (fun w hS => ⟨gl1.pull gm1 hS .n, gl2.pull gm2 hS .n, gl3.pull gm3 hS .n⟩) (fun v1 B hv => ?_)
   obtain ⟨y2, rfl, y3, rfl⟩ := hv
   refine Bm rfl ⟨?_, ?_⟩
   · exact (Pk (Pk (Pk (Pk (Pk (Pk (Pk (Pk (Pk As)))))))))
   refine Pf 10 rfl (AE rfl) (Pf 11 rfl (AL rfl rfl) (Pf 12 rfl (AL rfl rfl) (Pf 13 rfl (AL rfl rfl) ?_)))
   refine An 14 rfl (by kernel_rfl) ?_
   refine BB rfl LX rfl (fun b1 => ?_)
   refine Bm rfl ⟨?_, ?_⟩
   · exact (Po rfl (AL rfl rfl) rfl rfl (Po rfl (AL rfl rfl) rfl rfl (Po rfl (AL rfl rfl) rfl rfl (Po rfl (AE rfl) rfl rfl (Po rfl (BD Qa Kx rfl (.cons Order.l0 rfl rfl rfl .nil)) rfl rfl (Po rfl (AF rfl A1 .m2 ((AH.l1.comp (AS.arr (n := 4) A0.fl hk.1 hk.2)).comp A0.l1) rfl rfl) rfl rfl (Po rfl (Ah Ho rfl) rfl rfl (Po rfl (BS rfl) rfl rfl (Po rfl (AE rfl) rfl rfl (Po rfl (AZ rfl BT .m2 AH.l0 rfl) rfl rfl (Po rfl (Ah Dx rfl) rfl rfl (Po rfl (BS rfl) rfl rfl (Po rfl (AE rfl) rfl rfl As)))))))))))))
   refine An 15 rfl (by kernel_rfl) ?_
   refine AQ (AK (AS.id AI.fl.len AI.fl.one) rfl rfl rfl Dw rfl .h) ?_
   refine BK rfl ⟨?_, ?_⟩
   · exact (Po rfl (AL rfl rfl) rfl rfl (Po rfl (AL rfl rfl) rfl rfl (Pk (Pk (Pk (Pk (Pk (Pk (Pk (Pk (Pk (Pk (Pk As)))))))))))))
   refine Pf 16 rfl (Az rfl) (Pf 17 rfl (Az rfl) ?_)
   refine A3 (by kernel_rfl) ?_
   refine AB (.t4 0 1 4 5) ?_
   refine AA (Gs (Gm rfl (Gt (AZ rfl BT .m0 (AS.id AI.fl.len AI.fl.one) rfl) (Gt (BS rfl) (Gt (Ah Dx rfl) ?_)))))
   refine AQ (AK AH.l0 rfl rfl rfl Dw rfl (.t (.t .h))) ?_
   refine Gn (.t3 0 1 5) (Ao ?_)
   refine D9 (.c (.t (.t .h)) (.c (.t (.t .h)) .n)) ?_
   refine Eu (k := k) hk.1 hk.2 (fun sv sl hsv hlv hln => ?_)
   refine AJ (Gm rfl (Gt (BD Ty Up rfl .nil) (Gt (BS rfl) ?_)))
   refine AQ (AK (AS.BL { V with w := (AG.Fh V.w (V.Ap.at k).A7 AN.FY).1 } hk.1 hk.2) rfl rfl rfl Rp rfl (.t (.t (.t .h)))) ?_
   refine Gn (.t3 0 1 5) ?_
   refine Et A4 9 1 ?_
   refine Et A4 9 1 ?_
   refine Et A4 9 1 ?_
   refine D9 (.c (.t (.t .h)) (.c (.t .h) (.c .h (.c (.t (.t (.t .h))) (.c (.t (.t (.t .h))) .n))))) ?_
   refine GY hk.1 hk.2 (by rfl) (by rfl) (by rfl) ?_
   refine AJ (Gm rfl (Gm rfl ?_))
   refine BF rfl Ti (.c rfl (.c rfl .n)) (.c .h (.c .h (.c (.t (.t (.t (.t (.t .h))))) (.c (.t (.t (.t (.t .h)))) .n)))) (En _ (AH.BL { V with w := (AG.Fh V.w (V.Ap.at k).A7 AN.FY).1 } k default) (ls.put k ⟨[], [], []⟩) ev _ (AG.Fh V.w (V.Ap.at k).A7 AN.FY).2.1 n (by assumption) (GF (((hF.land hds.1).free hk.1 hk.2) |> fun h => by rw [← Nu, ← H8 hk.1 hk.2] at h; exact h)) (by omega) (Nat.le_trans hF.last (by omega)) (fun e he c _ => hds.2 e he)) (fun w hS => ⟨gl0.pull gm0 hS (.c .h (.c .h (.c (.t (.t (.t (.t (.t .h))))) (.c (.t (.t (.t (.t .h)))) .n)))), gl1.pull gm1 hS (.c .h (.c .h (.c (.t (.t (.t (.t (.t .h))))) (.c (.t (.t (.t (.t .h)))) .n))))⟩) (fun v8 B hv => ?_)
   obtain ⟨y9, y10, y11, rfl, y12, rfl⟩ := hv
   refine Gn (.t1 1) ?_
   refine Eu (k := k) hk.1 hk.2 (fun sv sl hsv hlv hln => ?_)
   refine AJ (Gm rfl (Gt (BD Ty Up rfl .nil) (Gt (BS rfl) ?_)))
   refine AQ (AK (AS.BL y9 hk.1 hk.2) rfl rfl rfl Rp rfl (.t (.t (.t .h)))) ?_
   refine AM ?_
   refine Bh rfl .n ?_
   intro w1 hS
   have hS := hS.Cj 9 1
   have hS := hS.Cj 9 1
   have hS := hS.Cj 9 1
   have hS := (hS.perm (Av.perm (.c (.t (.t .h)) (.c (.t .h) (.c .h (.c (.t (.t (.t .h))) (.c (.t (.t (.t .h))) (.c (.t (.t (.t .h))) .n)))))))).Ay
   have hS := St.close' (s := default) (qs := []) (ws := []) (ts := []) hk.1 hk.2 rfl rfl rfl hS
   refine ⟨_, ⟨_, _, _, rfl, ?ga1, rfl⟩, hS⟩
   case ga1 => exact P6 hk.1 hk.2 c1 y12
  ·
   refine BB rfl LX rfl (fun b2 => ?_)
   refine Bm rfl ⟨?_, ?_⟩
   · exact (Po rfl (BD Qa Kx rfl (.cons Order.l0 rfl rfl rfl .nil)) rfl rfl (Po rfl (AF rfl A1 .m1 ((AH.l1.comp (AS.arr (n := 4) A0.fl hk.1 hk.2)).comp A0.l1) rfl rfl) rfl rfl (Po rfl (Ah Ho rfl) rfl rfl (Po rfl (BS rfl) rfl rfl (Po rfl (AE rfl) rfl rfl (Po rfl (AZ rfl BT .m1 AH.l0 rfl) rfl rfl (Po rfl (Ah Dx rfl) rfl rfl (Po rfl (BS rfl) rfl rfl (Po rfl (AE rfl) rfl rfl As)))))))))
   refine An 9 rfl (by kernel_rfl) ?_
   refine BF rfl XZ (.c rfl (.c rfl (.c rfl .n))) .n (Fz V.w (V.Ap.at k).A7 AN.FY hF.HE.MH (Nat.zero_le _) (Nat.zero_le _)) (fun w hS => ⟨gl1.pull gm1 hS .n, gl2.pull gm2 hS .n, gl3.pull gm3 hS .n⟩) (fun v16 B hv => ?_)
   obtain ⟨y17, rfl, y18, rfl⟩ := hv
   refine Bm rfl ⟨?_, ?_⟩
   · exact (Pk (Pk (Pk (Pk (Pk (Pk (Pk (Pk (Pk As)))))))))
   refine Pf 10 rfl (AE rfl) (Pf 11 rfl (AL rfl rfl) (Pf 12 rfl (AL rfl rfl) (Pf 13 rfl (AL rfl rfl) ?_)))
   refine An 15 rfl (by kernel_rfl) ?_
   refine AQ (AK (AS.id AI.fl.len AI.fl.one) rfl rfl rfl Dw rfl (.t .h)) ?_
   refine BK rfl ⟨?_, ?_⟩
   · exact (Po rfl (AL rfl rfl) rfl rfl (Po rfl (AL rfl rfl) rfl rfl (Pk (Pk (Pk (Pk (Pk (Pk (Pk (Pk (Pk (Pk (Pk As)))))))))))))
   refine Pf 16 rfl (Az rfl) (Pf 17 rfl (Az rfl) ?_)
   refine A3 (by kernel_rfl) ?_
   refine AB (.t4 0 1 4 5) ?_
   refine AA (Gs (Gm rfl (Gt (AZ rfl BT .m1 (AS.id AI.fl.len AI.fl.one) rfl) (Gt (BS rfl) (Gt (Ah Dx rfl) ?_)))))
   refine AQ (AK AH.l0 rfl rfl rfl Dw rfl (.t (.t .h))) ?_
   refine Gn (.t3 0 1 5) (Ao ?_)
   refine D9 (.c (.t (.t .h)) (.c (.t (.t .h)) .n)) ?_
   refine Eu (k := k) hk.1 hk.2 (fun sv sl hsv hlv hln => ?_)
   refine AJ (Gm rfl (Gt (BD Ty Up rfl .nil) (Gt (BS rfl) ?_)))
   refine AQ (AK (AS.BL { V with w := (AG.Fh V.w (V.Ap.at k).A7 AN.FY).1 } hk.1 hk.2) rfl rfl rfl Rp rfl (.t (.t (.t .h)))) ?_
   refine Gn (.t3 0 1 5) ?_
   refine Et A4 9 1 ?_
   refine Et A4 9 1 ?_
   refine Et A4 9 1 ?_
   refine D9 (.c (.t (.t .h)) (.c (.t .h) (.c .h (.c (.t (.t (.t .h))) (.c (.t (.t (.t .h))) .n))))) ?_
   refine GY hk.1 hk.2 (by rfl) (by rfl) (by rfl) ?_
   refine AJ (Gm rfl (Gm rfl ?_))
   refine BF rfl Ti (.c rfl (.c rfl .n)) (.c .h (.c .h (.c (.t (.t (.t (.t (.t .h))))) (.c (.t (.t (.t .h))) .n)))) (En _ (AH.BL { V with w := (AG.Fh V.w (V.Ap.at k).A7 AN.FY).1 } k default) (ls.put k ⟨[], [], []⟩) ev _ (AG.Fh V.w (V.Ap.at k).A7 AN.FY).2.1 n (by assumption) (GF (((hF.land hds.1).free hk.1 hk.2) |> fun h => by rw [← Nu, ← H8 hk.1 hk.2] at h; exact h)) (by omega) (Nat.le_trans hF.last (by omega)) (fun e he c _ => hds.2 e he)) (fun w hS => ⟨gl0.pull gm0 hS (.c .h (.c .h (.c (.t (.t (.t (.t (.t .h))))) (.c (.t (.t (.t .h))) .n)))), gl1.pull gm1 hS (.c .h (.c .h (.c (.t (.t (.t (.t (.t .h))))) (.c (.t (.t (.t .h))) .n))))⟩) (fun v23 B hv => ?_)
   obtain ⟨y24, y25, y26, rfl, y27, rfl⟩ := hv
   refine Gn (.t1 1) ?_
   refine Eu (k := k) hk.1 hk.2 (fun sv sl hsv hlv hln => ?_)
   refine AJ (Gm rfl (Gt (BD Ty Up rfl .nil) (Gt (BS rfl) ?_)))
   refine AQ (AK (AS.BL y24 hk.1 hk.2) rfl rfl rfl Rp rfl (.t (.t (.t .h)))) ?_
   refine AM ?_
   refine Bh rfl .n ?_
   intro w1 hS
   have hS := hS.Cj 9 1
   have hS := hS.Cj 9 1
   have hS := hS.Cj 9 1
   have hS := (hS.perm (Av.perm (.c (.t (.t .h)) (.c (.t .h) (.c .h (.c (.t (.t (.t .h))) (.c (.t (.t (.t .h))) (.c (.t (.t (.t .h))) .n)))))))).Ay
   have hS := St.close' (s := default) (qs := []) (ws := []) (ts := []) hk.1 hk.2 rfl rfl rfl hS
   refine ⟨_, ⟨_, _, _, rfl, ?ga2, rfl⟩, hS⟩
   case ga2 => exact P6 hk.1 hk.2 c1 y27
 refine Aa ?_
 refine AB (.t1 1) ?_
 refine AA ?_
 refine Eu (k := k) hk.1 hk.2 (fun sv sl hsv hlv hln => ?_)
 refine AJ (Gm rfl (Gt (BD Ty Up rfl .nil) (Gt (BS rfl) ?_)))
 refine AQ (AK (AS.BL V hk.1 hk.2) rfl rfl rfl Rp rfl (.t (.t (.t .h)))) ?_
 refine AM ?_
 refine Bh rfl .n ?_
 intro w1 hS
 have hS := hS.Cj 9 1
 have hS := hS.Cj 9 1
 have hS := hS.Cj 9 1
 have hS := (hS.perm (Av.perm (.c (.t (.t .h)) (.c (.t .h) (.c .h (.c (.t (.t (.t .h))) (.c (.t (.t (.t .h))) (.c (.t (.t (.t .h))) .n)))))))).Ay
 have hS := St.close' (s := default) (qs := []) (ws := []) (ts := []) hk.1 hk.2 rfl rfl rfl hS
 refine ⟨_, ⟨_, _, _, rfl, ?ga3, rfl⟩, hS⟩
 case ga3 => exact Sw hk.1 hk.2 c1
theorem Ob (b : Nat) (V : AH) (ls : Vector BG 4) (ev : List Ing.Event) (k : Int) (u : Au) (n m : Nat) (hk : 0 ≤ k ∧ k < 4) (hF : AN.Fit (A2 V ls ev) n m) (hn : n ≤ 900000) (hm : m ≤ 900000) (hu : u.length ≤ 1000) : Ev Tryz.prog 95 #[.pointer (some ⟨b, 0, none⟩), .pointer (some ⟨b, 165 + k.toNat * 22, none⟩), BO u] [Ab.box b 101 (AH.enc V), Ab.C3 (Bt 9 (AH.Ap V) ls), Ab.own (AH.last V) 56 16 ((ev).flatMap Ing.Event.enc)] (fun w => (GV 2 E7 w ∧ 2 ∉ CR [Ab.box b 101 (AH.enc V), Ab.C3 (Bt 9 (AH.Ap V) ls), Ab.own (AH.last V) 56 16 ((ev).flatMap Ing.Event.enc)]) ∧ (GV 0 AI.C2 w ∧ 0 ∉ CR [Ab.box b 101 (AH.enc V), Ab.C3 (Bt 9 (AH.Ap V) ls), Ab.own (AH.last V) 56 16 ((ev).flatMap Ing.Event.enc)]) ∧ (F2 7 w ∧ 7 ∉ CR [Ab.box b 101 (AH.enc V), Ab.C3 (Bt 9 (AH.Ap V) ls), Ab.own (AH.last V) 56 16 ((ev).flatMap Ing.Event.enc)]) ∧ (F2 8 w ∧ 8 ∉ CR [Ab.box b 101 (AH.enc V), Ab.C3 (Bt 9 (AH.Ap V) ls), Ab.own (AH.last V) 56 16 ((ev).flatMap Ing.Event.enc)])) (fun v B => ∃ V' ls' ev', v = .tuple #[] ∧ A2 V' ls' ev' = AN.order (A2 V ls ev) k u ∧ B = [Ab.box b 101 (AH.enc V'), Ab.C3 (Bt 9 (AH.Ap V') ls'), Ab.own (AH.last V') 56 16 ((ev').flatMap Ing.Event.enc)]) := by
 intro w hS0 hH
 obtain ⟨⟨gl0, gm0⟩, ⟨gl1, gm1⟩, ⟨gl2, gm2⟩, ⟨gl3, gm3⟩⟩ := hH
 have hps := Words.MJ u
 have hdl := AG.Mp V.w (V.Ap.at k).A7 (Words.parse u).1
 have hds := AG.Mk (b := (V.Ap.at k).A7) (o := (Words.parse u).1) hF.HE (by have := hps.2.2; omega)
 have htn := GF hF
 refine Ai _ _ Tryz.func95 rfl rfl rfl (hS0) ?_
 refine Gs (Gm rfl ?_)
 refine A8 rfl Zc (.c rfl .n) (fun w hS => LZ u (by omega) w (gl1.stM gm1 hS) (gl2.stM gm2 hS) (gl3.stM gm3 hS)) ?_
 refine Gm rfl (Gt (AL rfl rfl) (Gt (AL rfl rfl) ?_))
 refine BB rfl Kx rfl (fun b1 => ?_)
 refine AQ (AK (AS.id Order.fl.len Order.fl.one) rfl rfl rfl Ds rfl .h) ?_
 refine Ga rfl (Gn (.t4 0 1 6 7) (CB (Gm rfl (Gt (CT rfl rfl) (Gn (.t4 0 1 6 17) ?_)))))
 refine Gc (fun c1 => ?_) (fun c1 => ?_)
 ·
  have c1p := kz c1
  refine Gs (Gm rfl (Gm rfl ?_))
  refine Ag rfl SK (.c rfl (.c rfl (.c rfl .n))) (.c (.t .h) (.c (.t .h) (.c (.t .h) .n))) (D7 _ V ls ev k _ hk (Nat.le_trans (htn k hk.1 hk.2) (by omega))) (fun v1 B hv => ?_)
  obtain ⟨y2, y3, y4, rfl, y5, rfl⟩ := hv
  refine Gn (.nil _) (Ac (AD ?_))
  refine AY rfl .n ?_
  intro w1 hS
  have hS := (hS.perm (Av.perm (.c .h (.c .h (.c .h .n))))).Ay
  refine ⟨_, ⟨y2, y3, y4, rfl, ?ga1, rfl⟩, hS⟩
  case ga1 => exact y5.trans (if_pos c1).symm
 have c1p := kz c1
 refine Aa ?_
 refine AB (.t3 0 1 6) ?_
 refine AA (CB (Gt (Ah C4 rfl) (Gt (AF rfl A1 .m0 Order.l0 rfl rfl) (Gt (Aj rfl rfl) (Gn (.t4 0 1 6 23) ?_)))))
 refine Gc (fun c2 => ?_) (fun c2 => ?_)
 ·
  refine Gs (Gm rfl (Gm rfl ?_))
  refine BF rfl Ys (.c rfl (.c rfl .n)) (.c (.t .h) (.c (.t .h) (.c (.t .h) .n))) (Hl _ V ls ev k n m hk hF hn hm) (fun w hS => ⟨gl0.pull gm0 hS (.c (.t .h) (.c (.t .h) (.c (.t .h) .n))), gl1.pull gm1 hS (.c (.t .h) (.c (.t .h) (.c (.t .h) .n))), gl2.pull gm2 hS (.c (.t .h) (.c (.t .h) (.c (.t .h) .n))), gl3.pull gm3 hS (.c (.t .h) (.c (.t .h) (.c (.t .h) .n)))⟩) (fun v6 B hv => ?_)
  obtain ⟨y7, y8, y9, rfl, y10, rfl⟩ := hv
  refine Gn (.nil _) (Ac (AD ?_))
  refine AY rfl .n ?_
  intro w1 hS
  have hS := (hS.perm (Av.perm (.c .h (.c .h (.c .h .n))))).Ay
  refine ⟨_, ⟨y7, y8, y9, rfl, ?ga2, rfl⟩, hS⟩
  case ga2 => exact y10.trans ((AV c1).trans (BC c2)).symm
 have c2p := kz c2
 refine Aa ?_
 refine AB (.t3 0 1 6) ?_
 refine AA (Ao ?_)
 refine BE (N := 18) [0, 1, 3, 7, 0, 16, 48, 112, 0, 511, 1023, 2047, 2047, 2047, 0, 20479, 57343, 131071] mix (by kernel_rfl) rfl ?_
 refine Pf 0 rfl (AE rfl) (Pf 1 rfl (BS rfl) (Pf 2 rfl (Ah Dx rfl) (Pf 3 rfl (AZ rfl BT .m1 AH.l0 rfl) (Pf 4 rfl (AE rfl) (Pf 5 rfl (BS rfl) (Pf 6 rfl (Ah Ho rfl) (Pf 7 rfl (AF rfl A1 .m1 ((AH.l1.comp (AS.arr (n := 4) A0.fl hk.1 hk.2)).comp A0.l1) rfl rfl) ?_)))))))
 refine Pf 8 rfl (AZ rfl B9 .m0 (AS.id Order.fl.len Order.fl.one) rfl) ?_
 refine JO 9 14 rfl rfl (by kernel_rfl) ?_ ?_
 ·
  refine BF rfl XZ (.c rfl (.c rfl (.c rfl .n))) .n (Fz V.w (V.Ap.at k).A7 (Words.parse u).1 hF.HE.MH (by have := hps.2.1; omega) (by have := hps.1; omega)) (fun w hS => ⟨gl1.pull gm1 hS .n, gl2.pull gm2 hS .n, gl3.pull gm3 hS .n⟩) (fun v11 B hv => ?_)
  obtain ⟨y12, rfl, y13, rfl⟩ := hv
  refine Bm rfl ⟨?_, ?_⟩
  · exact (Pk (Pk (Pk (Pk (Pk (Pk (Pk (Pk (Pk As)))))))))
  refine Pf 10 rfl (AE rfl) (Pf 11 rfl (AL rfl rfl) (Pf 12 rfl (AL rfl rfl) (Pf 13 rfl (AL rfl rfl) ?_)))
  refine An 14 rfl (by kernel_rfl) ?_
  refine BB rfl LX rfl (fun b2 => ?_)
  refine Bm rfl ⟨?_, ?_⟩
  · exact (Po rfl (AL rfl rfl) rfl rfl (Po rfl (AL rfl rfl) rfl rfl (Po rfl (AL rfl rfl) rfl rfl (Po rfl (AE rfl) rfl rfl (Po rfl (AZ rfl B9 .m2 (AS.id Order.fl.len Order.fl.one) rfl) rfl rfl (Po rfl (AF rfl A1 .m3 ((AH.l1.comp (AS.arr (n := 4) A0.fl hk.1 hk.2)).comp A0.l1) rfl rfl) rfl rfl (Po rfl (Ah Ho rfl) rfl rfl (Po rfl (BS rfl) rfl rfl (Po rfl (AE rfl) rfl rfl (Po rfl (AZ rfl BT .m3 AH.l0 rfl) rfl rfl (Po rfl (Ah Dx rfl) rfl rfl (Po rfl (BS rfl) rfl rfl (Po rfl (AE rfl) rfl rfl As)))))))))))))
  refine An 15 rfl (by kernel_rfl) ?_
  refine AQ (AK (AS.id AI.fl.len AI.fl.one) rfl rfl rfl Dw rfl .h) ?_
  refine BK rfl ⟨?_, ?_⟩
  · exact (Po rfl (AL rfl rfl) rfl rfl (Po rfl (AL rfl rfl) rfl rfl (Pk (Pk (Pk (Pk (Pk (Pk (Pk (Pk (Pk (Pk (Pk As)))))))))))))
  refine Pf 16 rfl (Az rfl) (Pf 17 rfl (Az rfl) ?_)
  refine A3 (by kernel_rfl) ?_
  refine AB (.t3 0 8 9) ?_
  refine AA (Gs (Gm rfl (Gt (AZ rfl BT .m0 (AS.id AI.fl.len AI.fl.one) rfl) (Gt (BS rfl) (Gt (Ah Dx rfl) ?_)))))
  refine AQ (AK AH.l0 rfl rfl rfl Dw rfl (.t (.t (.t .h)))) ?_
  refine Gn (.t2 0 9) (AJ (Gm rfl (Gm rfl ?_)))
  refine BF rfl Ti (.c rfl (.c rfl .n)) (.c (.t (.t (.t .h))) (.c (.t (.t (.t .h))) (.c (.t (.t (.t .h))) (.c (.t .h) .n)))) (En _ { V with w := (AG.Fh V.w (V.Ap.at k).A7 (Words.parse u).1).1 } ls ev _ (AG.Fh V.w (V.Ap.at k).A7 (Words.parse u).1).2.1 n (by assumption) htn (by omega) (Nat.le_trans hF.last (by omega)) (fun e he c _ => hds.2 e he)) (fun w hS => ⟨gl0.pull gm0 hS (.c (.t (.t (.t .h))) (.c (.t (.t (.t .h))) (.c (.t (.t (.t .h))) (.c (.t .h) .n)))), gl1.pull gm1 hS (.c (.t (.t (.t .h))) (.c (.t (.t (.t .h))) (.c (.t (.t (.t .h))) (.c (.t .h) .n))))⟩) (fun v15 B hv => ?_)
  obtain ⟨y16, y17, y18, rfl, y19, rfl⟩ := hv
  refine AM ?_
  refine Bh rfl .n ?_
  intro w1 hS
  have hS := (hS.perm (Av.perm (.c .h (.c .h (.c .h .n))))).Ay
  refine ⟨_, ⟨y16, y17, y18, rfl, ?ga3, rfl⟩, hS⟩
  case ga3 => exact TR hk.1 hk.2 c1 c2 y19
 ·
  refine BB rfl LX rfl (fun b3 => ?_)
  refine Bm rfl ⟨?_, ?_⟩
  · exact (Po rfl (AZ rfl B9 .m1 (AS.id Order.fl.len Order.fl.one) rfl) rfl rfl (Po rfl (AF rfl A1 .m2 ((AH.l1.comp (AS.arr (n := 4) A0.fl hk.1 hk.2)).comp A0.l1) rfl rfl) rfl rfl (Po rfl (Ah Ho rfl) rfl rfl (Po rfl (BS rfl) rfl rfl (Po rfl (AE rfl) rfl rfl (Po rfl (AZ rfl BT .m2 AH.l0 rfl) rfl rfl (Po rfl (Ah Dx rfl) rfl rfl (Po rfl (BS rfl) rfl rfl (Po rfl (AE rfl) rfl rfl As)))))))))
  refine An 9 rfl (by kernel_rfl) ?_
  refine BF rfl XZ (.c rfl (.c rfl (.c rfl .n))) .n (Fz V.w (V.Ap.at k).A7 (Words.parse u).1 hF.HE.MH (by have := hps.2.1; omega) (by have := hps.1; omega)) (fun w hS => ⟨gl1.pull gm1 hS .n, gl2.pull gm2 hS .n, gl3.pull gm3 hS .n⟩) (fun v20 B hv => ?_)
  obtain ⟨y21, rfl, y22, rfl⟩ := hv
  refine Bm rfl ⟨?_, ?_⟩
  · exact (Pk (Pk (Pk (Pk (Pk (Pk (Pk (Pk (Pk As)))))))))
  refine Pf 10 rfl (AE rfl) (Pf 11 rfl (AL rfl rfl) (Pf 12 rfl (AL rfl rfl) (Pf 13 rfl (AL rfl rfl) ?_)))
  refine An 15 rfl (by kernel_rfl) ?_
  refine AQ (AK (AS.id AI.fl.len AI.fl.one) rfl rfl rfl Dw rfl (.t .h)) ?_
  refine BK rfl ⟨?_, ?_⟩
  · exact (Po rfl (AL rfl rfl) rfl rfl (Po rfl (AL rfl rfl) rfl rfl (Pk (Pk (Pk (Pk (Pk (Pk (Pk (Pk (Pk (Pk (Pk As)))))))))))))
  refine Pf 16 rfl (Az rfl) (Pf 17 rfl (Az rfl) ?_)
  refine A3 (by kernel_rfl) ?_
  refine AB (.t3 0 8 9) ?_
  refine AA (Gs (Gm rfl (Gt (AZ rfl BT .m1 (AS.id AI.fl.len AI.fl.one) rfl) (Gt (BS rfl) (Gt (Ah Dx rfl) ?_)))))
  refine AQ (AK AH.l0 rfl rfl rfl Dw rfl (.t (.t (.t .h)))) ?_
  refine Gn (.t2 0 9) (AJ (Gm rfl (Gm rfl ?_)))
  refine BF rfl Ti (.c rfl (.c rfl .n)) (.c (.t (.t (.t .h))) (.c (.t (.t (.t .h))) (.c (.t (.t (.t .h))) (.c .h .n)))) (En _ { V with w := (AG.Fh V.w (V.Ap.at k).A7 (Words.parse u).1).1 } ls ev _ (AG.Fh V.w (V.Ap.at k).A7 (Words.parse u).1).2.1 n (by assumption) htn (by omega) (Nat.le_trans hF.last (by omega)) (fun e he c _ => hds.2 e he)) (fun w hS => ⟨gl0.pull gm0 hS (.c (.t (.t (.t .h))) (.c (.t (.t (.t .h))) (.c (.t (.t (.t .h))) (.c .h .n)))), gl1.pull gm1 hS (.c (.t (.t (.t .h))) (.c (.t (.t (.t .h))) (.c (.t (.t (.t .h))) (.c .h .n))))⟩) (fun v24 B hv => ?_)
  obtain ⟨y25, y26, y27, rfl, y28, rfl⟩ := hv
  refine AM ?_
  refine Bh rfl .n ?_
  intro w1 hS
  have hS := (hS.perm (Av.perm (.c .h (.c .h (.c .h .n))))).Ay
  refine ⟨_, ⟨y25, y26, y27, rfl, ?ga4, rfl⟩, hS⟩
  case ga4 => exact TR hk.1 hk.2 c1 c2 y28
theorem Pl (b : Nat) (V : AH) (ls : Vector BG 4) (ev : List Ing.Event) (k : Int) (n m : Nat) (hk : 0 ≤ k ∧ k < 4) (hF : AN.Fit (A2 V ls ev) n m) (hn : n ≤ 900000) (hm : m ≤ 900000) : Ev Tryz.prog 77 #[.pointer (some ⟨b, 0, none⟩), .pointer (some ⟨b, 165 + k.toNat * 22, none⟩)] [Ab.box b 101 (AH.enc V), Ab.C3 (Bt 9 (AH.Ap V) ls), Ab.own (AH.last V) 56 16 ((ev).flatMap Ing.Event.enc)] (fun w => (GV 2 E7 w ∧ 2 ∉ CR [Ab.box b 101 (AH.enc V), Ab.C3 (Bt 9 (AH.Ap V) ls), Ab.own (AH.last V) 56 16 ((ev).flatMap Ing.Event.enc)]) ∧ (GV 0 AI.C2 w ∧ 0 ∉ CR [Ab.box b 101 (AH.enc V), Ab.C3 (Bt 9 (AH.Ap V) ls), Ab.own (AH.last V) 56 16 ((ev).flatMap Ing.Event.enc)]) ∧ (F2 7 w ∧ 7 ∉ CR [Ab.box b 101 (AH.enc V), Ab.C3 (Bt 9 (AH.Ap V) ls), Ab.own (AH.last V) 56 16 ((ev).flatMap Ing.Event.enc)]) ∧ (F2 8 w ∧ 8 ∉ CR [Ab.box b 101 (AH.enc V), Ab.C3 (Bt 9 (AH.Ap V) ls), Ab.own (AH.last V) 56 16 ((ev).flatMap Ing.Event.enc)])) (fun v B => ∃ V' ls' ev', v = .tuple #[] ∧ A2 V' ls' ev' = AN.EJ (A2 V ls ev) k ∧ B = [Ab.box b 101 (AH.enc V'), Ab.C3 (Bt 9 (AH.Ap V') ls'), Ab.own (AH.last V') 56 16 ((ev').flatMap Ing.Event.enc)]) := by
 intro w hS0 hH
 obtain ⟨⟨gl0, gm0⟩, ⟨gl1, gm1⟩, ⟨gl2, gm2⟩, ⟨gl3, gm3⟩⟩ := hH
 refine Ai _ _ Tryz.func77 rfl rfl rfl (hS0) ?_
 refine CB (Gm rfl (Gt (BS rfl) (Gt (Ah Ik rfl) (Gt (AF rfl A1 .m0 ((AH.l1.comp (AS.arr (n := 4) A0.fl hk.1 hk.2)).comp A0.l0) rfl rfl) (Gt (Aj rfl rfl) (Gn (.t3 0 1 11) ?_))))))
 refine Gc (fun c1 => ?_) (fun c1 => ?_)
 ·
  refine Ac (AD ?_)
  refine AY rfl .n ?_
  intro w1 hS
  have hS := (hS.perm (Av.perm (.c .h (.c .h (.c .h .n))))).Ay
  exact ⟨_, ⟨V, ls, ev, rfl, Un hk.1 hk.2 c1, rfl⟩, hS⟩
 have c1p := kz c1
 refine Aa ?_
 refine AB (.t2 0 1) ?_
 refine AA (Gs (Ga rfl (Gn (.t2 0 1) (Gs (Ga rfl (Gn (.t2 0 1) (Ao ?_)))))))
 refine Ao ?_
 refine Eu (k := k) hk.1 hk.2 (fun sv sl hsv hlv hln => ?_)
 refine AJ (Gm rfl (Gm rfl (Gt (BS rfl) (Gt (Ah Kd rfl) (Gt (AZ rfl HV .m3 ((AS.BL V hk.1 hk.2).comp A0.l3) rfl) ?_)))))
 refine BF rfl bW (.c rfl .n) .n (Np _ _ (by have h := (Ut hF hk.1 hk.2).1; rw [hlv] at h; omega)) (fun w hS => ⟨(Kn.own .m0) w hS, (Tk.own .m0) w hS⟩) (fun v1 B hv => ?_)
 rcases hv with ⟨y2, rfl, rfl⟩ | ⟨y3, y4, y5, y6, rfl, y7, rfl⟩
 ·
  refine Gm rfl (Gt (AL rfl rfl) (Gt (AL rfl rfl) (Gt (AL rfl rfl) (Gt (BS rfl) (Gt (Ah Kd rfl) ?_)))))
  refine AQ (AK ((AS.BL V hk.1 hk.2).comp A0.l3) rfl rfl rfl Ko rfl (.t (.t (.t .h)))) ?_
  refine Ga rfl (Ga rfl (Gn (.t4 0 1 4 5) (Gs (Gm rfl (Gt (BQ rfl) (Gn (.t4 0 1 4 25) ?_))))))
  refine FL rfl rfl ?_
  refine Ac (AD ?_)
  refine AY rfl .n ?_
  intro w1 hS
  have hS := (hS.perm (Av.perm (.c .h (.c .h (.c .h (.c .h (.c .h (.c .h .n)))))))).Ay
  have hS := hS.close' hk.1 hk.2 (by rfl) (by rfl) (by rfl)
  refine ⟨_, ⟨V.BL k sv, ls.put k ⟨sl.queue, sl.wait, sl.told⟩, ev, rfl, ?ga2, rfl⟩, hS⟩
  case ga2 => exact Ue hk.1 hk.2 hsv hlv y2 c1
 refine Gm rfl (Gt (AL rfl rfl) (Gt (AL rfl rfl) (Gt (AL rfl rfl) (Gt (BS rfl) (Gt (Ah Kd rfl) ?_)))))
 refine AQ (AK ((AS.BL V hk.1 hk.2).comp A0.l3) rfl rfl rfl Ko rfl (.t (.t (.t (.t .h))))) ?_
 refine Ga rfl (Ga rfl (Gn (.t4 0 1 4 5) (Gs (Gm rfl (Gt (BQ rfl) (Gn (.t4 0 1 4 25) ?_))))))
 refine Da rfl rfl ?_
 refine Aa ?_
 refine AB (.t3 0 1 4) ?_
 refine AA (Gs (Gm rfl (Gt (BS rfl) (Gt (Ah Df rfl) (Gt (Ah Lb rfl) (Gt (AF rfl Ct .m4 (((AS.BL V hk.1 hk.2).comp A0.l4).comp Ar.l2) rfl rfl) (Ga rfl ?_)))))))
 refine Gn (.t4 0 1 4 6) (Gs (Gm rfl (Gm rfl (Gt (BS rfl) (Gt (Ah Df rfl) (Gt (AZ rfl Cm .m4 ((AS.BL V hk.1 hk.2).comp A0.l4) rfl) ?_))))))
 refine A8 rfl cJ (.c rfl .n) (fun w hS => Mb _ w) ?_
 refine Gt (BS rfl) (Gt (Ah Df rfl) ?_)
 refine AQ (AK ((AS.BL V hk.1 hk.2).comp A0.l4) rfl rfl rfl Ez rfl (.t (.t (.t (.t .h))))) ?_
 refine Gn (.t4 0 1 4 6) (Ae (Ao ?_))
 refine D9 (.c .h (.c (.t .h) (.c (.t .h) (.c (.t .h) (.c (.t .h) .n))))) ?_
 refine GY hk.1 hk.2 (by rfl) (by rfl) (by rfl) ?_
 refine AJ (Gm rfl (Ga rfl (Gn (.t4 0 1 4 43) ?_)))
 refine Gc (fun c2 => ?_) (fun c2 => ?_)
 ·
  refine Aa ?_
  refine AB (.nil _) ?_
  refine AU ?_
  refine Bh rfl .n ?_
  intro w1 hS
  have hS := (hS.perm (Av.perm (.c .h (.c .h (.c (.t .h) .n))))).Ay
  exact ⟨_, ⟨(AH.BL V k { sv with Dy := ⟨sv.Dy.now, sv.Dy.Cd, sv.Dy.ret, y6⟩, out := ⟨sv.out.wait, 0, false, sv.out.ring, sv.out.cut⟩ }), (ls.put k ⟨y4, sl.wait, sl.told⟩), ev, rfl, (DR (ev := ev) hk.1 hk.2 hsv hlv y5 c1 y6).1.trans ((DR (ev := ev) hk.1 hk.2 hsv hlv y5 c1 y6).2.2.trans (if_pos c2)).symm, rfl⟩, hS⟩
 have c2p := kz c2
 refine Gs (Gm rfl (Gt (BS rfl) (Gt (Ah Ik rfl) (Gt (AF rfl A1 .m0 ((AH.l1.comp (AS.arr (n := 4) A0.fl hk.1 hk.2)).comp A0.l0) rfl rfl) (Gt (Aj rfl rfl) (Ga rfl (Gn (.t4 0 1 4 45) ?_)))))))
 refine Gc (fun c3 => ?_) (fun c3 => ?_)
 ·
  have c3p := kz c3
  refine AJ (Gm rfl (Gm rfl (Gm rfl ?_)))
  refine A8 rfl Zl (.c rfl (.c rfl .n)) (fun w hS => HX y3 (by have h : y3.length ≤ 1000 := (by have h := (hF.queue k hk.1 hk.2).2 y3 (by rw [(DR (ev := ev) hk.1 hk.2 hsv hlv y5 c1 y6).2.1]; exact List.mem_cons_self ..); omega); omega) w) ?_
  refine BF rfl bC (.c rfl (.c rfl (.c rfl .n))) (.c .h (.c .h (.c (.t .h) .n))) (PZ _ (AH.BL V k { sv with Dy := ⟨sv.Dy.now, sv.Dy.Cd, sv.Dy.ret, y6⟩, out := ⟨sv.out.wait, 0, false, sv.out.ring, sv.out.cut⟩ }) (ls.put k ⟨y4, sl.wait, sl.told⟩) ev k _ n m hk (by rw [(DR (ev := ev) hk.1 hk.2 hsv hlv y5 c1 y6).1]; exact hF.FM hk.1 hk.2 (DR (ev := ev) hk.1 hk.2 hsv hlv y5 c1 y6).2.1) hn hm (by have h : y3.length ≤ 1000 := (by have h := (hF.queue k hk.1 hk.2).2 y3 (by rw [(DR (ev := ev) hk.1 hk.2 hsv hlv y5 c1 y6).2.1]; exact List.mem_cons_self ..); omega); have h1 := Words.Km 32 (Words.RT 32 y3); have h2 := Words.QA 32 y3; omega)) (fun w hS => ⟨gl0.pull gm0 hS (.c .h (.c .h (.c (.t .h) .n))), gl1.pull gm1 hS (.c .h (.c .h (.c (.t .h) .n)))⟩) (fun v9 B hv => ?_)
  obtain ⟨y10, y11, y12, rfl, y13, rfl⟩ := hv
  refine AM (AB (.nil _) ?_)
  refine AU ?_
  refine Bh rfl .n ?_
  intro w1 hS
  have hS := (hS.perm (Av.perm (.c .h (.c .h (.c .h .n))))).Ay
  have c9 : decide (sv.state = 1) = true := by
    have h := c3
    rw [show (AH.Ap (AH.BL V k { sv with Dy := ⟨sv.Dy.now, sv.Dy.Cd, sv.Dy.ret, y6⟩, out := ⟨sv.out.wait, 0, false, sv.out.ring, sv.out.cut⟩ })).at k = _ from Vector.CN hk.1 hk.2] at h
    exact h
  refine ⟨_, ⟨y10, y11, y12, rfl, ?ga4, rfl⟩, hS⟩
  case ga4 => exact y13.trans ((congrArg (fun X => AN.named X k _) (DR (ev := ev) hk.1 hk.2 hsv hlv y5 c1 y6).1).trans ((DR (ev := ev) hk.1 hk.2 hsv hlv y5 c1 y6).2.2.trans ((AV c2).trans (BC c9))).symm)
 have c3p := kz c3
 refine AJ (Gm rfl (Gm rfl (Gm rfl ?_)))
 refine BF rfl cB (.c rfl (.c rfl (.c rfl .n))) (.c .h (.c .h (.c (.t .h) .n))) (Ob _ (AH.BL V k { sv with Dy := ⟨sv.Dy.now, sv.Dy.Cd, sv.Dy.ret, y6⟩, out := ⟨sv.out.wait, 0, false, sv.out.ring, sv.out.cut⟩ }) (ls.put k ⟨y4, sl.wait, sl.told⟩) ev k _ n m hk (by rw [(DR (ev := ev) hk.1 hk.2 hsv hlv y5 c1 y6).1]; exact hF.FM hk.1 hk.2 (DR (ev := ev) hk.1 hk.2 hsv hlv y5 c1 y6).2.1) hn hm (by have h := (hF.queue k hk.1 hk.2).2 y3 (by rw [(DR (ev := ev) hk.1 hk.2 hsv hlv y5 c1 y6).2.1]; exact List.mem_cons_self ..); omega)) (fun w hS => ⟨gl0.pull gm0 hS (.c .h (.c .h (.c (.t .h) .n))), gl1.pull gm1 hS (.c .h (.c .h (.c (.t .h) .n))), gl2.pull gm2 hS (.c .h (.c .h (.c (.t .h) .n))), gl3.pull gm3 hS (.c .h (.c .h (.c (.t .h) .n)))⟩) (fun v14 B hv => ?_)
 obtain ⟨y15, y16, y17, rfl, y18, rfl⟩ := hv
 refine AM (AB (.nil _) ?_)
 refine AU ?_
 refine Bh rfl .n ?_
 intro w1 hS
 have hS := (hS.perm (Av.perm (.c .h (.c .h (.c .h .n))))).Ay
 have c9 : decide (sv.state = 1) = false := by
   have h := c3
   rw [show (AH.Ap (AH.BL V k { sv with Dy := ⟨sv.Dy.now, sv.Dy.Cd, sv.Dy.ret, y6⟩, out := ⟨sv.out.wait, 0, false, sv.out.ring, sv.out.cut⟩ })).at k = _ from Vector.CN hk.1 hk.2] at h
   exact h
 refine ⟨_, ⟨y15, y16, y17, rfl, ?ga5, rfl⟩, hS⟩
 case ga5 => exact y18.trans ((congrArg (fun X => AN.order X k _) (DR (ev := ev) hk.1 hk.2 hsv hlv y5 c1 y6).1).trans ((DR (ev := ev) hk.1 hk.2 hsv hlv y5 c1 y6).2.2.trans ((AV c2).trans (AV c9))).symm)
theorem Nk (X : AI) (b : Int) (hF : (AG.FX X b).Fit) : Ev Tryz.prog 97 #[.agg X.enc.toArray, .int .i64 b] [] (fun w => (GV 0 AI.C2 w ∧ 0 ∉ CR [])) (fun v B => ∃ h : Hd, v = .tuple #[.agg ((AG.Ie X b).w.enc).toArray, h.val] ∧ h.len = (AG.Ie X b).out.length ∧ B = [Ab.own h 56 16 ((AG.Ie X b).out.flatMap Ing.Event.enc)]) := by
 intro w hS0 hH
 obtain ⟨gl0, gm0⟩ := hH
 have hb : 0 ≤ b ∧ b < 6 := hF.b
 refine Ai _ _ Tryz.func97 rfl rfl rfl (hS0) ?_
 refine Gs ?_
 refine Bw rfl rfl rfl (fun b1 => ?_)
 refine BB rfl LX rfl (fun b2 => ?_)
 refine Ga rfl (Gn (.t3 1 2 4) (Gs (Gt (AZ rfl BT .m1 (AS.id AI.fl.len AI.fl.one) rfl) (Gm rfl (Gt (BD TH S5 rfl (.cons Ad.l0 rfl rfl rfl (.cons Ad.l1 rfl rfl rfl .nil))) ?_)))))
 refine Bw rfl rfl rfl (fun b3 => ?_)
 refine Ga rfl (Gn (.t3 1 4 6) (Gs (Gm rfl (Gm rfl (Gt (BS rfl) (Gt (Ah A6 rfl) (Gt (Ah Bk rfl) ?_)))))))
 refine Gt (AR Cy rfl rfl (by first | omega | exact hb.1 | exact hb.2 | (dsimp only; omega)) (by first | omega | exact hb.1 | exact hb.2 | (dsimp only; omega))) ?_
 refine Gt (Ah JV rfl) ?_
 refine AQ (AK (((Ad.l0.comp AI.l2).comp (AS.ar (n := 6) Al.fl (by first | omega | exact hb | (dsimp only; omega)))).comp Al.l4) rfl rfl rfl C5 rfl .h) ?_
 refine Gn (.t3 1 4 6) (Gs (Gm rfl ?_))
 refine DC Ing.Event.enc 56 16 ?_
 refine Ag rfl TK (.c rfl (.c rfl .n)) (.c (.t .h) (.c .h .n)) (F0 _ (AG.FX X b) _ 15 rfl hb (Nat.zero_le _)) (fun v2 B hv => ?_)
 obtain ⟨y3, rfl, y4, rfl⟩ := hv
 refine Gn (.t3 1 4 6) (Gs (Gm rfl ?_))
 refine Ag rfl YF (.c rfl .n) (.c .h .n) (LD _ ((AG.FX X b).kind 15) _ (hF.Pa rfl rfl)) (fun v5 B hv => ?_)
 obtain ⟨y6, y7, rfl, rfl⟩ := hv
 refine Gn (.t3 1 4 6) (CB (Gm rfl (Gt (A5 rfl rfl) (Gn (.t4 1 4 6 24) ?_))))
 refine Gc (fun c1 => ?_) (fun c1 => ?_)
 ·
  have c1p := kz c1
  refine Gs (Gm rfl (Gm rfl (Gt (BD VF K2 rfl .nil) (Gt (BS rfl) (Gt (Ah A6 rfl) (Gt (Ah Bk rfl) ?_))))))
  refine Gt (AR Cy rfl rfl (by first | omega | exact hb.1 | exact hb.2 | (dsimp only; omega)) (by first | omega | exact hb.1 | exact hb.2 | (dsimp only; omega))) ?_
  refine AQ (AK ((Ad.l0.comp AI.l2).comp (AS.ar (n := 6) Al.fl (by first | omega | exact hb | (dsimp only; omega)))) rfl rfl rfl Jv rfl .h) ?_
  refine Gn (.t2 4 6) (Ao ?_)
  refine BE (N := 10) [0, 1, 3, 7, 0, 16, 48, 112, 15, 511] mix (by kernel_rfl) rfl ?_
  refine Pf 0 rfl (AE rfl) (Pf 1 rfl (BS rfl) (Pf 2 rfl (Ah A6 rfl) (Pf 3 rfl (AZ rfl BT .m0 Ad.l0 rfl) (Pf 4 rfl (AE rfl) (Pf 5 rfl (BS rfl) (Pf 6 rfl (Ah CH rfl) (Pf 7 rfl (AF rfl DU .m0 Ad.l2 rfl rfl) ?_)))))))
  refine An 8 rfl (by kernel_rfl) ?_
  refine AQ (AK (AS.id AI.fl.len AI.fl.one) rfl rfl rfl Dw rfl (.t (.t .h))) ?_
  refine BK rfl ⟨?_, ?_⟩
  · exact (Po rfl (AF rfl DU .m0 Ad.l2 rfl rfl) rfl rfl (Po rfl (Ah CH rfl) rfl rfl (Po rfl (BS rfl) rfl rfl (Po rfl (AE rfl) rfl rfl (Pk (Pk (Pk (Pk As))))))))
  refine Pf 9 rfl (Az rfl) ?_
  refine A3 (by kernel_rfl) ?_
  refine AB (.t2 4 5) ?_
  refine AA (Ac (AD ?_))
  refine AY rfl (.cell rfl .m2 (.inl ⟨(by rw [AI.fl.len]; exact BT), rfl⟩) (.tmp rfl .n)) ?_
  intro w1 hS
  have hS := (hS.perm (Av.perm (.c (.t .h) .n))).Ay
  have hq : AG.Ie X b = _ := BC c1
  rw [AG.Sv y7] at hq
  refine ⟨_, ⟨y3, ?hv, ?hl, ?hB⟩, hS⟩
  case hv => rw [hq]; rfl
  case hl => rw [hq]; exact y4
  case hB => rw [hq]
 have c1p := kz c1
 refine Aa ?_
 refine AB (.t3 1 4 6) ?_
 refine AA (Gs (Gm rfl (Gm rfl (Gt (BS rfl) (Gt (Ah A6 rfl) (Gt (Ah Bk rfl) ?_))))))
 refine Gt (AR Cy rfl rfl (by first | omega | exact hb.1 | exact hb.2 | (dsimp only; omega)) (by first | omega | exact hb.1 | exact hb.2 | (dsimp only; omega))) ?_
 refine Ga rfl (Gn (.t3 4 6 7) (Gs (Gm rfl (Gm rfl (Gt (BS rfl) (Gt (Ah Cv rfl) ?_))))))
 refine AQ (AK (((Ad.l0.comp AI.l2).comp (AS.ar (n := 6) Al.fl (by first | omega | exact hb | (dsimp only; omega)))).comp Al.l3) rfl rfl rfl C5 rfl .h) ?_
 refine Gt (BS rfl) (Gt (Ah JV rfl) ?_)
 refine AQ (AK (((Ad.l0.comp AI.l2).comp (AS.ar (n := 6) Al.fl (by first | omega | exact hb | (dsimp only; omega)))).comp Al.l4) rfl rfl rfl C5 rfl .h) ?_
 refine Gn (.t2 4 6) (Ao ?_)
 refine Fc (fun _ => .h) (congrArg (fun q => Ad.enc ⟨q, b, y3⟩) (AG.Xq y6 hb)) ?_
 have hT2 := AG.Xn y7
 have hf2 := AG.RL hF
 rw [hT2] at hf2
 refine AJ (Gm rfl ?_)
 refine Ag rfl TK (.c rfl (.c rfl .n)) (.c .h (.c .h .n)) (F0 _ (⟨y6.C1 b { y6.AW.at b with room := 0, BM := 10 }, b, ((AG.FX X b).kind 15).out⟩ : AG) _ 17 y4 hb (by decide : (0 : Nat) + 1 ≤ 100000)) (fun v8 B hv => ?_)
 obtain ⟨y9, rfl, y10, rfl⟩ := hv
 refine Gn (.t2 4 6) (Gs (Gm rfl ?_))
 refine BF rfl Sr (.c rfl .n) (.c .h (.c .h .n)) (GZ _ ((⟨y6.C1 b { y6.AW.at b with room := 0, BM := 10 }, b, ((AG.FX X b).kind 15).out⟩ : AG).kind 17) _ y10 hb hf2.br (by decide : (0 : Nat) + 1 + 1 ≤ 90000)) (fun w hS => gl0.pull gm0 hS (.c .h (.c .h .n))) (fun v11 B hv => ?_)
 obtain ⟨y12, rfl, y13, rfl⟩ := hv
 refine Gn (.t2 4 6) (Ao ?_)
 refine BE (N := 10) [0, 1, 3, 7, 0, 16, 48, 112, 15, 511] mix (by kernel_rfl) rfl ?_
 refine Pf 0 rfl (AE rfl) (Pf 1 rfl (BS rfl) (Pf 2 rfl (Ah A6 rfl) (Pf 3 rfl (AZ rfl BT .m0 Ad.l0 rfl) (Pf 4 rfl (AE rfl) (Pf 5 rfl (BS rfl) (Pf 6 rfl (Ah CH rfl) (Pf 7 rfl (AF rfl DU .m0 Ad.l2 rfl rfl) ?_)))))))
 refine An 8 rfl (by kernel_rfl) ?_
 refine AQ (AK (AS.id AI.fl.len AI.fl.one) rfl rfl rfl Dw rfl (.t (.t .h))) ?_
 refine BK rfl ⟨?_, ?_⟩
 · exact (Po rfl (AF rfl DU .m0 Ad.l2 rfl rfl) rfl rfl (Po rfl (Ah CH rfl) rfl rfl (Po rfl (BS rfl) rfl rfl (Po rfl (AE rfl) rfl rfl (Pk (Pk (Pk (Pk As))))))))
 refine Pf 9 rfl (Az rfl) ?_
 refine A3 (by kernel_rfl) ?_
 refine AB (.t2 4 5) ?_
 refine AA (Ac ?_)
 refine AY rfl (.cell rfl .m2 (.inl ⟨(by rw [AI.fl.len]; exact BT), rfl⟩) (.tmp rfl .n)) ?_
 intro w1 hS
 have hS := (hS.perm (Av.perm (.c (.t .h) .n))).Ay
 have hq : AG.Ie X b = _ := AV c1
 rw [hT2] at hq
 refine ⟨_, ⟨y12, ?hv, ?hl, ?hB⟩, hS⟩
 case hv => rw [hq]; rfl
 case hl => rw [hq]; exact y13
 case hB => rw [hq]
end Go.Proofs.YtoidpggbbfncpaaGreatDoor
