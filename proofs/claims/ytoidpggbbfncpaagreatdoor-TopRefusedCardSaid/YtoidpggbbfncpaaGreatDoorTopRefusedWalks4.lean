/- What the functions that the law TopRefused reaches compute: walks, part 4. No condition. -/
import Derived.Test.YtoidpggbbfncpaaGreatDoorCards
import Derived.Test.YtoidpggbbfncpaaGreatDoorTie
import Derived.Deep.DeepHandedRow
import Derived.Test.YtoidpggbbfncpaaGreatDoorRows
import Derived.Test.YtoidpggbbfncpaaGreatDoorTopRefusedEc3
import Derived.Test.YtoidpggbbfncpaaGreatDoorTopRefusedRa1
import Derived.Test.YtoidpggbbfncpaaGreatDoorTopRefusedRb1
import Derived.Test.YtoidpggbbfncpaaGreatDoorTopRefusedRc1
import Derived.Test.YtoidpggbbfncpaaGreatDoorTopRefusedWalks
import Derived.Test.YtoidpggbbfncpaaGreatDoorTopRefusedWalks2
import Derived.Test.YtoidpggbbfncpaaGreatDoorTopRefusedWalks3
set_option linter.unusedSimpArgs false
set_option linter.unusedVariables false
set_option maxRecDepth 100000
set_option maxHeartbeats 1000000
namespace Go.Proofs.YtoidpggbbfncpaaGreatDoor
open Go Go.Ing Go.RowKit Go.ChangeShapes Go.WideShapes Go.ChangeAt
theorem QY (b : Nat) (T : AG) (g : Hd) (o : Order) (hg : g.len = T.out.length) (hF : T.Fit) (hv : o.verb = 8 ∨ o.verb = 9 ∨ o.verb = 10) (hu : o.second.length ≤ 5000000) (hn : T.out.length ≤ 90000) : E9 Tryz.prog 106 #[.pointer (some ⟨b, 0, none⟩), .agg o.enc.toArray] [Ac.box b 163 (Ad.enc ⟨T.w, T.b, g⟩), Ac.own g 56 16 (T.out.flatMap Ing.Event.enc)] (fun w => (GF 7 w ∧ 7 ∉ CX [Ac.box b 163 (Ad.enc ⟨T.w, T.b, g⟩), Ac.own g 56 16 (T.out.flatMap Ing.Event.enc)]) ∧ (GF 8 w ∧ 8 ∉ CX [Ac.box b 163 (Ad.enc ⟨T.w, T.b, g⟩), Ac.own g 56 16 (T.out.flatMap Ing.Event.enc)])) (fun v B => ∃ g' : Hd, v = .tuple #[] ∧ g'.len = (T.Gx o).out.length ∧ B = [Ac.box b 163 (Ad.enc ⟨(T.Gx o).w, (T.Gx o).b, g'⟩), Ac.own g' 56 16 ((T.Gx o).out.flatMap Ing.Event.enc)]) := by
 intro w hS0 hH
 obtain ⟨⟨gl0, gm0⟩, ⟨gl1, gm1⟩⟩ := hH
 have hb := hF.b
 have hr := hF.room
 refine Ai _ _ Tryz.func106 rfl rfl rfl (hS0) ?_
 refine Gs ?_
 refine Bv rfl rfl rfl (fun b1 => ?_)
 refine Gn (.t2 0 3) (Gs (Ga rfl (Ga rfl (AP (AA ?_)))))
 refine Be (.t (.t .h)) ?_
 refine Be (.t (.t .h)) ?_
 refine XK (Lm := [_, _]) (fun (X : AG) (to : Int) (p : Bool) (j : Hd) => X = (T.DI o).1 ∧ to = (T.DI o).2.1 ∧ p = (T.DI o).2.2 ∧ j.len = X.out.length) (fun (X : AG) (to : Int) (p : Bool) (j : Hd) => [(4, .int .i64 to), (5, .bool p)]) (fun (X : AG) (to : Int) (p : Bool) (j : Hd) => [Ac.box b 163 (Ad.enc ⟨X.w, X.b, j⟩), Ac.own j 56 16 (X.out.flatMap Ing.Event.enc)]) (.t2 0 3) rfl ?_ (fun X to p j hC => ?_)
 ·
  refine Gs (Gt (Af C3 rfl) (Gt (AF rfl A1 .m2 Order.l0 rfl rfl) (Gn (.t5 0 3 4 5 11) (Ae (Gs (Gt (Ag rfl rfl) (Ga rfl ?_)))))))
  refine Gn (.t6 0 3 4 5 11 12) ?_
  refine Gc (fun c1 => ?_) (fun c1 => ?_)
  ·
   have c1p := kz c1
   refine AI (Gm rfl (Gt (Af HU rfl) (Gt (AF rfl CD .m2 Order.l4 rfl rfl) ?_)))
   refine BE rfl X3 (.c rfl (.c rfl .n)) (.c .h (.c .h .n)) (MJ _ T _ _ hg hF hu (by omega)) (fun w hS => ⟨gl0.pull gm0 hS (.c .h (.c .h .n)), gl1.pull gm1 hS (.c .h (.c .h .n))⟩) (fun v1 B hv => ?_)
   obtain ⟨y2, rfl, y3, rfl⟩ := hv
   refine Gm rfl (Gt (AL rfl rfl) (Gt (AL rfl rfl) (Ga rfl (Ga rfl ?_))))
   refine AP (AB (.t4 0 3 4 5) ?_)
   refine AT ?_
   refine P9 _ _ _ _ ?_ (.t4 4 5 0 3) (.refl _)
   · have ht : T.DI o = _ := BA c1
     exact ⟨by rw [ht], by rw [ht], by rw [ht], by assumption⟩
  have c1p := kz c1
  refine Gs (Gt (Ag rfl rfl) (Ga rfl (Gn (.t5 0 3 4 5 21) ?_)))
  refine Gc (fun c2 => ?_) (fun c2 => ?_)
  ·
   have c2p := kz c2
   refine AI (Gm rfl (Gt (Af HU rfl) (Gt (AF rfl CD .m2 Order.l4 rfl rfl) ?_)))
   refine BE rfl Xz (.c rfl (.c rfl .n)) (.c .h (.c .h .n)) (IE _ T _ _ hg hF hu (by omega)) (fun w hS => ⟨gl0.pull gm0 hS (.c .h (.c .h .n)), gl1.pull gm1 hS (.c .h (.c .h .n))⟩) (fun v4 B hv => ?_)
   obtain ⟨y5, rfl, y6, rfl⟩ := hv
   refine Gm rfl (Gt (AL rfl rfl) (Gt (AL rfl rfl) (Ga rfl (Ga rfl ?_))))
   refine AP (AB (.t4 0 3 4 5) ?_)
   refine AT ?_
   refine P9 _ _ _ _ ?_ (.t4 4 5 0 3) (.refl _)
   · have ht : T.DI o = _ := (AU c1).trans (BA c2)
     exact ⟨by rw [ht], by rw [ht], by rw [ht], by assumption⟩
  have c2p := kz c2
  refine Aa ?_
  refine AB (.t4 0 3 4 5) ?_
  refine AT ?_
  refine P9 _ _ _ _ ?_ (.t4 4 5 0 3) (.refl _)
  · have ht : T.DI o = _ := (AU c1).trans (AU c2)
    exact ⟨by rw [ht], by rw [ht], by rw [ht], by assumption⟩
 obtain ⟨hD1, hD2, hD3, hD4⟩ := hC
 have hXw := T.TK o
 have hXo : X.out.length ≤ T.out.length + 1 := by rw [hD1]; exact T.Of o
 rw [← hD1] at hXw
 have hXF : X.Fit := hF.P3 hXw.1 hXw.2
 have hPl : ((AG.BP X.w X.own o.nth o.name o.Bm)).length ≤ 9 := AG.Qj.2.2
 refine CC (Gm rfl (Gt (BO rfl) (Gn (.t4 0 3 4 31) ?_)))
 refine Gc (fun c3 => ?_) (fun c3 => ?_)
 ·
  refine Ab (AD ?_)
  refine AY rfl .n ?_
  intro w1 hS
  have hS := (hS.perm (Av.perm (.c .h (.c .h .n)))).Ay
  have hq : T.Gx o = X := AG.Uv hD1 hD3 c3
  refine ⟨_, ⟨?gq1, rfl, ?hl1, ?hB1⟩, hS⟩
  case hB1 => rw [hq]; (try rfl)
  case hl1 => rw [hq]; exact hD4
 have c3p := kz c3
 obtain ⟨hgo, hn0, hn9, hok⟩ := AG.Rn hD1 hD2 hD3 c3
 refine Aa ?_
 refine AB (.t3 0 3 4) ?_
 refine AA (Ao ?_)
 refine BF (N := 11) [0, 0, 2, 0, 8, 0, 32, 0, 128, 511, 1023] mix (by kernel_rfl) rfl ?_
 refine Pf 0 rfl (AE rfl) (Pf 1 rfl (AE rfl) (Pf 3 rfl (Af Fz rfl) (Pf 4 rfl (AF rfl A1 .m2 Order.l1 rfl rfl) (Pf 5 rfl (Af FP rfl) (Pf 6 rfl (AF rfl CD .m2 Order.l3 rfl rfl) (Pf 7 rfl (Af Gb rfl) (Pf 8 rfl (AF rfl Cu .m2 Order.l2 rfl rfl) ?_)))))))
 refine An 2 rfl (by kernel_rfl) ?_
 refine Ah rfl TA (.c rfl .n) (.c .h .n) (HX _ X _ hXF) (fun v7 B hv => ?_)
 obtain ⟨y8, rfl, y9, rfl⟩ := hv
 refine Bp rfl ⟨?_, ?_⟩
 · exact (Po rfl (AF rfl Cu .m3 Order.l2 rfl rfl) rfl rfl (Po rfl (Af Gb rfl) rfl rfl (Po rfl (AF rfl CD .m3 Order.l3 rfl rfl) rfl rfl (Po rfl (Af FP rfl) rfl rfl (Po rfl (AF rfl A1 .m3 Order.l1 rfl rfl) rfl rfl (Po rfl (Af Fz rfl) rfl rfl (Pk (Po rfl (AE rfl) rfl rfl Au))))))))
 refine An 9 rfl (by kernel_rfl) ?_
 refine Ah rfl Ov (.c rfl (.c rfl (.c rfl (.c rfl (.c rfl .n))))) (.c .h (.c .h .n)) (Ee _ X _ _ X.own _ _ _ hXF (by assumption) (Nat.le_trans X.Ja (by decide)) (fun i hi => AG.Kr hi)) (fun v11 B hv => ?_)
 obtain ⟨y12, rfl, y13, rfl⟩ := hv
 refine Bp rfl ⟨?_, ?_⟩
 · exact (Pk (Pk (Pk (Pk (Pk (Pk (Pk (Pk Au))))))))
 refine Pf 10 rfl (Az rfl) ?_
 refine A2 (by kernel_rfl) ?_
 refine AB (.t4 0 3 4 6) ?_
 refine AA ?_
 refine Be (.t (.t (.t .h))) ?_
 refine Be (.t .h) ?_
 refine P5 (Lm := [_, _]) (fun (Z : AG) (m : Hd) => Z = X.P0 o ∧ m.len = Z.out.length) (fun (Z : AG) (m : Hd) => []) (fun (Z : AG) (m : Hd) => [Ac.box b 163 (Ad.enc ⟨Z.w, Z.b, m⟩), Ac.own m 56 16 (Z.out.flatMap Ing.Event.enc)]) (.t4 0 3 4 6) rfl ?_ (fun Z m hC => ?_)
 ·
  refine Gs (Gm rfl (Gt (Aq rfl Tryz.underlying169 rfl) (Gt (Ag rfl rfl) (Gn (.t5 0 3 4 6 44) ?_))))
  refine Gc (fun c4 => ?_) (fun c4 => ?_)
  ·
   have c4p := kz c4
   rw [y13] at c4
   refine AI (Gm rfl ?_)
   refine Ah rfl Dz (.c rfl (.c rfl .n)) (.c .h (.c .h .n)) (Ba _ X _ _ (by assumption) (by rw [hXw.2]; exact hb) (by omega)) (fun v15 B hv => ?_)
   obtain ⟨y16, rfl, y17, rfl⟩ := hv
   refine AP (AB (.t4 0 3 4 6) ?_)
   refine EI _ _ ?_ (.t4 0 3 4 6) (.refl _)
   · exact ⟨(AG.Y5 (T := X) (o := o) c4).symm, by assumption⟩
  rw [y13] at c4
  refine Aa ?_
  refine AB (.t4 0 3 4 6) ?_
  refine EI _ _ ?_ (.t4 0 3 4 6) (.refl _)
  · exact ⟨(AG.Yo (T := X) (o := o) c4).symm, by exact hD4⟩
 obtain ⟨hE1, hE2⟩ := hC
 refine Gs (Gm rfl (Gt (Aq rfl Tryz.underlying169 rfl) (Gm rfl (Gn (.t6 0 3 4 47 48 49) (Ae ?_)))))
 refine Bn (.t6 49 0 3 4 47 48) ?_
 refine Be (.t .h) ?_
 refine Be (.t .h) ?_
 refine Dk (fun (k : Int) (V : AG) (f : Hd) => 0 ≤ k ∧ V = X.Pv to o k.toNat ∧ k ≤ ((AG.BP X.w X.own o.nth o.name o.Bm).length : Int) ∧ f.len = V.out.length) (fun (k : Int) (V : AG) (f : Hd) => (((AG.BP X.w X.own o.nth o.name o.Bm).length : Int) - k).toNat) (fun (k : Int) (V : AG) (f : Hd) => [(49, .int .i64 k)]) (fun (k : Int) (V : AG) (f : Hd) => [Ac.box b 163 (Ad.enc ⟨V.w, V.b, f⟩), Ac.own f 56 16 (V.out.flatMap Ing.Event.enc)]) (0) (_) (_) ?_ rfl rfl (fun k V f hI1 => ?_)
 · exact ⟨by omega, hE1, by omega, hE2⟩
 obtain ⟨hI11, hI12, hI13, hI14⟩ := hI1
 refine Gs (Gt (A5 rfl rfl) (AP (AA (Ao ?_))))
 refine Gc (fun c5 => ?_) (fun c5 => ?_)
 ·
  have c5p := kz c5
  have hx : 0 ≤ ((AG.BP X.w X.own o.nth o.name o.Bm).getD k.toNat 0) ∧ ((AG.BP X.w X.own o.nth o.name o.Bm).getD k.toNat 0) < 9 := AG.Kr (AG.Ef (Bc.Ec (xs := (AG.BP X.w X.own o.nth o.name o.Bm)) (i := k.toNat) (by omega)))
  have hVK := AG.VG X to o k.toNat
  rw [← hI12] at hVK
  have hVb := hVK.2
  have hVo := hVK.1
  have hbV : 0 ≤ V.b ∧ V.b < 6 := by rw [hVb, hXw.2]; exact hb
  refine Aa ?_
  refine AB (.t6 0 3 4 47 48 49) ?_
  refine AA (Ao (Ae (Gs ?_)))
  refine Gt (Bo F1 (by decide) (Kn.own .m3) rfl rfl (by omega) (by omega)) ?_
  refine Gt (C7 rfl A1 (Kn.own .m3) (by omega)) ?_
  refine Ga rfl (Gn (.t7 0 3 4 8 47 48 49) (Gs (Gm rfl (Gm rfl (Gt (BS rfl) (Gt (Af A6 rfl) (Gt (Af Cq rfl) ?_)))))))
  refine Gt (AR Ff rfl rfl (by first | omega | exact hbV.1 | exact hbV.2 | (dsimp only; omega)) (by first | omega | exact hbV.1 | exact hbV.2 | (dsimp only; omega))) ?_
  refine Ga rfl (Gn (.t8 0 3 4 8 9 47 48 49) (Ae (Gs (Gm rfl (Gt (BS rfl) (Gt (Af GG rfl) ?_))))))
  refine Gt (AF rfl A1 .m0 (((Ad.l0.comp AH.l1).comp (AS.ar (n := 9) Al.fl (by first | omega | exact hbV | (dsimp only; omega)))).comp Al.l1) rfl rfl) ?_
  refine Gt (Ag rfl rfl) (Gm rfl (BZ 87 rfl rfl (fun q => AE rfl) (BZ 87 rfl rfl (fun q => BS (BV rfl q)) (BZ 87 rfl rfl (fun q => Af Fg (BV rfl q)) ?_))))
  refine BZ 87 rfl rfl (fun q => by have q1 := q; (try simp at q1); exact AF (BV rfl q) Cu .m0 (((Ad.l0.comp AH.l1).comp (AS.ar (n := 9) Al.fl (by first | omega | exact hbV | (dsimp only; omega)))).comp Al.l4) rfl rfl) ?_
  refine Gt (BG rfl rfl (fun h => h)) (Ga rfl (Gn (.t9 0 3 4 8 9 47 48 49 81) ?_))
  refine Gc (fun c6 => ?_) (fun c6 => ?_)
  ·
   have c6p := kz c6
   refine AI (Gm rfl ?_)
   refine Ah rfl Dz (.c rfl (.c rfl .n)) (.c .h (.c .h .n)) (Ba _ V _ _ (by assumption) hbV (by omega)) (fun v18 B hv => ?_)
   obtain ⟨y19, rfl, y20, rfl⟩ := hv
   refine AP (AB (.t6 0 3 4 47 48 49) ?_)
   refine AT (AT (AA (AI ?_)))
   refine Gt (Aw rfl rfl (IntWalk.i64_in _ (by first | omega | exact hbV.1 | exact hbV.2 | (dsimp only; omega)))) ?_
   refine Gm rfl ?_
   refine AP (AB (.t6 0 3 4 47 48 49) ?_)
   refine Bw (k + 1) _ _ ?_ ?_ (.t6 49 0 3 4 47 48) (.refl _)
   · have hq : V.DX o.verb to ((AG.BP X.w X.own o.nth o.name o.Bm).getD k.toNat 0) = _ := (BA c6)
     (try rw [AG.Dl hx.1 hx.2] at *)
     (try rw [AG.DL hx.1 hx.2 hn0] at *)
     exact ⟨by omega, (by (try rw [AG.Dl hx.1 hx.2]); (try rw [AG.DL hx.1 hx.2 hn0]); exact hq.symm.trans ((congrArg (fun q => AG.DX q o.verb to ((AG.BP X.w X.own o.nth o.name o.Bm).getD k.toNat 0)) hI12).trans (AG.Hu hI11 (by show k < (((AG.BP X.w X.own o.nth o.name o.Bm)).length : Int); omega)).symm)), by omega, by assumption⟩
   · omega
  have c6p := kz c6
  refine Gs (Gt (Af C3 rfl) (Gt (AF rfl A1 .m4 Order.l0 rfl rfl) (Gt (Ag rfl rfl) (Ga rfl (Gn (.t9 0 3 4 8 9 47 48 49 95) ?_)))))
  refine Gc (fun c7 => ?_) (fun c7 => ?_)
  ·
   have c7p := kz c7
   refine Ao ?_
   refine BF (N := 19) [0, 0, 0, 0, 8, 24, 56, 4, 132, 388, 1020, 2044, 4092, 8189, 16381, 32765, 65535, 131071, 262143] mix (by kernel_rfl) rfl ?_
   refine Pf 0 rfl (AE rfl) (Pf 1 rfl (AE rfl) (Pf 2 rfl (AE rfl) (Pf 3 rfl (AE rfl) (Pf 4 rfl (BS rfl) (Pf 5 rfl (Af CN rfl) (Pf 6 rfl (AF rfl A1 .m0 Ad.l1 rfl rfl) (Pf 7 rfl (BS rfl) ?_)))))))
   refine Pf 8 rfl (Af A6 rfl) (Pf 9 rfl (Af Bj rfl) ?_)
   refine Pf 10 rfl (AR Cz rfl rfl (by first | omega | exact hbV.1 | exact hbV.2 | (dsimp only; omega)) (by first | omega | exact hbV.1 | exact hbV.2 | (dsimp only; omega))) ?_
   refine Pf 11 rfl (Af Cx rfl) ?_
   refine Pf 12 rfl (AF rfl A1 .m0 (((Ad.l0.comp AH.l2).comp (AS.ar (n := 6) Am.fl (by first | omega | exact hbV | (dsimp only; omega)))).comp Am.l3) rfl rfl) ?_
   refine Pf 13 rfl (BS rfl) (Pf 14 rfl (Af FB rfl) ?_)
   refine An 15 rfl (by kernel_rfl) ?_
   refine AQ (AJ (((Ad.l0.comp AH.l1).comp (AS.ar (n := 9) Al.fl (by first | omega | exact hbV | (dsimp only; omega)))).comp Al.l2) rfl rfl rfl C4 rfl .h) ?_
   refine BL rfl ⟨?_, ?_⟩
   · exact (Pk (Pk (Pk (Pk (Pk (Pk (Pk (Pk (Pk (Pk (Pk (Pk (Pk (Po rfl (AE rfl) rfl rfl (Pk Au)))))))))))))))
   refine Pf 16 rfl (BS rfl) (Pf 17 rfl (Af C8 rfl) ?_)
   refine An 18 rfl (by kernel_rfl) ?_
   refine AQ (AJ (((Ad.l0.comp AH.l1).comp (AS.ar (n := 9) Al.fl (by first | omega | exact hbV | (dsimp only; omega)))).comp Al.l3) rfl rfl rfl C4 rfl .h) ?_
   refine BL rfl ⟨?_, ?_⟩
   · exact (Pk (Pk (Pk (Pk (Pk (Pk (Pk (Pk (Pk (Pk (Pk (Pk (Pk (Pk (Pk (Pk (Pk Au)))))))))))))))))
   refine A2 (by kernel_rfl) ?_
   refine AB (.t7 0 3 4 8 47 48 49) ?_
   refine AA ?_
   refine Fq (fun _ => .h) (congrArg (fun q => Ad.enc ⟨q, _, _⟩) (AG.Gq V hx.1 hx.2 0 (V.w.AW.at V.b).room)) ?_
   refine AI (Gm rfl (Gm rfl ?_))
   refine Ah rfl M6 (.c rfl (.c rfl (.c rfl .n))) (.c .h (.c .h .n)) (Dp _ (V.place ((AG.BP X.w X.own o.nth o.name o.Bm).getD k.toNat 0) 0 (V.w.AW.at V.b).room) _ 4 ((AG.BP X.w X.own o.nth o.name o.Bm).getD k.toNat 0) (by assumption) hbV hx (show V.out.length ≤ 100000 by omega)) (fun v21 B hv => ?_)
   obtain ⟨y22, rfl, y23, rfl⟩ := hv
   refine AP (AB (.t6 0 3 4 47 48 49) ?_)
   refine AT (AT (AA (AI ?_)))
   refine Gt (Aw rfl rfl (IntWalk.i64_in _ (by first | omega | exact hbV.1 | exact hbV.2 | (dsimp only; omega)))) ?_
   refine Gm rfl ?_
   refine AP (AB (.t6 0 3 4 47 48 49) ?_)
   refine Bw (k + 1) _ _ ?_ ?_ (.t6 49 0 3 4 47 48) (.refl _)
   · have hq : V.DX o.verb to ((AG.BP X.w X.own o.nth o.name o.Bm).getD k.toNat 0) = _ := ((AU c6).trans (BA c7))
     (try rw [AG.Dl hx.1 hx.2] at *)
     (try rw [AG.DL hx.1 hx.2 hn0] at *)
     exact ⟨by omega, (by (try rw [AG.Dl hx.1 hx.2]); (try rw [AG.DL hx.1 hx.2 hn0]); exact hq.symm.trans ((congrArg (fun q => AG.DX q o.verb to ((AG.BP X.w X.own o.nth o.name o.Bm).getD k.toNat 0)) hI12).trans (AG.Hu hI11 (by show k < (((AG.BP X.w X.own o.nth o.name o.Bm)).length : Int); omega)).symm)), by omega, by assumption⟩
   · omega
  have c7p := kz c7
  refine Gs (Gt (Af C3 rfl) (Gt (AF rfl A1 .m4 Order.l0 rfl rfl) (Gt (Ag rfl rfl) (Ga rfl (Gn (.t9 0 3 4 8 9 47 48 49 119) ?_)))))
  refine Gc (fun c8 => ?_) (fun c8 => ?_)
  ·
   have c8p := kz c8
   refine Gs (Gm rfl (Gm rfl (Gm rfl (Gt (BS rfl) (Gt (Af FB rfl) ?_)))))
   refine AQ (AJ (((Ad.l0.comp AH.l1).comp (AS.ar (n := 9) Al.fl (by first | omega | exact hbV | (dsimp only; omega)))).comp Al.l2) rfl rfl rfl C4 rfl .h) ?_
   refine Gt (BS rfl) (Gt (Af C8 rfl) ?_)
   refine AQ (AJ (((Ad.l0.comp AH.l1).comp (AS.ar (n := 9) Al.fl (by first | omega | exact hbV | (dsimp only; omega)))).comp Al.l3) rfl rfl rfl C4 rfl .h) ?_
   refine Gn (.t7 0 3 4 9 47 48 49) ?_
   refine Fq (fun _ => .h) (congrArg (fun q => Ad.enc ⟨q, _, _⟩) (AG.Gq V hx.1 hx.2 1 to)) ?_
   refine AI (Gm rfl (Gm rfl (Gm rfl (Gt (BS rfl) (Gt (Af Li rfl) ?_)))))
   refine Gt (AF rfl CD .m0 (((Ad.l0.comp AH.l1).comp (AS.ar (n := 9) Al.fl (by first | omega | exact hbV | (dsimp only; omega)))).comp Al.l0) rfl rfl) ?_
   refine Gt (BC N6 Hb rfl (.cons Ing.Event.l0 rfl rfl rfl (.cons Ing.Event.l3 rfl rfl rfl (.cons Ing.Event.l8 rfl rfl rfl .nil)))) ?_
   refine Ah rfl NN (.c rfl (.c rfl .n)) (.c .h (.c .h .n)) (CL _ (V.place ((AG.BP X.w X.own o.nth o.name o.Bm).getD k.toNat 0) 1 to) _ { AG.GH 6 with other := to, B3 := ((V.place ((AG.BP X.w X.own o.nth o.name o.Bm).getD k.toNat 0) 1 to).w.AX.at ((AG.BP X.w X.own o.nth o.name o.Bm).getD k.toNat 0)).name } (by assumption) hbV (show to < 6 from (hok hv).cj (by omega)) (show V.out.length ≤ 100000 by omega)) (fun v24 B hv => ?_)
   obtain ⟨y25, rfl, y26, rfl⟩ := hv
   refine AP (AB (.t6 0 3 4 47 48 49) ?_)
   refine AT (AT (AA (AI ?_)))
   refine Gt (Aw rfl rfl (IntWalk.i64_in _ (by first | omega | exact hbV.1 | exact hbV.2 | (dsimp only; omega)))) ?_
   refine Gm rfl ?_
   refine AP (AB (.t6 0 3 4 47 48 49) ?_)
   refine Bw (k + 1) _ _ ?_ ?_ (.t6 49 0 3 4 47 48) (.refl _)
   · have hq : V.DX o.verb to ((AG.BP X.w X.own o.nth o.name o.Bm).getD k.toNat 0) = _ := ((AU c6).trans ((AU c7).trans (BA c8)))
     (try rw [AG.Dl hx.1 hx.2] at *)
     (try rw [AG.DL hx.1 hx.2 hn0] at *)
     exact ⟨by omega, (by (try rw [AG.Dl hx.1 hx.2]); (try rw [AG.DL hx.1 hx.2 hn0]); exact hq.symm.trans ((congrArg (fun q => AG.DX q o.verb to ((AG.BP X.w X.own o.nth o.name o.Bm).getD k.toNat 0)) hI12).trans (AG.Hu hI11 (by show k < (((AG.BP X.w X.own o.nth o.name o.Bm)).length : Int); omega)).symm)), by omega, by assumption⟩
   · omega
  have c8p := kz c8
  refine Gs (Gm rfl (Gt (BS rfl) (Gt (Af A6 rfl) (Gt (AZ rfl BT .m0 Ad.l0 rfl) (Gm rfl (Gm rfl ?_))))))
  refine A8 rfl aY (.c rfl (.c rfl (.c rfl .n))) (fun w hS => Lk _ _ _ w) ?_
  refine Ga rfl (Gn (.t8 0 3 4 9 47 48 49 138) ?_)
  refine Gc (fun c9 => ?_) (fun c9 => ?_)
  ·
   have c9p := kz c9
   refine AI (Gm rfl ?_)
   refine Ah rfl Dz (.c rfl (.c rfl .n)) (.c .h (.c .h .n)) (Ba _ V _ _ (by assumption) hbV (by omega)) (fun v27 B hv => ?_)
   obtain ⟨y28, rfl, y29, rfl⟩ := hv
   refine AP (AB (.t6 0 3 4 47 48 49) ?_)
   refine AT (AT (AA (AI ?_)))
   refine Gt (Aw rfl rfl (IntWalk.i64_in _ (by first | omega | exact hbV.1 | exact hbV.2 | (dsimp only; omega)))) ?_
   refine Gm rfl ?_
   refine AP (AB (.t6 0 3 4 47 48 49) ?_)
   refine Bw (k + 1) _ _ ?_ ?_ (.t6 49 0 3 4 47 48) (.refl _)
   · have hq : V.DX o.verb to ((AG.BP X.w X.own o.nth o.name o.Bm).getD k.toNat 0) = _ := ((AU c6).trans ((AU c7).trans ((AU c8).trans (BA c9))))
     (try rw [AG.Dl hx.1 hx.2] at *)
     (try rw [AG.DL hx.1 hx.2 hn0] at *)
     exact ⟨by omega, (by (try rw [AG.Dl hx.1 hx.2]); (try rw [AG.DL hx.1 hx.2 hn0]); exact hq.symm.trans ((congrArg (fun q => AG.DX q o.verb to ((AG.BP X.w X.own o.nth o.name o.Bm).getD k.toNat 0)) hI12).trans (AG.Hu hI11 (by show k < (((AG.BP X.w X.own o.nth o.name o.Bm)).length : Int); omega)).symm)), by omega, by assumption⟩
   · omega
  have c9p := kz c9
  refine Gs (Gm rfl (Gm rfl (Gm rfl (Gt (BS rfl) (Gt (Af FB rfl) ?_)))))
  refine AQ (AJ (((Ad.l0.comp AH.l1).comp (AS.ar (n := 9) Al.fl (by first | omega | exact hbV | (dsimp only; omega)))).comp Al.l2) rfl rfl rfl C4 rfl .h) ?_
  refine Gt (BS rfl) (Gt (Af C8 rfl) ?_)
  refine AQ (AJ (((Ad.l0.comp AH.l1).comp (AS.ar (n := 9) Al.fl (by first | omega | exact hbV | (dsimp only; omega)))).comp Al.l3) rfl rfl rfl C4 rfl .h) ?_
  refine Gn (.t7 0 3 4 9 47 48 49) ?_
  refine Fq (fun _ => .h) (congrArg (fun q => Ad.enc ⟨q, _, _⟩) (AG.Gq V hx.1 hx.2 2 to)) ?_
  refine BF (N := 15) [0, 0, 2, 6, 14, 0, 0, 32, 160, 416, 992, 2016, 4064, 8190, 16383] mix (by kernel_rfl) rfl ?_
  refine Pf 0 rfl (AE rfl) (Pf 1 rfl (AE rfl) (Pf 2 rfl (BS rfl) (Pf 3 rfl (Af Li rfl) ?_)))
  refine Pf 4 rfl (AF rfl CD .m0 (((Ad.l0.comp AH.l1).comp (AS.ar (n := 9) Al.fl (by first | omega | exact hbV | (dsimp only; omega)))).comp Al.l0) rfl rfl) ?_
  refine Pf 5 rfl (AE rfl) (Pf 6 rfl (AE rfl) (Pf 7 rfl (BS rfl) (Pf 8 rfl (Af A6 rfl) (Pf 9 rfl (Af Cq rfl) ?_))))
  refine Pf 10 rfl (AR Ff rfl rfl (by first | omega | exact hbV.1 | exact hbV.2 | (dsimp only; omega)) (by first | omega | exact hbV.1 | exact hbV.2 | (dsimp only; omega))) ?_
  refine Pf 11 rfl (Af Li rfl) ?_
  refine Pf 12 rfl (AF rfl CD .m0 (((Ad.l0.comp AH.l1).comp (AS.ar (n := 9) Al.fl (by first | omega | exact hbV | (dsimp only; omega)))).comp Al.l0) rfl rfl) ?_
  refine Pf 13 rfl (BC N6 Hb rfl (.cons Ing.Event.l0 rfl rfl rfl (.cons Ing.Event.l3 rfl rfl rfl (.cons Ing.Event.l8 rfl rfl rfl (.cons Ing.Event.l9 rfl rfl rfl .nil))))) ?_
  refine An 14 rfl (by kernel_rfl) ?_
  refine Ah rfl NN (.c rfl (.c rfl .n)) (.c .h (.c .h .n)) (CL _ (V.place ((AG.BP X.w X.own o.nth o.name o.Bm).getD k.toNat 0) 2 to) _ { AG.GH 5 with B3 := ((V.place ((AG.BP X.w X.own o.nth o.name o.Bm).getD k.toNat 0) 2 to).w.AX.at ((AG.BP X.w X.own o.nth o.name o.Bm).getD k.toNat 0)).name, text := ((V.place ((AG.BP X.w X.own o.nth o.name o.Bm).getD k.toNat 0) 2 to).w.AX.at to).name } (by assumption) hbV (show (-1 : Int) < 6 by decide) (show V.out.length ≤ 100000 by omega)) (fun v30 B hv => ?_)
  obtain ⟨y31, rfl, y32, rfl⟩ := hv
  refine Bp rfl ⟨?_, ?_⟩
  · exact (Pk (Pk (Pk (Pk (Pk (Pk (Pk (Pk (Pk (Pk (Pk (Pk (Pk (Pk Au))))))))))))))
  refine A2 (by kernel_rfl) ?_
  refine AB (.t6 0 3 4 47 48 49) ?_
  refine AT (AT (AA (AI ?_)))
  refine Gt (Aw rfl rfl (IntWalk.i64_in _ (by first | omega | exact hbV.1 | exact hbV.2 | (dsimp only; omega)))) ?_
  refine Gm rfl ?_
  refine AP (AB (.t6 0 3 4 47 48 49) ?_)
  refine Bw (k + 1) _ _ ?_ ?_ (.t6 49 0 3 4 47 48) (.refl _)
  · have hq : V.DX o.verb to ((AG.BP X.w X.own o.nth o.name o.Bm).getD k.toNat 0) = _ := ((AU c6).trans ((AU c7).trans ((AU c8).trans (AU c9))))
    (try rw [AG.Dl hx.1 hx.2] at *)
    (try rw [AG.DL hx.1 hx.2 hn0] at *)
    exact ⟨by omega, (by (try rw [AG.Dl hx.1 hx.2]); (try rw [AG.DL hx.1 hx.2 hn0]); exact hq.symm.trans ((congrArg (fun q => AG.DX q o.verb to ((AG.BP X.w X.own o.nth o.name o.Bm).getD k.toNat 0)) hI12).trans (AG.Hu hI11 (by show k < (((AG.BP X.w X.own o.nth o.name o.Bm)).length : Int); omega)).symm)), by omega, by assumption⟩
  · omega
 have c5p := kz c5
 obtain rfl : k = ((AG.BP X.w X.own o.nth o.name o.Bm).length : Int) := by omega
 refine Bb (AV (AV (Aj ?_)))
 refine Bg rfl .n ?_
 intro w1 hS
 have hS := (hS.perm (Av.perm (.c .h (.c .h .n)))).Ay
 have hq : T.Gx o = V := hgo.trans (hI12.trans AG.VK).symm
 refine ⟨_, ⟨?gq2, rfl, ?hl2, ?hB2⟩, hS⟩
 case hB2 => rw [hq]; (try rfl)
 case hl2 => rw [hq]; exact hI14
theorem I4 (s : As) (w : World) (gl0 : GV 0 AH.C6 w) : EF Tryz.prog 138 #[BQ s] w fun v w' => v = .tuple #[.int .i64 (Words.dir s).1, .bool (Words.dir s).2] ∧ B6 w w' := by
 refine Ai [] [] Tryz.func138 rfl rfl rfl (St.start w []) ?_
 refine Gs (Ga rfl (Ga rfl (Gn (.t1 0) (CC (Gm rfl (AP (AA ?_)))))))
 refine Ae ?_
 refine Bn (.t2 5 0) ?_
 refine CS (fun (k : Int) => 0 ≤ k ∧ k ≤ 6 ∧ Words.Nt s 6 = Words.Nt s (6 - k).toNat) (fun (k : Int) => (6 - k).toNat) (fun (k : Int) => [(5, .int .i64 k)]) (fun (k : Int) => []) (0) ?_ rfl rfl (fun k hI1 => ?_)
 · exact ⟨by omega, by omega, rfl⟩
 obtain ⟨hI11, hI12, hI13⟩ := hI1
 refine Gs (Gt (A5 rfl rfl) (AP (AA (Ao ?_))))
 refine Gc (fun c1 => ?_) (fun c1 => ?_)
 ·
  have c1p := kz c1
  rw [Words.UM hI11 (by omega)] at hI13
  refine Aa ?_
  refine AB (.t2 0 5) ?_
  refine AA (Ao (Ae (Gs (Gm rfl (Ga rfl (Gn (.t3 0 4 5) (Gs ?_)))))))
  refine Gm rfl ?_
  refine Gt (AR WB rfl rfl (by omega) (by omega)) ?_
  refine Gt (QN gl0 rfl CD (AH.Np (by omega) (by omega))) ?_
  refine Gm rfl (Gt (Bl rfl rfl) (Gn (.t4 0 4 5 12) ?_))
  refine Gc (fun c2 => ?_) (fun c2 => ?_)
  ·
   refine Gs (Gm rfl (Ga rfl (Ga rfl (Gn (.t2 2 3) (Ab (AO (AD ?_)))))))
   refine AD (AO (AD ?_))
   refine AY rfl (.tmp rfl (.tmp rfl .n)) ?_
   intro w1 hS; refine ⟨?_, hS.Ak⟩; rw [Words.dir, hI13, BA c2]; rfl
  have c2p := kz c2
  refine Aa ?_
  refine AB (.t2 0 5) ?_
  refine AT (AA (AI ?_))
  refine Gt (Aw rfl rfl (IntWalk.i64_in _ (by omega))) ?_
  refine Gm rfl ?_
  refine AP (AB (.t2 0 5) ?_)
  refine B2 (k + 1) ?_ ?_ (.t2 5 0) (.refl _)
  · exact ⟨by omega, by omega, by rw [hI13, AU c2]⟩
  · omega
 have c1p := kz c1
 obtain rfl : k = 6 := by omega
 refine Bb (AV (AV (Aj ?_)))
 refine AB (.nil _) ?_
 refine AA (Gs (Ga rfl (Ga rfl (AP (AA (Ab ?_))))))
 refine AY rfl (.tmp rfl (.tmp rfl .n)) ?_
 intro w1 hS; refine ⟨?_, hS.Ak⟩; rw [Words.dir, hI13]; rfl
theorem QQ (b : Nat) (T : AG) (g : Hd) (d : Int) (p : Bool) (k : Int) (hg : g.len = T.out.length) (hF : T.Fit) (hd : 0 ≤ d ∧ d < 6) (hn : T.out.length ≤ 90000) : II Tryz.prog 139 #[.pointer (some ⟨b, 0, none⟩), .int .i64 d, .bool p, .int .i64 k] [Ac.box b 163 (Ad.enc ⟨T.w, T.b, g⟩), Ac.own g 56 16 (T.out.flatMap Ing.Event.enc)] (fun v B => ∃ g' : Hd, v = .tuple #[] ∧ g'.len = (T.JP d p k).out.length ∧ B = [Ac.box b 163 (Ad.enc ⟨(T.JP d p k).w, (T.JP d p k).b, g'⟩), Ac.own g' 56 16 ((T.JP d p k).out.flatMap Ing.Event.enc)]) := by
 intro w hS0
 have hb := hF.b
 have hr := hF.room
 have hx := hF.exit hd.1 hd.2
 have hop := AH.Pu d
 refine Ai _ _ Tryz.func139 rfl rfl rfl (hS0) ?_
 refine Ao ?_
 refine BF (N := 12) [0, 0, 2, 6, 14, 1, 33, 97, 255, 511, 1023, 2047] mix (by kernel_rfl) rfl ?_
 refine Pf 0 rfl (AE rfl) (Pf 1 rfl (AE rfl) (Pf 2 rfl (BS rfl) (Pf 3 rfl (Af CN rfl) (Pf 4 rfl (AF rfl A1 .m0 Ad.l1 rfl rfl) (Pf 5 rfl (BS rfl) (Pf 6 rfl (Af A6 rfl) (Pf 7 rfl (Af Bj rfl) ?_)))))))
 refine Pf 8 rfl (AR Cz rfl rfl (by first | omega | exact hb.1 | exact hb.2 | exact hr.1 | exact hr.2 | (dsimp only; omega)) (by first | omega | exact hb.1 | exact hb.2 | exact hr.1 | exact hr.2 | (dsimp only; omega))) ?_
 refine Pf 9 rfl (Af Cx rfl) ?_
 refine Pf 10 rfl (AF rfl A1 .m0 (((Ad.l0.comp AH.l2).comp (AS.ar (n := 6) Am.fl (by first | omega | exact hb | exact hr | (dsimp only; omega)))).comp Am.l3) rfl rfl) ?_
 refine Pf 11 rfl (Az rfl) ?_
 refine A2 (by kernel_rfl) ?_
 refine AB (.t5 0 1 2 3 8) ?_
 refine AA (Gs (Gm rfl (Gm rfl (Gm rfl (Gt (BS rfl) (Gt (Af A6 rfl) (Gt (Af GI rfl) ?_)))))))
 refine Gt (AR Nd rfl rfl (by first | omega | exact hb.1 | exact hb.2 | exact hr.1 | exact hr.2 | (dsimp only; omega)) (by first | omega | exact hb.1 | exact hb.2 | exact hr.1 | exact hr.2 | (dsimp only; omega))) ?_
 refine Gt (Af LZ rfl) ?_
 refine Gt (AR RM rfl rfl (by first | omega | exact hb.1 | exact hb.2 | exact hr.1 | exact hr.2 | (dsimp only; omega)) (by first | omega | exact hb.1 | exact hb.2 | exact hr.1 | exact hr.2 | (dsimp only; omega))) ?_
 refine Gt (AF rfl A1 .m0 ((((Ad.l0.comp AH.l0).comp (AS.ar (n := 6) Room.fl (by first | omega | exact hb | exact hr | (dsimp only; omega)))).comp Room.l2).comp (AS.ar (n := 6) B0 (by first | omega | exact hb | exact hr | (dsimp only; omega)))) rfl rfl) ?_
 refine Gt (E2 rfl rfl (IntWalk.i64_in _ (by first | omega | exact hb.1 | exact hb.2 | exact hr.1 | exact hr.2 | (dsimp only; omega)))) ?_
 refine Ga rfl (Gn (.t6 0 1 2 3 8 9) (Ae (Gs (Gm rfl (Gt (A5 rfl rfl) (Ga rfl (Gn (.t7 0 1 2 3 8 9 74) ?_)))))))
 refine Gc (fun c1 => ?_) (fun c1 => ?_)
 ·
  have c1p := kz c1
  try dsimp only at c1p
  refine AI (Gm rfl ?_)
  refine Ah rfl Dz (.c rfl (.c rfl .n)) (.c .h (.c .h .n)) (Ba _ _ _ _ hg hb (by omega)) (fun v1 B hv => ?_)
  obtain ⟨y2, rfl, y3, rfl⟩ := hv
  refine AP (AB (.nil _) ?_)
  refine AT ?_
  refine Bg rfl .n ?_
  intro w1 hS
  have hS := (hS.perm (Av.perm (.c .h (.c .h .n)))).Ay
  have hq : T.JP d p k = _ := (BA c1)
  refine ⟨_, ⟨?gq1, rfl, ?hl1, ?hB1⟩, hS⟩
  case hB1 => rw [hq]; (try rfl)
  case hl1 => rw [hq]; assumption
 have c1p := kz c1
 try dsimp only at c1p
 refine Gs (Gm rfl (Gm rfl (Gm rfl (Gt (BS rfl) (Gt (Af A6 rfl) (Gt (Af GI rfl) ?_))))))
 refine Gt (AR Nd rfl rfl (by first | omega | exact hb.1 | exact hb.2 | exact hr.1 | exact hr.2 | (dsimp only; omega)) (by first | omega | exact hb.1 | exact hb.2 | exact hr.1 | exact hr.2 | (dsimp only; omega))) ?_
 refine Gt (Af La rfl) ?_
 refine Gt (AR Ue rfl rfl (by first | omega | exact hb.1 | exact hb.2 | exact hr.1 | exact hr.2 | (dsimp only; omega)) (by first | omega | exact hb.1 | exact hb.2 | exact hr.1 | exact hr.2 | (dsimp only; omega))) ?_
 refine Gt (AF rfl Cu .m0 ((((Ad.l0.comp AH.l0).comp (AS.ar (n := 6) Room.fl (by first | omega | exact hb | exact hr | (dsimp only; omega)))).comp Room.l3).comp (AS.ar (n := 6) Gf (by first | omega | exact hb | exact hr | (dsimp only; omega)))) rfl rfl) ?_
 refine Gm rfl (Gt (I5 Tryz.underlying4 rfl rfl) (Ga rfl (Gn (.t7 0 1 2 3 8 9 79) ?_)))
 refine Gc (fun c2 => ?_) (fun c2 => ?_)
 ·
  have c2p := kz c2
  try dsimp only at c2p
  refine AI (Gm rfl ?_)
  refine Ah rfl Dz (.c rfl (.c rfl .n)) (.c .h (.c .h .n)) (Ba _ _ _ _ hg hb (by omega)) (fun v4 B hv => ?_)
  obtain ⟨y5, rfl, y6, rfl⟩ := hv
  refine AP (AB (.nil _) ?_)
  refine AT ?_
  refine Bg rfl .n ?_
  intro w1 hS
  have hS := (hS.perm (Av.perm (.c .h (.c .h .n)))).Ay
  have hq : T.JP d p k = _ := ((AU c1).trans (BA c2))
  refine ⟨_, ⟨?gq2, rfl, ?hl2, ?hB2⟩, hS⟩
  case hB2 => rw [hq]; (try rfl)
  case hl2 => rw [hq]; assumption
 have c2p := kz c2
 try dsimp only at c2p
 refine Gs (Gm rfl (Gm rfl (Gm rfl (Gm rfl (Gt (BO rfl) (Gt (BS rfl) (Gt (Af A6 rfl) ?_)))))))
 refine Gt (Af GI rfl) ?_
 refine Gt (AR Nd rfl rfl (by first | omega | exact hb.1 | exact hb.2 | exact hr.1 | exact hr.2 | (dsimp only; omega)) (by first | omega | exact hb.1 | exact hb.2 | exact hr.1 | exact hr.2 | (dsimp only; omega))) ?_
 refine Gt (Af La rfl) ?_
 refine Gt (AR Ue rfl rfl (by first | omega | exact hb.1 | exact hb.2 | exact hr.1 | exact hr.2 | (dsimp only; omega)) (by first | omega | exact hb.1 | exact hb.2 | exact hr.1 | exact hr.2 | (dsimp only; omega))) ?_
 refine AQ (AJ ((((Ad.l0.comp AH.l0).comp (AS.ar (n := 6) Room.fl (by first | omega | exact hb | exact hr | (dsimp only; omega)))).comp Room.l3).comp (AS.ar (n := 6) Gf (by first | omega | exact hb | exact hr | (dsimp only; omega)))) rfl rfl rfl Ju rfl .h) ?_
 refine Gn (.t6 0 1 2 3 8 9) (CC (Gm rfl ?_))
 refine A8 rfl X6 (.c rfl .n) (fun w hS => Gy _ w) ?_
 refine Ga rfl (Gn (.t6 0 2 3 8 9 10) (Gs (Gm rfl (Gm rfl (Gm rfl (Gt (BS rfl) (Gt (Af A6 rfl) ?_)))))))
 refine Gt (Af GI rfl) ?_
 refine Gt (AR Nd rfl rfl (by first | omega | exact hb.1 | exact hb.2 | exact hr.1 | exact hr.2 | (dsimp only; omega)) (by first | omega | exact hb.1 | exact hb.2 | exact hr.1 | exact hr.2 | (dsimp only; omega))) ?_
 refine Gt (Af LZ rfl) ?_
 refine Gt (AR RM rfl rfl (by first | omega | exact hb.1 | exact hb.2 | exact hr.1 | exact hr.2 | (dsimp only; omega)) (by first | omega | exact hb.1 | exact hb.2 | exact hr.1 | exact hr.2 | (dsimp only; omega))) ?_
 refine Gt (AF rfl A1 .m0 ((((Ad.l0.comp AH.l0).comp (AS.ar (n := 6) Room.fl (by first | omega | exact hb | exact hr | (dsimp only; omega)))).comp Room.l2).comp (AS.ar (n := 6) B0 (by first | omega | exact hb | exact hr | (dsimp only; omega)))) rfl rfl) ?_
 refine Gm rfl ?_
 refine Gt (Aw rfl rfl (IntWalk.i64_in _ (by first | omega | exact hb.1 | exact hb.2 | exact hr.1 | exact hr.2 | (dsimp only; omega)))) ?_
 refine Gt (Ag rfl rfl) (Gn (.t6 0 2 3 9 10 58) ?_)
 refine Gc (fun c3 => ?_) (fun c3 => ?_)
 ·
  have c3p := kz c3
  try dsimp only at c3p
  refine AI (Gm rfl (Gm rfl (Gm rfl (Gm rfl (Gt (BO rfl) (Gt (BS rfl) (Gt (Af A6 rfl) ?_)))))))
  refine Gt (Af GI rfl) ?_
  refine Gt (AR Nd rfl rfl (by first | omega | exact hb.1 | exact hb.2 | exact hr.1 | exact hr.2 | (dsimp only; omega)) (by first | omega | exact hb.1 | exact hb.2 | exact hr.1 | exact hr.2 | (dsimp only; omega))) ?_
  refine Gt (Af La rfl) ?_
  refine Gt (AR Ue rfl rfl (by first | omega | exact hb.1 | exact hb.2 | exact hr.1 | exact hr.2 | (dsimp only; omega)) (by first | omega | exact hb.1 | exact hb.2 | exact hr.1 | exact hr.2 | (dsimp only; omega))) ?_
  refine AQ (AJ ((((Ad.l0.comp AH.l0).comp (AS.ar (n := 6) Room.fl (by first | omega | exact hb | exact hr | (dsimp only; omega)))).comp Room.l3).comp (AS.ar (n := 6) Gf (by first | omega | exact hb | exact hr | (dsimp only; omega)))) rfl rfl rfl Ju rfl .h) ?_
  refine Gn (.t2 0 3) (AI (Gm rfl (Gm rfl (Gt (BC N6 Hb rfl (.cons Ing.Event.l0 rfl rfl rfl (.cons Ing.Event.l3 rfl rfl rfl (.cons Ing.Event.l8 rfl rfl rfl .nil)))) ?_))))
  refine Ah rfl NN (.c rfl (.c rfl .n)) (.c .h (.c .h .n)) (CL _ (AG.Fv (T.Fv T.me.room d (!p)) ((T.w.Bz.at (T.w.AW.at T.b).room).Da.at d - 1) (AH.opposite d) (!p)) _ { AG.GH k with B3 := AG.Oi } hg hb (show (-1 : Int) < 6 by decide) (show T.out.length ≤ 100000 by omega)) (fun v7 B hv => ?_)
  obtain ⟨y8, rfl, y9, rfl⟩ := hv
  refine AP (AB (.nil _) ?_)
  refine AT ?_
  refine Bg rfl .n ?_
  intro w1 hS
  have hS := (hS.perm (Av.perm (.c .h (.c .h .n)))).Ay
  have hq : T.JP d p k = _ := (show T.JP d p k = _ from (AU c1).trans (AU c2)).trans (congrArg (fun q => AG.Bk q { AG.GH k with B3 := AG.Oi }) (BA c3))
  refine ⟨_, ⟨?gq3, rfl, ?hl3, ?hB3⟩, hS⟩
  case hB3 => rw [hq]; (try rfl)
  case hl3 => rw [hq]; assumption
 have c3p := kz c3
 try dsimp only at c3p
 refine Aa ?_
 refine AB (.t2 0 3) ?_
 refine AA (AI (Gm rfl (Gm rfl (Gt (BC N6 Hb rfl (.cons Ing.Event.l0 rfl rfl rfl (.cons Ing.Event.l3 rfl rfl rfl (.cons Ing.Event.l8 rfl rfl rfl .nil)))) ?_))))
 refine Ah rfl NN (.c rfl (.c rfl .n)) (.c .h (.c .h .n)) (CL _ (T.Fv T.me.room d (!p)) _ { AG.GH k with B3 := AG.Oi } hg hb (show (-1 : Int) < 6 by decide) (show T.out.length ≤ 100000 by omega)) (fun v10 B hv => ?_)
 obtain ⟨y11, rfl, y12, rfl⟩ := hv
 refine AP (AB (.nil _) ?_)
 refine AT ?_
 refine Bg rfl .n ?_
 intro w1 hS
 have hS := (hS.perm (Av.perm (.c .h (.c .h .n)))).Ay
 have hq : T.JP d p k = _ := (show T.JP d p k = _ from (AU c1).trans (AU c2)).trans (congrArg (fun q => AG.Bk q { AG.GH k with B3 := AG.Oi }) (AU c3))
 refine ⟨_, ⟨?gq4, rfl, ?hl4, ?hB4⟩, hS⟩
 case hB4 => rw [hq]; (try rfl)
 case hl4 => rw [hq]; assumption
theorem FT (b : Nat) (T : AG) (g : Hd) (a : Bool) (i : Int) (p : Bool) (k : Int) (hg : g.len = T.out.length) (hb : 0 ≤ T.b ∧ T.b < 6) (hi : 0 ≤ i ∧ i < 9) (hn : T.out.length ≤ 90000) : II Tryz.prog 140 #[.pointer (some ⟨b, 0, none⟩), .bool a, .int .i64 i, .bool p, .int .i64 k] [Ac.box b 163 (Ad.enc ⟨T.w, T.b, g⟩), Ac.own g 56 16 (T.out.flatMap Ing.Event.enc)] (fun v B => ∃ g' : Hd, v = .tuple #[] ∧ g'.len = (T.before a i p k).out.length ∧ B = [Ac.box b 163 (Ad.enc ⟨(T.before a i p k).w, (T.before a i p k).b, g'⟩), Ac.own g' 56 16 ((T.before a i p k).out.flatMap Ing.Event.enc)]) := by
 intro w hS0
 refine Ai _ _ Tryz.func140 rfl rfl rfl (hS0) ?_
 refine CC (Gm rfl (Gn (.t5 0 2 3 4 10) ?_))
 refine Gc (fun c1 => ?_) (fun c1 => ?_)
 ·
  have c1p := kz c1
  refine Gs (Gm rfl (Gm rfl (Gm rfl (Gt (BS rfl) (Gt (Af A6 rfl) (Gt (Af Cq rfl) ?_))))))
  refine Gt (AR Ff rfl rfl (by first | omega | exact hb.1 | exact hb.2 | (dsimp only; omega)) (by first | omega | exact hb.1 | exact hb.2 | (dsimp only; omega))) ?_
  refine Gt (Af Fg rfl) ?_
  refine AQ (AJ (((Ad.l0.comp AH.l1).comp (AS.ar (n := 9) Al.fl (by first | omega | exact hb | (dsimp only; omega)))).comp Al.l4) rfl rfl rfl Ju rfl .h) ?_
  refine Gn (.t3 0 2 4) (Gs (Gm rfl (Gm rfl (Gm rfl ?_))))
  refine Ah rfl M6 (.c rfl (.c rfl (.c rfl .n))) (.c .h (.c .h .n)) (Dp _ (T.D9 i { T.w.AX.at i with on := p }) _ k i hg hb hi (show T.out.length ≤ 100000 by omega)) (fun v1 B hv => ?_)
  obtain ⟨y2, rfl, y3, rfl⟩ := hv
  refine Gn (.nil _) (Ab (AD ?_))
  refine AY rfl .n ?_
  intro w1 hS
  have hS := (hS.perm (Av.perm (.c .h (.c .h .n)))).Ay
  have hq : T.before a i p k = _ := (BA c1)
  refine ⟨_, ⟨?gq1, rfl, ?hl1, ?hB1⟩, hS⟩
  case hB1 => rw [hq]; (try rfl)
  case hl1 => rw [hq]; assumption
 have c1p := kz c1
 refine Aa ?_
 refine AB (.t4 0 2 3 4) ?_
 refine AA (Gs (Gm rfl (Gm rfl (Gm rfl ?_))))
 refine Ah rfl M6 (.c rfl (.c rfl (.c rfl .n))) (.c .h (.c .h .n)) (Dp _ T _ k i hg hb hi (show T.out.length ≤ 100000 by omega)) (fun v4 B hv => ?_)
 obtain ⟨y5, rfl, y6, rfl⟩ := hv
 refine Gn (.t3 0 2 3) (AI (Gm rfl (Gm rfl (Gm rfl (Gt (BS rfl) (Gt (Af A6 rfl) (Gt (Af Cq rfl) ?_)))))))
 refine Gt (AR Ff rfl rfl (by first | omega | exact hb.1 | exact hb.2 | (dsimp only; omega)) (by first | omega | exact hb.1 | exact hb.2 | (dsimp only; omega))) ?_
 refine Gt (Af Fg rfl) ?_
 refine AQ (AJ (((Ad.l0.comp AH.l1).comp (AS.ar (n := 9) Al.fl (by first | omega | exact hb | (dsimp only; omega)))).comp Al.l4) rfl rfl rfl Ju rfl .h) ?_
 refine AP ?_
 refine Bg rfl .n ?_
 intro w1 hS
 have hS := (hS.perm (Av.perm (.c .h (.c .h .n)))).Ay
 have hq : T.before a i p k = _ := (AU c1)
 refine ⟨_, ⟨?gq2, rfl, ?hl2, ?hB2⟩, hS⟩
 case hB2 => rw [hq]; (try rfl)
 case hl2 => rw [hq]; assumption
theorem Qn (b : Nat) (T : AG) (g : Hd) (o : Order) (hg : g.len = T.out.length) (hF : T.Fit) (hv : 12 ≤ o.verb ∧ o.verb ≤ 17) (hn : T.out.length ≤ 80000) : E9 Tryz.prog 107 #[.pointer (some ⟨b, 0, none⟩), .agg o.enc.toArray] [Ac.box b 163 (Ad.enc ⟨T.w, T.b, g⟩), Ac.own g 56 16 (T.out.flatMap Ing.Event.enc)] (fun w => (GV 0 AH.C6 w ∧ 0 ∉ CX [Ac.box b 163 (Ad.enc ⟨T.w, T.b, g⟩), Ac.own g 56 16 (T.out.flatMap Ing.Event.enc)])) (fun v B => ∃ g' : Hd, v = .tuple #[] ∧ g'.len = (T.set o).out.length ∧ B = [Ac.box b 163 (Ad.enc ⟨(T.set o).w, (T.set o).b, g'⟩), Ac.own g' 56 16 ((T.set o).out.flatMap Ing.Event.enc)]) := by
 intro w hS0 hH
 obtain ⟨gl0, gm0⟩ := hH
 have hb := hF.b
 have hr := hF.room
 have ho9 := T.Ja
 have hs9 := T.IC
 refine Ai _ _ Tryz.func107 rfl rfl rfl (hS0) ?_
 refine Gs ?_
 refine Bv rfl rfl rfl (fun b1 => ?_)
 refine Gn (.t2 0 3) (Gs (Gt (Af C3 rfl) (Gt (AF rfl A1 .m0 Order.l0 rfl rfl) (Gt (Ag rfl rfl) (Gm rfl (BW 13 rfl rfl (fun q => Af C3 rfl) (BW 13 rfl rfl (fun q => AF (cF rfl q) A1 .m0 Order.l0 rfl rfl) ?_)))))))
 refine BW 13 rfl rfl (fun q => Ag (cF rfl q) rfl) ?_
 refine Gt (BR rfl rfl (fun h => by rw [h]; rfl)) ?_
 refine Gm rfl (BW 18 rfl rfl (fun q => Af C3 rfl) (BW 18 rfl rfl (fun q => AF (cF rfl q) A1 .m0 Order.l0 rfl rfl) (BW 18 rfl rfl (fun q => Ag (cF rfl q) rfl) ?_)))
 refine Gt (BR rfl rfl (fun h => by rw [h]; rfl)) ?_
 refine Ga rfl (Gn (.t3 0 3 4) (Gs (Ga rfl (Ga rfl (AP (AA ?_))))))
 refine P5 (Lm := []) (fun (kd : Int) (ev : Int) => kd = AG.setKind o.verb ∧ ev = AG.S7 o.verb) (fun (kd : Int) (ev : Int) => [(5, .int .i64 kd), (6, .int .i64 ev)]) (fun (kd : Int) (ev : Int) => []) (.t3 0 3 4) rfl ?_ (fun kd ev hC => ?_)
 ·
  refine Gs (Gt (Af C3 rfl) (Gt (AF rfl A1 .m0 Order.l0 rfl rfl) (Gn (.t6 0 3 4 5 6 24) (Ae (Gs (Gt (Ag rfl rfl) (Ga rfl ?_)))))))
  refine Gn (.t7 0 3 4 5 6 24 25) ?_
  refine Gc (fun c1 => ?_) (fun c1 => ?_)
  ·
   have c1p := kz c1
   refine AI (Ga rfl ?_)
   refine AP (AB (.t5 0 3 4 5 6) ?_)
   refine AT ?_
   refine EI _ _ ?_ (.t5 5 6 0 3 4) (.refl _)
   · have hv6 : o.verb = 12 ∨ o.verb = 13 ∨ o.verb = 14 ∨ o.verb = 15 ∨ o.verb = 16 ∨ o.verb = 17 := by omega
     rcases hv6 with e | e | e | e | e | e <;> (try rw [e] at c1) <;> first | exact ⟨by rw [e]; rfl, by rw [e]; rfl⟩ | exact absurd c1 (by decide)
  have c1p := kz c1
  refine CC (Gt (Ag rfl rfl) (Ga rfl (Gn (.t7 0 3 4 5 6 24 27) ?_)))
  refine Gc (fun c2 => ?_) (fun c2 => ?_)
  ·
   have c2p := kz c2
   refine Aa (AA ?_)
   refine FQ rfl c2 ?_
   refine Gs (Ga rfl (Ga rfl (Gn (.t5 0 3 4 5 6) (Gs (Gm rfl (Gt (BO rfl) (Gn (.t6 0 3 4 5 6 31) ?_)))))))
   refine Gc (fun c3 => ?_) (fun c3 => ?_)
   ·
    have c3p := kz c3
    refine AI (Ga rfl ?_)
    refine AP (AB (.t5 0 3 4 5 6) ?_)
    refine AT ?_
    refine EI _ _ ?_ (.t5 5 6 0 3 4) (.refl _)
    · have hv6 : o.verb = 12 ∨ o.verb = 13 ∨ o.verb = 14 ∨ o.verb = 15 ∨ o.verb = 16 ∨ o.verb = 17 := by omega
      rcases hv6 with e | e | e | e | e | e <;> (try rw [e] at c1) <;> (try rw [e] at c2) <;> (try rw [e] at c3) <;> first | exact ⟨by rw [e]; rfl, by rw [e]; rfl⟩ | exact absurd c1 (by decide) | exact absurd c2 (by decide) | exact absurd c3 (by decide)
   have c3p := kz c3
   refine Aa ?_
   refine AB (.t5 0 3 4 5 6) ?_
   refine AT ?_
   refine EI _ _ ?_ (.t5 5 6 0 3 4) (.refl _)
   · have hv6 : o.verb = 12 ∨ o.verb = 13 ∨ o.verb = 14 ∨ o.verb = 15 ∨ o.verb = 16 ∨ o.verb = 17 := by omega
     rcases hv6 with e | e | e | e | e | e <;> (try rw [e] at c1) <;> (try rw [e] at c2) <;> (try rw [e] at c3) <;> first | exact ⟨by rw [e]; rfl, by rw [e]; rfl⟩ | exact absurd c1 (by decide) | exact absurd c2 (by decide) | exact absurd c3 (by decide)
  have c2p := kz c2
  refine AI (Gt (Ag rfl rfl) (Ga rfl (Gn (.t7 0 3 4 5 6 24 27) ?_)))
  refine Gc (fun c4 => ?_) (fun c4 => ?_)
  ·
   have c4p := kz c4
   refine Gs (Ga rfl (Ga rfl (Gn (.t5 0 3 4 5 6) (Gs (Gm rfl (Gt (BO rfl) (Gn (.t6 0 3 4 5 6 31) ?_)))))))
   refine Gc (fun c5 => ?_) (fun c5 => ?_)
   ·
    have c5p := kz c5
    refine AI (Ga rfl ?_)
    refine AP (AB (.t5 0 3 4 5 6) ?_)
    refine AT ?_
    refine EI _ _ ?_ (.t5 5 6 0 3 4) (.refl _)
    · have hv6 : o.verb = 12 ∨ o.verb = 13 ∨ o.verb = 14 ∨ o.verb = 15 ∨ o.verb = 16 ∨ o.verb = 17 := by omega
      rcases hv6 with e | e | e | e | e | e <;> (try rw [e] at c1) <;> (try rw [e] at c2) <;> (try rw [e] at c4) <;> (try rw [e] at c5) <;> first | exact ⟨by rw [e]; rfl, by rw [e]; rfl⟩ | exact absurd c1 (by decide) | exact absurd c2 (by decide) | exact absurd c4 (by decide) | exact absurd c5 (by decide)
   have c5p := kz c5
   refine Aa ?_
   refine AB (.t5 0 3 4 5 6) ?_
   refine AT ?_
   refine EI _ _ ?_ (.t5 5 6 0 3 4) (.refl _)
   · have hv6 : o.verb = 12 ∨ o.verb = 13 ∨ o.verb = 14 ∨ o.verb = 15 ∨ o.verb = 16 ∨ o.verb = 17 := by omega
     rcases hv6 with e | e | e | e | e | e <;> (try rw [e] at c1) <;> (try rw [e] at c2) <;> (try rw [e] at c4) <;> (try rw [e] at c5) <;> first | exact ⟨by rw [e]; rfl, by rw [e]; rfl⟩ | exact absurd c1 (by decide) | exact absurd c2 (by decide) | exact absurd c4 (by decide) | exact absurd c5 (by decide)
  have c4p := kz c4
  refine CC (Gt (Ag rfl rfl) (Ga rfl (Gn (.t7 0 3 4 5 6 24 32) ?_)))
  refine Gc (fun c6 => ?_) (fun c6 => ?_)
  ·
   have c6p := kz c6
   refine Aa ?_
   refine AB (.t6 0 3 4 5 6 32) ?_
   refine AA ?_
   refine FQ rfl c6 ?_
   refine Gs (Ga rfl (Ga rfl (Gn (.t5 0 3 4 5 6) (Gs (Gm rfl (Gt (BO rfl) (Gn (.t6 0 3 4 5 6 36) ?_)))))))
   refine Gc (fun c7 => ?_) (fun c7 => ?_)
   ·
    have c7p := kz c7
    refine AI (Ga rfl ?_)
    refine AP (AB (.t5 0 3 4 5 6) ?_)
    refine AT ?_
    refine EI _ _ ?_ (.t5 5 6 0 3 4) (.refl _)
    · have hv6 : o.verb = 12 ∨ o.verb = 13 ∨ o.verb = 14 ∨ o.verb = 15 ∨ o.verb = 16 ∨ o.verb = 17 := by omega
      rcases hv6 with e | e | e | e | e | e <;> (try rw [e] at c1) <;> (try rw [e] at c2) <;> (try rw [e] at c4) <;> (try rw [e] at c6) <;> (try rw [e] at c7) <;> first | exact ⟨by rw [e]; rfl, by rw [e]; rfl⟩ | exact absurd c1 (by decide) | exact absurd c2 (by decide) | exact absurd c4 (by decide) | exact absurd c6 (by decide) | exact absurd c7 (by decide)
   have c7p := kz c7
   refine Aa ?_
   refine AB (.t5 0 3 4 5 6) ?_
   refine AT ?_
   refine EI _ _ ?_ (.t5 5 6 0 3 4) (.refl _)
   · have hv6 : o.verb = 12 ∨ o.verb = 13 ∨ o.verb = 14 ∨ o.verb = 15 ∨ o.verb = 16 ∨ o.verb = 17 := by omega
     rcases hv6 with e | e | e | e | e | e <;> (try rw [e] at c1) <;> (try rw [e] at c2) <;> (try rw [e] at c4) <;> (try rw [e] at c6) <;> (try rw [e] at c7) <;> first | exact ⟨by rw [e]; rfl, by rw [e]; rfl⟩ | exact absurd c1 (by decide) | exact absurd c2 (by decide) | exact absurd c4 (by decide) | exact absurd c6 (by decide) | exact absurd c7 (by decide)
  have c6p := kz c6
  refine AI (Gt (Ag rfl rfl) (Ga rfl (Gn (.t6 0 3 4 5 6 32) ?_)))
  refine Gc (fun c8 => ?_) (fun c8 => ?_)
  ·
   have c8p := kz c8
   refine Gs (Ga rfl (Ga rfl (Gn (.t5 0 3 4 5 6) (Gs (Gm rfl (Gt (BO rfl) (Gn (.t6 0 3 4 5 6 36) ?_)))))))
   refine Gc (fun c9 => ?_) (fun c9 => ?_)
   ·
    have c9p := kz c9
    refine AI (Ga rfl ?_)
    refine AP (AB (.t5 0 3 4 5 6) ?_)
    refine AT ?_
    refine EI _ _ ?_ (.t5 5 6 0 3 4) (.refl _)
    · have hv6 : o.verb = 12 ∨ o.verb = 13 ∨ o.verb = 14 ∨ o.verb = 15 ∨ o.verb = 16 ∨ o.verb = 17 := by omega
      rcases hv6 with e | e | e | e | e | e <;> (try rw [e] at c1) <;> (try rw [e] at c2) <;> (try rw [e] at c4) <;> (try rw [e] at c6) <;> (try rw [e] at c8) <;> (try rw [e] at c9) <;> first | exact ⟨by rw [e]; rfl, by rw [e]; rfl⟩ | exact absurd c1 (by decide) | exact absurd c2 (by decide) | exact absurd c4 (by decide) | exact absurd c6 (by decide) | exact absurd c8 (by decide) | exact absurd c9 (by decide)
   have c9p := kz c9
   refine Aa ?_
   refine AB (.t5 0 3 4 5 6) ?_
   refine AT ?_
   refine EI _ _ ?_ (.t5 5 6 0 3 4) (.refl _)
   · have hv6 : o.verb = 12 ∨ o.verb = 13 ∨ o.verb = 14 ∨ o.verb = 15 ∨ o.verb = 16 ∨ o.verb = 17 := by omega
     rcases hv6 with e | e | e | e | e | e <;> (try rw [e] at c1) <;> (try rw [e] at c2) <;> (try rw [e] at c4) <;> (try rw [e] at c6) <;> (try rw [e] at c8) <;> (try rw [e] at c9) <;> first | exact ⟨by rw [e]; rfl, by rw [e]; rfl⟩ | exact absurd c1 (by decide) | exact absurd c2 (by decide) | exact absurd c4 (by decide) | exact absurd c6 (by decide) | exact absurd c8 (by decide) | exact absurd c9 (by decide)
  have c8p := kz c8
  refine Aa ?_
  refine AB (.t5 0 3 4 5 6) ?_
  refine AT ?_
  refine EI _ _ ?_ (.t5 5 6 0 3 4) (.refl _)
  · have hv6 : o.verb = 12 ∨ o.verb = 13 ∨ o.verb = 14 ∨ o.verb = 15 ∨ o.verb = 16 ∨ o.verb = 17 := by omega
    rcases hv6 with e | e | e | e | e | e <;> (try rw [e] at c1) <;> (try rw [e] at c2) <;> (try rw [e] at c4) <;> (try rw [e] at c6) <;> (try rw [e] at c8) <;> first | exact ⟨by rw [e]; rfl, by rw [e]; rfl⟩ | exact absurd c1 (by decide) | exact absurd c2 (by decide) | exact absurd c4 (by decide) | exact absurd c6 (by decide) | exact absurd c8 (by decide)
 obtain ⟨rfl, rfl⟩ := hC
 refine CC (Gt (Af FP rfl) (Gt (AF rfl CD .m0 Order.l3 rfl rfl) ?_))
 refine A8 rfl aA (.c rfl .n) (fun w hS => I4 _ w (gl0.stM gm0 hS)) ?_
 refine Gm rfl (Gt (AL rfl rfl) (Gt (AL rfl rfl) (Ga rfl (Ga rfl (Gn (.t7 0 3 4 5 6 7 8) (Gs (Gm rfl ?_)))))))
 refine Gm rfl (BZ 44 rfl rfl (fun q => AE rfl) (BZ 44 rfl rfl (fun q => Ag (BV rfl q) rfl) (Gt (BG rfl rfl (fun h => h)) (Gn (.t7 0 3 4 5 6 7 47) ?_))))
 refine Gc (fun c10 => ?_) (fun c10 => ?_)
 ·
  have c10p := kz c10
  refine Gs (Gm rfl (Gm rfl (Gm rfl (Gm rfl ?_))))
  refine Ah rfl Zl (.c rfl (.c rfl (.c rfl (.c rfl .n)))) (.c (.t .h) (.c (.t .h) .n)) (QQ _ T _ _ _ _ hg hF (Words.XQ (Bool.and_eq_true_iff.1 c10).1) (by omega)) (fun v1 B hv => ?_)
  obtain ⟨y2, rfl, y3, rfl⟩ := hv
  refine Gn (.nil _) (Ab (AD ?_))
  refine AY rfl .n ?_
  intro w1 hS
  have hS := (hS.perm (Av.perm (.c .h (.c .h .n)))).Ay
  have hq : T.set o = _ := (BA c10)
  refine ⟨_, ⟨?gq1, rfl, ?hl1, ?hB1⟩, hS⟩
  case hB1 => rw [hq]; (try rfl)
  case hl1 => rw [hq]; assumption
 have c10p := kz c10
 refine Aa ?_
 refine AB (.t5 0 3 4 5 6) ?_
 refine AA (Gs (Gm rfl ?_))
 refine Ah rfl TA (.c rfl .n) (.c (.t .h) .n) (HX _ T _ hF) (fun v4 B hv => ?_)
 obtain ⟨y5, rfl, y6, rfl⟩ := hv
 refine Ga rfl (Gn (.t6 0 3 4 5 6 9) (CC (Gm rfl (Gt (Ag rfl rfl) (Gn (.t7 0 3 4 5 6 9 56) ?_)))))
 refine Gc (fun c11 => ?_) (fun c11 => ?_)
 ·
  have c11p := kz c11
  refine AI (Gm rfl (Gm rfl ?_))
  refine Ah rfl VF (.c rfl .n) (.c .h .n) (Ii _ T _ hF) (fun v8 B hv => ?_)
  obtain ⟨y9, rfl, y10, rfl⟩ := hv
  refine CV B0 rfl Tryz.underlying169 C4 ZE rfl af (by decide) (by decide) rfl rfl (fun w hS => Src.Dd Tryz.underlying169 ((Kn.own .m1) w hS)) (by (try dsimp only); omega) (fun _ => (.t (.t .h))) (fun h12 h12l h12z => ?_)
  refine Ga rfl (Gn (.t6 0 3 4 5 6 9) (Gs (Gm rfl (Gm rfl (Gt (Af Fz rfl) (Gt (AF rfl A1 .m3 Order.l1 rfl rfl) (Gt (Kw rfl rfl) ?_)))))))
  refine Gt (Af FP rfl) (Gt (AF rfl CD .m3 Order.l3 rfl rfl) ?_)
  refine Ah rfl Ov (.c rfl (.c rfl (.c rfl (.c rfl (.c rfl .n))))) (.c .h (.c (.t .h) .n)) (Ee _ T _ _ (T.own ++ T.seen) _ _ _ hF (by rw [List.length_append]; omega) (by rw [List.length_append]; omega) (fun i hi => AG.QG hi)) (fun v13 B hv => ?_)
  obtain ⟨y14, rfl, y15, rfl⟩ := hv
  refine Ga rfl (Gn (.t5 0 4 5 6 9) (Ae (Ao ?_)))
  have hx0 := AG.Qs (l := (AG.BP T.w (T.own ++ T.seen) (max o.nth 1) o.name false)) (fun i hi => AG.QG (AG.Ef hi))
  refine BF (N := 18) [0, 1, 3, 7, 15, 15, 47, 111, 31, 287, 799, 2047, 4095, 8191, 15, 32767, 65535, 131071] mix (by kernel_rfl) rfl ?_
  refine Pf 0 rfl (AE rfl) (Pf 1 rfl (Aq rfl Tryz.underlying169 rfl) (Pf 2 rfl (Ag rfl rfl) (Pf 3 rfl (AE rfl) (G9 4 82 rfl rfl rfl (fun q => AE rfl) (G9 5 82 rfl rfl rfl (fun q => AE rfl) ?_)))))
  refine BX 6 rfl rfl (by kernel_rfl) (GS (t := 82) rfl rfl (fun q => by have q1 := q; (try simp at q1); exact Hx (Bo F1 (by decide) (Kn.own .m2) (cF rfl q) rfl (by omega) (by first | omega | (simp at q ⊢; omega))))) ?_
  refine BX 7 rfl rfl (by kernel_rfl) (GS (t := 82) rfl rfl (fun q => by have q1 := q; (try simp at q1); exact Hx (C7 (cF rfl q) A1 (Kn.own .m2) (by first | omega | (simp at q ⊢; omega))))) ?_
  refine G9 8 82 rfl rfl rfl (fun q => BS (cF rfl q)) (G9 9 82 rfl rfl rfl (fun q => Af A6 (cF rfl q)) (G9 10 82 rfl rfl rfl (fun q => Af Cq (cF rfl q)) ?_))
  refine BX 11 rfl rfl (by kernel_rfl) (GS (t := 82) rfl rfl (fun q => by have q1 := q; (try simp at q1); exact Hx (AR Ff (cF rfl q) (cF rfl q) (by first | omega | exact hb.1 | exact hb.2 | exact hx0.1 | exact hx0.2 | (dsimp only; omega)) (by first | omega | exact hb.1 | exact hb.2 | exact hx0.1 | exact hx0.2 | (dsimp only; omega))))) ?_
  refine G9 12 82 rfl rfl rfl (fun q => Af GG (cF rfl q)) ?_
  refine BX 13 rfl rfl (by kernel_rfl) (GS (t := 82) rfl rfl (fun q => by have q1 := q; (try simp at q1); exact Hx (AF (cF rfl q) A1 .m0 (((Ad.l0.comp AH.l1).comp (AS.ar (n := 9) Al.fl (by first | omega | exact hb | exact hx0 | (dsimp only; omega)))).comp Al.l1) rfl rfl))) ?_
  refine G9 14 82 rfl rfl rfl (fun q => AE rfl) (G9 15 82 rfl rfl rfl (fun q => CT (cF rfl q) (cF rfl q)) ?_)
  refine Pf 16 rfl (BR rfl rfl (fun h => by rw [h]; rfl)) ?_
  refine Pf 17 rfl (Az rfl) ?_
  refine A2 (by kernel_rfl) ?_
  refine AB (.t6 0 4 5 6 9 78) ?_
  refine AA ?_
  refine Gc (fun c12 => ?_) (fun c12 => ?_)
  ·
   have c12p := kz c12
   rw [y15] at c12 c12p
   have hsl : T.E6 o = (AG.BP T.w (T.own ++ T.seen) (max o.nth 1) o.name false) := congrArg (fun q => AG.BP T.w q _ _ _) (BA c11)
   refine AI (Gm rfl ?_)
   refine Ah rfl Dz (.c rfl (.c rfl .n)) (.c .h (.c (.t (.t (.t (.t .h)))) .n)) (Ba _ _ _ _ hg hb (by omega)) (fun v17 B hv => ?_)
   obtain ⟨y18, rfl, y19, rfl⟩ := hv
   refine AP (AB (.nil _) ?_)
   refine AT ?_
   refine Bg rfl .n ?_
   intro w1 hS
   have hS := (hS.perm (Av.perm (.c .h (.c .h .n)))).Ay
   have d0 : (decide (((T.E6 o).length : Int) = 0) || !decide ((T.w.AX.at ((T.E6 o).getD 0 0)).kind = AG.setKind o.verb)) = true := by rw [hsl]; exact c12
   have hq : T.set o = _ := (AU c10).trans (BA d0)
   (try rw [hsl] at hq)
   refine ⟨_, ⟨?gq2, rfl, ?hl2, ?hB2⟩, hS⟩
   case hB2 => rw [hq]; (try rfl)
   case hl2 => rw [hq]; assumption
  have c12p := kz c12
  rw [y15] at c12 c12p
  have hsl : T.E6 o = (AG.BP T.w (T.own ++ T.seen) (max o.nth 1) o.name false) := congrArg (fun q => AG.BP T.w q _ _ _) (BA c11)
  refine Ao ?_
  refine BF (N := 13) [0, 0, 2, 6, 1, 17, 49, 127, 255, 511, 0, 2047, 4095] mix (by kernel_rfl) rfl ?_
  refine Pf 0 rfl (AE rfl) (Pf 1 rfl (AE rfl) ?_)
  refine Pf 2 rfl (Bo F1 (by decide) (Kn.own .m2) rfl rfl (by omega) (by first | omega | (simp at q ⊢; omega))) ?_
  refine Pf 3 rfl (C7 rfl A1 (Kn.own .m2) (by first | omega | (simp at q ⊢; omega))) ?_
  refine Pf 4 rfl (BS rfl) (Pf 5 rfl (Af A6 rfl) (Pf 6 rfl (Af Cq rfl) ?_))
  refine Pf 7 rfl (AR Ff rfl rfl (by first | omega | exact hb.1 | exact hb.2 | exact hx0.1 | exact hx0.2 | (dsimp only; omega)) (by first | omega | exact hb.1 | exact hb.2 | exact hx0.1 | exact hx0.2 | (dsimp only; omega))) ?_
  refine Pf 8 rfl (Af Fg rfl) ?_
  refine Pf 9 rfl (AF rfl Cu .m0 (((Ad.l0.comp AH.l1).comp (AS.ar (n := 9) Al.fl (by first | omega | exact hb | exact hx0 | (dsimp only; omega)))).comp Al.l4) rfl rfl) ?_
  refine Pf 10 rfl (AE rfl) (Pf 11 rfl (EP Tryz.underlying4 rfl rfl) (Pf 12 rfl (Az rfl) ?_))
  refine A2 (by kernel_rfl) ?_
  refine AB (.t6 0 4 5 6 9 98) ?_
  refine AA ?_
  refine Gc (fun c13 => ?_) (fun c13 => ?_)
  ·
   have c13p := kz c13
   refine AI (Gm rfl ?_)
   refine Ah rfl Dz (.c rfl (.c rfl .n)) (.c .h (.c (.t (.t (.t (.t .h)))) .n)) (Ba _ _ _ _ hg hb (by omega)) (fun v20 B hv => ?_)
   obtain ⟨y21, rfl, y22, rfl⟩ := hv
   refine AP (AB (.nil _) ?_)
   refine AT ?_
   refine Bg rfl .n ?_
   intro w1 hS
   have hS := (hS.perm (Av.perm (.c .h (.c .h .n)))).Ay
   have d0 : (decide (((T.E6 o).length : Int) = 0) || !decide ((T.w.AX.at ((T.E6 o).getD 0 0)).kind = AG.setKind o.verb)) = false := by rw [hsl]; exact c12
   have d1 : ((T.w.AX.at ((T.E6 o).getD 0 0)).on == AG.Gk o.verb) = true := by rw [hsl]; exact c13
   have hq : T.set o = _ := (AU c10).trans ((AU d0).trans (BA d1))
   (try rw [hsl] at hq)
   refine ⟨_, ⟨?gq3, rfl, ?hl3, ?hB3⟩, hS⟩
   case hB3 => rw [hq]; (try rfl)
   case hl3 => rw [hq]; assumption
  have c13p := kz c13
  refine Gs (Gm rfl (Ga rfl (Gn (.t6 0 4 5 6 9 113) ?_)))
  refine Gc (fun c14 => ?_) (fun c14 => ?_)
  ·
   have c14p := kz c14
   refine AI (Gm rfl (Gm rfl (Gt (CT rfl rfl) (Gm rfl ?_))))
   refine Gt (Bo F1 (by decide) (Kn.own .m2) rfl rfl (by omega) (by first | omega | (simp at q ⊢; omega))) ?_
   refine Gt (C7 rfl A1 (Kn.own .m2) (by first | omega | (simp at q ⊢; omega))) ?_
   refine Gm rfl (Gm rfl ?_)
   refine Ah rfl S9 (.c rfl (.c rfl (.c rfl (.c rfl (.c rfl .n))))) (.c .h (.c (.t (.t (.t (.t .h)))) .n)) (FT _ T _ (!decide (AG.setKind o.verb = 2)) ((AG.BP T.w (T.own ++ T.seen) (max o.nth 1) o.name false).getD (0 : Int).toNat 0) _ _ hg hb hx0 (by omega)) (fun v23 B hv => ?_)
   obtain ⟨y24, rfl, y25, rfl⟩ := hv
   refine AP (AB (.nil _) ?_)
   refine AT ?_
   refine Bg rfl .n ?_
   intro w1 hS
   have hS := (hS.perm (Av.perm (.c .h (.c .h .n)))).Ay
   have d0 : (decide (((T.E6 o).length : Int) = 0) || !decide ((T.w.AX.at ((T.E6 o).getD 0 0)).kind = AG.setKind o.verb)) = false := by rw [hsl]; exact c12
   have d1 : ((T.w.AX.at ((T.E6 o).getD 0 0)).on == AG.Gk o.verb) = false := by rw [hsl]; exact c13
   have d2 : AG.Gk o.verb = true := c14
   have hq : T.set o = _ := (AU c10).trans ((AU d0).trans ((AU d1).trans (BA d2)))
   (try rw [hsl] at hq)
   refine ⟨_, ⟨?gq4, rfl, ?hl4, ?hB4⟩, hS⟩
   case hB4 => rw [hq]; (try rfl)
   case hl4 => rw [hq]; assumption
  have c14p := kz c14
  refine AI (Gm rfl (Gm rfl (Gt (Ag rfl rfl) (Gm rfl ?_))))
  refine Gt (Bo F1 (by decide) (Kn.own .m2) rfl rfl (by omega) (by first | omega | (simp at q ⊢; omega))) ?_
  refine Gt (C7 rfl A1 (Kn.own .m2) (by first | omega | (simp at q ⊢; omega))) ?_
  refine Gm rfl (Gm rfl ?_)
  refine Ah rfl S9 (.c rfl (.c rfl (.c rfl (.c rfl (.c rfl .n))))) (.c .h (.c (.t (.t (.t (.t .h)))) .n)) (FT _ T _ (decide (AG.setKind o.verb = 2)) ((AG.BP T.w (T.own ++ T.seen) (max o.nth 1) o.name false).getD (0 : Int).toNat 0) _ _ hg hb hx0 (by omega)) (fun v26 B hv => ?_)
  obtain ⟨y27, rfl, y28, rfl⟩ := hv
  refine AP (AB (.nil _) ?_)
  refine AT ?_
  refine Bg rfl .n ?_
  intro w1 hS
  have hS := (hS.perm (Av.perm (.c .h (.c .h .n)))).Ay
  have d0 : (decide (((T.E6 o).length : Int) = 0) || !decide ((T.w.AX.at ((T.E6 o).getD 0 0)).kind = AG.setKind o.verb)) = false := by rw [hsl]; exact c12
  have d1 : ((T.w.AX.at ((T.E6 o).getD 0 0)).on == AG.Gk o.verb) = false := by rw [hsl]; exact c13
  have d2 : AG.Gk o.verb = false := c14
  have hq : T.set o = _ := (AU c10).trans ((AU d0).trans ((AU d1).trans (AU d2)))
  (try rw [hsl] at hq)
  refine ⟨_, ⟨?gq5, rfl, ?hl5, ?hB5⟩, hS⟩
  case hB5 => rw [hq]; (try rfl)
  case hl5 => rw [hq]; assumption
 have c11p := kz c11
 refine Aa ?_
 refine AB (.t6 0 3 4 5 6 9) ?_
 refine AA (Gs (Gm rfl (Gm rfl (Gt (Af Fz rfl) (Gt (AF rfl A1 .m2 Order.l1 rfl rfl) (Gt (Kw rfl rfl) (Gt (Af FP rfl) ?_)))))))
 refine Gt (AF rfl CD .m2 Order.l3 rfl rfl) ?_
 refine Ah rfl Ov (.c rfl (.c rfl (.c rfl (.c rfl (.c rfl .n))))) (.c .h (.c .h .n)) (Ee _ T _ _ T.own _ _ _ hF (by assumption) (by omega) (fun i hi => AG.Kr hi)) (fun v29 B hv => ?_)
 obtain ⟨y30, rfl, y31, rfl⟩ := hv
 refine Ga rfl (Gn (.t5 0 4 5 6 9) (Ae (Ao ?_)))
 have hx0 := AG.Qs (l := (AG.BP T.w T.own (max o.nth 1) o.name false)) (fun i hi => AG.Kr (AG.Ef hi))
 refine BF (N := 18) [0, 1, 3, 7, 15, 15, 47, 111, 31, 287, 799, 2047, 4095, 8191, 15, 32767, 65535, 131071] mix (by kernel_rfl) rfl ?_
 refine Pf 0 rfl (AE rfl) (Pf 1 rfl (Aq rfl Tryz.underlying169 rfl) (Pf 2 rfl (Ag rfl rfl) (Pf 3 rfl (AE rfl) (G9 4 82 rfl rfl rfl (fun q => AE rfl) (G9 5 82 rfl rfl rfl (fun q => AE rfl) ?_)))))
 refine BX 6 rfl rfl (by kernel_rfl) (GS (t := 82) rfl rfl (fun q => by have q1 := q; (try simp at q1); exact Hx (Bo F1 (by decide) (Kn.own .m2) (cF rfl q) rfl (by omega) (by first | omega | (simp at q ⊢; omega))))) ?_
 refine BX 7 rfl rfl (by kernel_rfl) (GS (t := 82) rfl rfl (fun q => by have q1 := q; (try simp at q1); exact Hx (C7 (cF rfl q) A1 (Kn.own .m2) (by first | omega | (simp at q ⊢; omega))))) ?_
 refine G9 8 82 rfl rfl rfl (fun q => BS (cF rfl q)) (G9 9 82 rfl rfl rfl (fun q => Af A6 (cF rfl q)) (G9 10 82 rfl rfl rfl (fun q => Af Cq (cF rfl q)) ?_))
 refine BX 11 rfl rfl (by kernel_rfl) (GS (t := 82) rfl rfl (fun q => by have q1 := q; (try simp at q1); exact Hx (AR Ff (cF rfl q) (cF rfl q) (by first | omega | exact hb.1 | exact hb.2 | exact hx0.1 | exact hx0.2 | (dsimp only; omega)) (by first | omega | exact hb.1 | exact hb.2 | exact hx0.1 | exact hx0.2 | (dsimp only; omega))))) ?_
 refine G9 12 82 rfl rfl rfl (fun q => Af GG (cF rfl q)) ?_
 refine BX 13 rfl rfl (by kernel_rfl) (GS (t := 82) rfl rfl (fun q => by have q1 := q; (try simp at q1); exact Hx (AF (cF rfl q) A1 .m0 (((Ad.l0.comp AH.l1).comp (AS.ar (n := 9) Al.fl (by first | omega | exact hb | exact hx0 | (dsimp only; omega)))).comp Al.l1) rfl rfl))) ?_
 refine G9 14 82 rfl rfl rfl (fun q => AE rfl) (G9 15 82 rfl rfl rfl (fun q => CT (cF rfl q) (cF rfl q)) ?_)
 refine Pf 16 rfl (BR rfl rfl (fun h => by rw [h]; rfl)) ?_
 refine Pf 17 rfl (Az rfl) ?_
 refine A2 (by kernel_rfl) ?_
 refine AB (.t6 0 4 5 6 9 78) ?_
 refine AA ?_
 refine Gc (fun c15 => ?_) (fun c15 => ?_)
 ·
  have c15p := kz c15
  rw [y31] at c15 c15p
  have hsl : T.E6 o = (AG.BP T.w T.own (max o.nth 1) o.name false) := congrArg (fun q => AG.BP T.w q _ _ _) (AU c11)
  refine AI (Gm rfl ?_)
  refine Ah rfl Dz (.c rfl (.c rfl .n)) (.c .h (.c (.t (.t (.t .h))) .n)) (Ba _ _ _ _ hg hb (by omega)) (fun v33 B hv => ?_)
  obtain ⟨y34, rfl, y35, rfl⟩ := hv
  refine AP (AB (.nil _) ?_)
  refine AT ?_
  refine Bg rfl .n ?_
  intro w1 hS
  have hS := (hS.perm (Av.perm (.c .h (.c .h .n)))).Ay
  have d0 : (decide (((T.E6 o).length : Int) = 0) || !decide ((T.w.AX.at ((T.E6 o).getD 0 0)).kind = AG.setKind o.verb)) = true := by rw [hsl]; exact c15
  have hq : T.set o = _ := (AU c10).trans (BA d0)
  (try rw [hsl] at hq)
  refine ⟨_, ⟨?gq6, rfl, ?hl6, ?hB6⟩, hS⟩
  case hB6 => rw [hq]; (try rfl)
  case hl6 => rw [hq]; assumption
 have c15p := kz c15
 rw [y31] at c15 c15p
 have hsl : T.E6 o = (AG.BP T.w T.own (max o.nth 1) o.name false) := congrArg (fun q => AG.BP T.w q _ _ _) (AU c11)
 refine Ao ?_
 refine BF (N := 13) [0, 0, 2, 6, 1, 17, 49, 127, 255, 511, 0, 2047, 4095] mix (by kernel_rfl) rfl ?_
 refine Pf 0 rfl (AE rfl) (Pf 1 rfl (AE rfl) ?_)
 refine Pf 2 rfl (Bo F1 (by decide) (Kn.own .m2) rfl rfl (by omega) (by first | omega | (simp at q ⊢; omega))) ?_
 refine Pf 3 rfl (C7 rfl A1 (Kn.own .m2) (by first | omega | (simp at q ⊢; omega))) ?_
 refine Pf 4 rfl (BS rfl) (Pf 5 rfl (Af A6 rfl) (Pf 6 rfl (Af Cq rfl) ?_))
 refine Pf 7 rfl (AR Ff rfl rfl (by first | omega | exact hb.1 | exact hb.2 | exact hx0.1 | exact hx0.2 | (dsimp only; omega)) (by first | omega | exact hb.1 | exact hb.2 | exact hx0.1 | exact hx0.2 | (dsimp only; omega))) ?_
 refine Pf 8 rfl (Af Fg rfl) ?_
 refine Pf 9 rfl (AF rfl Cu .m0 (((Ad.l0.comp AH.l1).comp (AS.ar (n := 9) Al.fl (by first | omega | exact hb | exact hx0 | (dsimp only; omega)))).comp Al.l4) rfl rfl) ?_
 refine Pf 10 rfl (AE rfl) (Pf 11 rfl (EP Tryz.underlying4 rfl rfl) (Pf 12 rfl (Az rfl) ?_))
 refine A2 (by kernel_rfl) ?_
 refine AB (.t6 0 4 5 6 9 98) ?_
 refine AA ?_
 refine Gc (fun c16 => ?_) (fun c16 => ?_)
 ·
  have c16p := kz c16
  refine AI (Gm rfl ?_)
  refine Ah rfl Dz (.c rfl (.c rfl .n)) (.c .h (.c (.t (.t (.t .h))) .n)) (Ba _ _ _ _ hg hb (by omega)) (fun v36 B hv => ?_)
  obtain ⟨y37, rfl, y38, rfl⟩ := hv
  refine AP (AB (.nil _) ?_)
  refine AT ?_
  refine Bg rfl .n ?_
  intro w1 hS
  have hS := (hS.perm (Av.perm (.c .h (.c .h .n)))).Ay
  have d0 : (decide (((T.E6 o).length : Int) = 0) || !decide ((T.w.AX.at ((T.E6 o).getD 0 0)).kind = AG.setKind o.verb)) = false := by rw [hsl]; exact c15
  have d1 : ((T.w.AX.at ((T.E6 o).getD 0 0)).on == AG.Gk o.verb) = true := by rw [hsl]; exact c16
  have hq : T.set o = _ := (AU c10).trans ((AU d0).trans (BA d1))
  (try rw [hsl] at hq)
  refine ⟨_, ⟨?gq7, rfl, ?hl7, ?hB7⟩, hS⟩
  case hB7 => rw [hq]; (try rfl)
  case hl7 => rw [hq]; assumption
 have c16p := kz c16
 refine Gs (Gm rfl (Ga rfl (Gn (.t6 0 4 5 6 9 113) ?_)))
 refine Gc (fun c17 => ?_) (fun c17 => ?_)
 ·
  have c17p := kz c17
  refine AI (Gm rfl (Gm rfl (Gt (CT rfl rfl) (Gm rfl ?_))))
  refine Gt (Bo F1 (by decide) (Kn.own .m2) rfl rfl (by omega) (by first | omega | (simp at q ⊢; omega))) ?_
  refine Gt (C7 rfl A1 (Kn.own .m2) (by first | omega | (simp at q ⊢; omega))) ?_
  refine Gm rfl (Gm rfl ?_)
  refine Ah rfl S9 (.c rfl (.c rfl (.c rfl (.c rfl (.c rfl .n))))) (.c .h (.c (.t (.t (.t .h))) .n)) (FT _ T _ (!decide (AG.setKind o.verb = 2)) ((AG.BP T.w T.own (max o.nth 1) o.name false).getD (0 : Int).toNat 0) _ _ hg hb hx0 (by omega)) (fun v39 B hv => ?_)
  obtain ⟨y40, rfl, y41, rfl⟩ := hv
  refine AP (AB (.nil _) ?_)
  refine AT ?_
  refine Bg rfl .n ?_
  intro w1 hS
  have hS := (hS.perm (Av.perm (.c .h (.c .h .n)))).Ay
  have d0 : (decide (((T.E6 o).length : Int) = 0) || !decide ((T.w.AX.at ((T.E6 o).getD 0 0)).kind = AG.setKind o.verb)) = false := by rw [hsl]; exact c15
  have d1 : ((T.w.AX.at ((T.E6 o).getD 0 0)).on == AG.Gk o.verb) = false := by rw [hsl]; exact c16
  have d2 : AG.Gk o.verb = true := c17
  have hq : T.set o = _ := (AU c10).trans ((AU d0).trans ((AU d1).trans (BA d2)))
  (try rw [hsl] at hq)
  refine ⟨_, ⟨?gq8, rfl, ?hl8, ?hB8⟩, hS⟩
  case hB8 => rw [hq]; (try rfl)
  case hl8 => rw [hq]; assumption
 have c17p := kz c17
 refine AI (Gm rfl (Gm rfl (Gt (Ag rfl rfl) (Gm rfl ?_))))
 refine Gt (Bo F1 (by decide) (Kn.own .m2) rfl rfl (by omega) (by first | omega | (simp at q ⊢; omega))) ?_
 refine Gt (C7 rfl A1 (Kn.own .m2) (by first | omega | (simp at q ⊢; omega))) ?_
 refine Gm rfl (Gm rfl ?_)
 refine Ah rfl S9 (.c rfl (.c rfl (.c rfl (.c rfl (.c rfl .n))))) (.c .h (.c (.t (.t (.t .h))) .n)) (FT _ T _ (decide (AG.setKind o.verb = 2)) ((AG.BP T.w T.own (max o.nth 1) o.name false).getD (0 : Int).toNat 0) _ _ hg hb hx0 (by omega)) (fun v42 B hv => ?_)
 obtain ⟨y43, rfl, y44, rfl⟩ := hv
 refine AP (AB (.nil _) ?_)
 refine AT ?_
 refine Bg rfl .n ?_
 intro w1 hS
 have hS := (hS.perm (Av.perm (.c .h (.c .h .n)))).Ay
 have d0 : (decide (((T.E6 o).length : Int) = 0) || !decide ((T.w.AX.at ((T.E6 o).getD 0 0)).kind = AG.setKind o.verb)) = false := by rw [hsl]; exact c15
 have d1 : ((T.w.AX.at ((T.E6 o).getD 0 0)).on == AG.Gk o.verb) = false := by rw [hsl]; exact c16
 have d2 : AG.Gk o.verb = false := c17
 have hq : T.set o = _ := (AU c10).trans ((AU d0).trans ((AU d1).trans (AU d2)))
 (try rw [hsl] at hq)
 refine ⟨_, ⟨?gq9, rfl, ?hl9, ?hB9⟩, hS⟩
 case hB9 => rw [hq]; (try rfl)
 case hl9 => rw [hq]; assumption
theorem Fw (X : AH) (b : Int) (o : Order) (hw : X.D3) (hu : o.second.length ≤ 5000000) (hm : o.name.length ≤ 5000000) : E9 Tryz.prog 84 #[.agg X.enc.toArray, .int .i64 b, .agg o.enc.toArray] [] (fun w => (GV 0 AH.C6 w ∧ 0 ∉ CX []) ∧ (GF 7 w ∧ 7 ∉ CX []) ∧ (GF 8 w ∧ 8 ∉ CX [])) (fun v B => ∃ h : Hd, v = .tuple #[.agg ((AG.Fe X b o).1.enc).toArray, h.val, .int .i64 (AG.Fe X b o).2.2] ∧ h.len = (AG.Fe X b o).2.1.length ∧ B = [Ac.own h 56 16 ((AG.Fe X b o).2.1.flatMap Ing.Event.enc)]) := by
 intro w hS0 hH
 obtain ⟨⟨gl0, gm0⟩, ⟨gl1, gm1⟩, ⟨gl2, gm2⟩⟩ := hH
 refine Ai _ _ Tryz.func84 rfl rfl rfl (hS0) ?_
 refine Gs ?_
 refine Bv rfl rfl rfl (fun b1 => ?_)
 refine Bv rfl rfl rfl (fun b2 => ?_)
 refine BD rfl Lw rfl (fun b3 => ?_)
 refine Ga rfl (Ga rfl (Gn (.t4 1 3 5 6) (Ao (Ae (Gs (Gt (AZ rfl BT .m2 (AS.id AH.fl.len AH.fl.one) rfl) ?_))))))
 refine A8 rfl Yu (.c rfl .n) (fun w hS => G6 _ w) ?_
 refine Gt (BO rfl) (Ga rfl (Gn (.t5 1 3 5 6 10) ?_))
 refine Gc (fun c1 => ?_) (fun c1 => ?_)
 ·
  refine Gs (Gt (AZ rfl BT .m2 (AS.id AH.fl.len AH.fl.one) rfl) ?_)
  refine AQ (AJ (AS.id AH.fl.len AH.fl.one) rfl rfl rfl Dv rfl .h) ?_
  refine Ga rfl (Ga rfl (Gn (.t3 6 7 8) (Ab (AO (AD ?_)))))
  refine AY rfl (.cell rfl .m0 (.inl ⟨(by rw [AH.fl.len]; exact BT), rfl⟩) (.tmp rfl (.tmp rfl .n))) ?_
  intro w1 hS
  have hS := hS.Cl 56 16
  have hS := (hS.perm (Av.perm (.c .h .n))).Ay
  have hq : AG.Fe X b o = _ := (BA c1)
  refine ⟨_, ⟨⟨none, 0, 0⟩, ?hv1, ?hl1, ?hB1⟩, hS⟩
  case hv1 => rw [hq]; rfl
  case hl1 => rw [hq]; rfl
  case hB1 => rw [hq]; rfl
 have c1p := kz c1
 refine Gs (Gm rfl (Gt (A5 rfl rfl) (Gm rfl (BW 18 rfl rfl (fun q => AE rfl) (BW 18 rfl rfl (fun q => CI (cF rfl q) rfl) ?_)))))
 refine Gt (BR rfl rfl (fun h => by rw [h]; rfl)) ?_
 refine Gm rfl (BW 22 rfl rfl (fun q => AE rfl) (BW 22 rfl rfl (fun q => Af Bj rfl) ?_))
 refine BW 22 rfl rfl (fun q => by have q1 := q; (try simp at q1); exact AR Cz (cF rfl q) (cF rfl q) (by first | omega | exact hb.1 | exact hb.2 | (dsimp only; omega)) (by first | omega | exact hb.1 | exact hb.2 | (dsimp only; omega))) ?_
 refine BW 22 rfl rfl (fun q => Af Ho (cF rfl q)) ?_
 refine BW 22 rfl rfl (fun q => by have q1 := q; (try simp at q1); exact AF (cF rfl q) Cu .m2 ((AH.l2.comp (AS.ar (n := 6) Am.fl (by first | omega | exact hb | (dsimp only; omega)))).comp Am.l1) rfl rfl) ?_
 refine BW 22 rfl rfl (fun q => BO (cF rfl q)) ?_
 refine Gt (BR rfl rfl (fun h => by rw [h]; rfl)) ?_
 refine Ga rfl (Gn (.t5 1 3 5 6 15) ?_)
 refine Gc (fun c2 => ?_) (fun c2 => ?_)
 ·
  refine Gs (Gt (AZ rfl BT .m2 (AS.id AH.fl.len AH.fl.one) rfl) ?_)
  refine AQ (AJ (AS.id AH.fl.len AH.fl.one) rfl rfl rfl Dv rfl .h) ?_
  refine Ga rfl (Ga rfl (Gn (.t3 6 7 8) (Ab (AO (AD ?_)))))
  refine AY rfl (.cell rfl .m0 (.inl ⟨(by rw [AH.fl.len]; exact BT), rfl⟩) (.tmp rfl (.tmp rfl .n))) ?_
  intro w1 hS
  have hS := hS.Cl 56 16
  have hS := (hS.perm (Av.perm (.c .h .n))).Ay
  have hq : AG.Fe X b o = _ := ((AU c1).trans (BA c2))
  refine ⟨_, ⟨⟨none, 0, 0⟩, ?hv2, ?hl2, ?hB2⟩, hS⟩
  case hv2 => rw [hq]; rfl
  case hl2 => rw [hq]; rfl
  case hB2 => rw [hq]; rfl
 have c2p := kz c2
 refine Gs (Gt (Af C3 rfl) (Gt (AF rfl A1 .m1 Order.l0 rfl rfl) (Gt (A5 rfl rfl) (Gm rfl (BW 35 rfl rfl (fun q => Af C3 rfl) (BW 35 rfl rfl (fun q => AF (cF rfl q) A1 .m1 Order.l0 rfl rfl) (BW 35 rfl rfl (fun q => Ce (cF rfl q) rfl) ?_)))))))
 refine Gt (BR rfl rfl (fun h => by rw [h]; rfl)) ?_
 refine Ga rfl (Gn (.t5 1 3 5 6 31) ?_)
 refine Gc (fun c3 => ?_) (fun c3 => ?_)
 ·
  refine Gs (Gt (AZ rfl BT .m2 (AS.id AH.fl.len AH.fl.one) rfl) ?_)
  refine AQ (AJ (AS.id AH.fl.len AH.fl.one) rfl rfl rfl Dv rfl .h) ?_
  refine Ga rfl (Ga rfl (Gn (.t3 6 7 8) (Ab (AO (AD ?_)))))
  refine AY rfl (.cell rfl .m0 (.inl ⟨(by rw [AH.fl.len]; exact BT), rfl⟩) (.tmp rfl (.tmp rfl .n))) ?_
  intro w1 hS
  have hS := hS.Cl 56 16
  have hS := (hS.perm (Av.perm (.c .h .n))).Ay
  have hq : AG.Fe X b o = _ := ((AU c1).trans ((AU c2).trans (BA c3)))
  refine ⟨_, ⟨⟨none, 0, 0⟩, ?hv3, ?hl3, ?hB3⟩, hS⟩
  case hv3 => rw [hq]; rfl
  case hl3 => rw [hq]; rfl
  case hB3 => rw [hq]; rfl
 have c3p := kz c3
 have hF := AG.UN hw c1 c2
 have hb := hF.b
 refine Aa ?_
 refine AB (.t4 1 3 5 6) ?_
 refine AT (AA (Gs (Gt (AZ rfl BT .m2 (AS.id AH.fl.len AH.fl.one) rfl) (Gm rfl (Gt (BC S5 TF rfl (.cons Ad.l0 rfl rfl rfl (.cons Ad.l1 rfl rfl rfl .nil))) ?_)))))
 refine Bv rfl rfl rfl (fun b4 => ?_)
 refine Ga rfl (Gn (.t4 1 5 6 9) (Ao (Ae (Gs (Gt (Af C3 rfl) (Gt (AF rfl A1 .m2 Order.l0 rfl rfl) (Gt (A5 rfl rfl) ?_)))))))
 refine Ga rfl (Gn (.t5 1 5 6 9 48) ?_)
 refine Gc (fun c4 => ?_) (fun c4 => ?_)
 ·
  have c4p := kz c4
  refine AI (Gm rfl (Gt (Af C3 rfl) (Gt (AF rfl A1 .m2 Order.l0 rfl rfl) ?_)))
  refine DA Ing.Event.enc 56 16 ?_
  refine BE rfl bo (.c rfl (.c rfl .n)) (.c (.t .h) (.c .h .n)) (QH _ (⟨X, b, []⟩ : AG) _ o.verb rfl hF (by omega) (Nat.zero_le _)) (fun w hS => gl0.pull gm0 hS (.c (.t .h) (.c .h .n))) (fun v5 B hv => ?_)
  obtain ⟨y6, rfl, y7, rfl⟩ := hv
  refine AP (AB (.t2 6 9) ?_)
  refine AT (AA (Ao ?_))
  refine BF (N := 11) [0, 1, 3, 7, 0, 16, 48, 112, 15, 511, 1023] mix (by kernel_rfl) rfl ?_
  refine Pf 0 rfl (AE rfl) (Pf 1 rfl (BS rfl) (Pf 2 rfl (Af A6 rfl) (Pf 3 rfl (AZ rfl BT .m0 Ad.l0 rfl) (Pf 4 rfl (AE rfl) (Pf 5 rfl (BS rfl) (Pf 6 rfl (Af CH rfl) (Pf 7 rfl (AF rfl DV .m0 Ad.l2 rfl rfl) ?_)))))))
  refine An 8 rfl (by kernel_rfl) ?_
  refine AQ (AJ (AS.id AH.fl.len AH.fl.one) rfl rfl rfl Dv rfl (.t (.t .h))) ?_
  refine BL rfl ⟨?_, ?_⟩
  · exact (Po rfl (AF rfl DV .m0 Ad.l2 rfl rfl) rfl rfl (Po rfl (Af CH rfl) rfl rfl (Po rfl (BS rfl) rfl rfl (Po rfl (AE rfl) rfl rfl (Pk (Pk (Pk (Pk Au))))))))
  refine Pf 9 rfl (Az rfl) (Pf 10 rfl (Az rfl) ?_)
  refine A2 (by kernel_rfl) ?_
  refine AB (.t3 6 7 8) ?_
  refine AA (Ab ?_)
  refine AY rfl (.cell rfl .m2 (.inl ⟨(by rw [AH.fl.len]; exact BT), rfl⟩) (.tmp rfl (.tmp rfl .n))) ?_
  intro w1 hS
  have hS := (hS.perm (Av.perm (.c (.t .h) .n))).Ay
  have ha : AG.act (⟨X, b, []⟩ : AG) o = _ := (BA c4)
  have hq : AG.Fe X b o = ((AG.act (⟨X, b, []⟩ : AG) o).w, (AG.act (⟨X, b, []⟩ : AG) o).out, 0) := ((AU c1).trans ((AU c2).trans (AU c3)))
  rw [ha] at hq
  refine ⟨_, ⟨?gq4, ?hv4, ?hl4, ?hB4⟩, hS⟩
  case hB4 => rw [hq]; (try rfl)
  case hv4 => rw [hq]; (try rfl)
  case hl4 => rw [hq]; (try dsimp only); exact y7
 have c4p := kz c4
 refine Gs (Gt (Af C3 rfl) (Gt (AF rfl A1 .m2 Order.l0 rfl rfl) (Gt (Ag rfl rfl) (Ga rfl (Gn (.t5 1 5 6 9 56) ?_)))))
 refine Gc (fun c5 => ?_) (fun c5 => ?_)
 ·
  refine AI (Gm rfl ?_)
  refine DA Ing.Event.enc 56 16 ?_
  refine BE rfl Sx (.c rfl .n) (.c (.t .h) (.c .h .n)) (Gg _ (⟨X, b, []⟩ : AG) _ rfl hF.b hF.br (Nat.zero_le _)) (fun w hS => gl0.pull gm0 hS (.c (.t .h) (.c .h .n))) (fun v9 B hv => ?_)
  obtain ⟨y10, rfl, y11, rfl⟩ := hv
  refine AP (AB (.t2 6 9) ?_)
  refine AT (AA (Ao ?_))
  refine BF (N := 11) [0, 1, 3, 7, 0, 16, 48, 112, 15, 511, 1023] mix (by kernel_rfl) rfl ?_
  refine Pf 0 rfl (AE rfl) (Pf 1 rfl (BS rfl) (Pf 2 rfl (Af A6 rfl) (Pf 3 rfl (AZ rfl BT .m0 Ad.l0 rfl) (Pf 4 rfl (AE rfl) (Pf 5 rfl (BS rfl) (Pf 6 rfl (Af CH rfl) (Pf 7 rfl (AF rfl DV .m0 Ad.l2 rfl rfl) ?_)))))))
  refine An 8 rfl (by kernel_rfl) ?_
  refine AQ (AJ (AS.id AH.fl.len AH.fl.one) rfl rfl rfl Dv rfl (.t (.t .h))) ?_
  refine BL rfl ⟨?_, ?_⟩
  · exact (Po rfl (AF rfl DV .m0 Ad.l2 rfl rfl) rfl rfl (Po rfl (Af CH rfl) rfl rfl (Po rfl (BS rfl) rfl rfl (Po rfl (AE rfl) rfl rfl (Pk (Pk (Pk (Pk Au))))))))
  refine Pf 9 rfl (Az rfl) (Pf 10 rfl (Az rfl) ?_)
  refine A2 (by kernel_rfl) ?_
  refine AB (.t3 6 7 8) ?_
  refine AA (Ab ?_)
  refine AY rfl (.cell rfl .m2 (.inl ⟨(by rw [AH.fl.len]; exact BT), rfl⟩) (.tmp rfl (.tmp rfl .n))) ?_
  intro w1 hS
  have hS := (hS.perm (Av.perm (.c (.t .h) .n))).Ay
  have ha : AG.act (⟨X, b, []⟩ : AG) o = _ := ((AU c4).trans (BA c5))
  have hq : AG.Fe X b o = ((AG.act (⟨X, b, []⟩ : AG) o).w, (AG.act (⟨X, b, []⟩ : AG) o).out, 0) := ((AU c1).trans ((AU c2).trans (AU c3)))
  rw [ha] at hq
  refine ⟨_, ⟨?gq5, ?hv5, ?hl5, ?hB5⟩, hS⟩
  case hB5 => rw [hq]; (try rfl)
  case hv5 => rw [hq]; (try rfl)
  case hl5 => rw [hq]; (try dsimp only); exact y11
 have c5p := kz c5
 refine Gs (Gt (Af C3 rfl) (Gt (AF rfl A1 .m2 Order.l0 rfl rfl) (Gt (Ag rfl rfl) (Ga rfl (Gn (.t5 1 5 6 9 62) ?_)))))
 refine Gc (fun c6 => ?_) (fun c6 => ?_)
 ·
  have c6p := kz c6
  refine AI (Gm rfl (Gm rfl (Gt (BS rfl) (Gt (Af A6 rfl) (Gt (AZ rfl BT .m0 Ad.l0 rfl) (Gm rfl ?_))))))
  refine Ah rfl Qt (.c rfl (.c rfl (.c rfl .n))) .n (Ew _ _ _) (fun v12 B hv => ?_)
  obtain ⟨y13, rfl, y14, rfl⟩ := hv
  refine DA Ing.Event.enc 56 16 ?_
  refine Ah rfl Xt (.c rfl (.c rfl (.c rfl .n))) (.c (.t (.t .h)) (.c .h (.c .h .n))) (LQ _ (⟨X, b, []⟩ : AG) _ [89, 111, 117, 32, 104, 97, 118, 101] _ (X.has 1 b) rfl hF.b (by assumption) (AH.Hg _ _ _) (fun i hi => AH.GX hi) hF.br (by decide) (Nat.zero_le _)) (fun v17 B hv => ?_)
  obtain ⟨y18, rfl, y19, rfl⟩ := hv
  refine AP (AB (.t2 6 9) ?_)
  refine AT (AA (Ao ?_))
  refine BF (N := 11) [0, 1, 3, 7, 0, 16, 48, 112, 15, 511, 1023] mix (by kernel_rfl) rfl ?_
  refine Pf 0 rfl (AE rfl) (Pf 1 rfl (BS rfl) (Pf 2 rfl (Af A6 rfl) (Pf 3 rfl (AZ rfl BT .m0 Ad.l0 rfl) (Pf 4 rfl (AE rfl) (Pf 5 rfl (BS rfl) (Pf 6 rfl (Af CH rfl) (Pf 7 rfl (AF rfl DV .m0 Ad.l2 rfl rfl) ?_)))))))
  refine An 8 rfl (by kernel_rfl) ?_
  refine AQ (AJ (AS.id AH.fl.len AH.fl.one) rfl rfl rfl Dv rfl (.t (.t (.t .h)))) ?_
  refine BL rfl ⟨?_, ?_⟩
  · exact (Po rfl (AF rfl DV .m0 Ad.l2 rfl rfl) rfl rfl (Po rfl (Af CH rfl) rfl rfl (Po rfl (BS rfl) rfl rfl (Po rfl (AE rfl) rfl rfl (Pk (Pk (Pk (Pk Au))))))))
  refine Pf 9 rfl (Az rfl) (Pf 10 rfl (Az rfl) ?_)
  refine A2 (by kernel_rfl) ?_
  refine AB (.t3 6 7 8) ?_
  refine AA (Ab ?_)
  refine AY rfl (.cell rfl .m3 (.inl ⟨(by rw [AH.fl.len]; exact BT), rfl⟩) (.tmp rfl (.tmp rfl .n))) ?_
  intro w1 hS
  have hS := (hS.perm (Av.perm (.c (.t .h) .n))).Ay
  have ha : AG.act (⟨X, b, []⟩ : AG) o = _ := ((AU c4).trans ((AU c5).trans (BA c6)))
  have hq : AG.Fe X b o = ((AG.act (⟨X, b, []⟩ : AG) o).w, (AG.act (⟨X, b, []⟩ : AG) o).out, 0) := ((AU c1).trans ((AU c2).trans (AU c3)))
  rw [ha] at hq
  refine ⟨_, ⟨?gq6, ?hv6, ?hl6, ?hB6⟩, hS⟩
  case hB6 => rw [hq]; (try rfl)
  case hv6 => rw [hq]; (try rfl)
  case hl6 => rw [hq]; (try dsimp only); exact y19
 have c6p := kz c6
 refine Gs (Gt (Af C3 rfl) (Gt (AF rfl A1 .m2 Order.l0 rfl rfl) (Gt (Ag rfl rfl) (Ga rfl (Gn (.t4 5 6 9 74) ?_)))))
 refine Gc (fun c7 => ?_) (fun c7 => ?_)
 ·
  refine AI (Gm rfl (Gt (Af P8 rfl) (Gt (AF rfl CD .m2 Order.l5 rfl rfl) (Gt (BC N6 Hb rfl (.cons Ing.Event.l0 rfl rfl rfl (.cons Ing.Event.l3 rfl rfl rfl (.cons Ing.Event.l9 rfl rfl rfl .nil)))) ?_))))
  refine DA Ing.Event.enc 56 16 ?_
  refine Ah rfl NN (.c rfl (.c rfl .n)) (.c (.t .h) (.c .h .n)) (CL _ (⟨X, b, []⟩ : AG) _ { AG.GH 7 with text := o.text } rfl hF.b (show (-1 : Int) < 6 by decide) (Nat.zero_le _)) (fun v21 B hv => ?_)
  obtain ⟨y22, rfl, y23, rfl⟩ := hv
  refine AP (AB (.t2 6 9) ?_)
  refine AT (AA (Ao ?_))
  refine BF (N := 11) [0, 1, 3, 7, 0, 16, 48, 112, 15, 511, 1023] mix (by kernel_rfl) rfl ?_
  refine Pf 0 rfl (AE rfl) (Pf 1 rfl (BS rfl) (Pf 2 rfl (Af A6 rfl) (Pf 3 rfl (AZ rfl BT .m0 Ad.l0 rfl) (Pf 4 rfl (AE rfl) (Pf 5 rfl (BS rfl) (Pf 6 rfl (Af CH rfl) (Pf 7 rfl (AF rfl DV .m0 Ad.l2 rfl rfl) ?_)))))))
  refine An 8 rfl (by kernel_rfl) ?_
  refine AQ (AJ (AS.id AH.fl.len AH.fl.one) rfl rfl rfl Dv rfl (.t (.t .h))) ?_
  refine BL rfl ⟨?_, ?_⟩
  · exact (Po rfl (AF rfl DV .m0 Ad.l2 rfl rfl) rfl rfl (Po rfl (Af CH rfl) rfl rfl (Po rfl (BS rfl) rfl rfl (Po rfl (AE rfl) rfl rfl (Pk (Pk (Pk (Pk Au))))))))
  refine Pf 9 rfl (Az rfl) (Pf 10 rfl (Az rfl) ?_)
  refine A2 (by kernel_rfl) ?_
  refine AB (.t3 6 7 8) ?_
  refine AA (Ab ?_)
  refine AY rfl (.cell rfl .m2 (.inl ⟨(by rw [AH.fl.len]; exact BT), rfl⟩) (.tmp rfl (.tmp rfl .n))) ?_
  intro w1 hS
  have hS := (hS.perm (Av.perm (.c (.t .h) .n))).Ay
  have ha : AG.act (⟨X, b, []⟩ : AG) o = _ := ((AU c4).trans ((AU c5).trans ((AU c6).trans (BA c7))))
  have hq : AG.Fe X b o = ((AG.act (⟨X, b, []⟩ : AG) o).w, (AG.act (⟨X, b, []⟩ : AG) o).out, 0) := ((AU c1).trans ((AU c2).trans (AU c3)))
  rw [ha] at hq
  refine ⟨_, ⟨?gq7, ?hv7, ?hl7, ?hB7⟩, hS⟩
  case hB7 => rw [hq]; (try rfl)
  case hv7 => rw [hq]; (try rfl)
  case hl7 => rw [hq]; (try dsimp only); exact y23
 have c7p := kz c7
 refine Gs (Gt (Af C3 rfl) (Gt (AF rfl A1 .m2 Order.l0 rfl rfl) (Gt (Ag rfl rfl) (Ga rfl (Gn (.t4 5 6 9 83) ?_)))))
 refine Gc (fun c8 => ?_) (fun c8 => ?_)
 ·
  refine AI (Gm rfl ?_)
  refine DA Ing.Event.enc 56 16 ?_
  refine Ah rfl aJ (.c rfl .n) (.c (.t .h) (.c .h .n)) (Px _ (⟨X, b, []⟩ : AG) _ rfl hF (Nat.zero_le _)) (fun v25 B hv => ?_)
  obtain ⟨y26, rfl, y27, rfl⟩ := hv
  refine AP (AB (.t2 6 9) ?_)
  refine AT (AA (Ao ?_))
  refine BF (N := 11) [0, 1, 3, 7, 0, 16, 48, 112, 15, 511, 1023] mix (by kernel_rfl) rfl ?_
  refine Pf 0 rfl (AE rfl) (Pf 1 rfl (BS rfl) (Pf 2 rfl (Af A6 rfl) (Pf 3 rfl (AZ rfl BT .m0 Ad.l0 rfl) (Pf 4 rfl (AE rfl) (Pf 5 rfl (BS rfl) (Pf 6 rfl (Af CH rfl) (Pf 7 rfl (AF rfl DV .m0 Ad.l2 rfl rfl) ?_)))))))
  refine An 8 rfl (by kernel_rfl) ?_
  refine AQ (AJ (AS.id AH.fl.len AH.fl.one) rfl rfl rfl Dv rfl (.t (.t .h))) ?_
  refine BL rfl ⟨?_, ?_⟩
  · exact (Po rfl (AF rfl DV .m0 Ad.l2 rfl rfl) rfl rfl (Po rfl (Af CH rfl) rfl rfl (Po rfl (BS rfl) rfl rfl (Po rfl (AE rfl) rfl rfl (Pk (Pk (Pk (Pk Au))))))))
  refine Pf 9 rfl (Az rfl) (Pf 10 rfl (Az rfl) ?_)
  refine A2 (by kernel_rfl) ?_
  refine AB (.t3 6 7 8) ?_
  refine AA (Ab ?_)
  refine AY rfl (.cell rfl .m2 (.inl ⟨(by rw [AH.fl.len]; exact BT), rfl⟩) (.tmp rfl (.tmp rfl .n))) ?_
  intro w1 hS
  have hS := (hS.perm (Av.perm (.c (.t .h) .n))).Ay
  have ha : AG.act (⟨X, b, []⟩ : AG) o = _ := ((AU c4).trans ((AU c5).trans ((AU c6).trans ((AU c7).trans (BA c8)))))
  have hq : AG.Fe X b o = ((AG.act (⟨X, b, []⟩ : AG) o).w, (AG.act (⟨X, b, []⟩ : AG) o).out, 0) := ((AU c1).trans ((AU c2).trans (AU c3)))
  rw [ha] at hq
  refine ⟨_, ⟨?gq8, ?hv8, ?hl8, ?hB8⟩, hS⟩
  case hB8 => rw [hq]; (try rfl)
  case hv8 => rw [hq]; (try rfl)
  case hl8 => rw [hq]; (try dsimp only); exact y27
 have c8p := kz c8
 refine Gs (Gt (Af C3 rfl) (Gt (AF rfl A1 .m2 Order.l0 rfl rfl) (Gt (Ag rfl rfl) (Ga rfl (Gn (.t4 5 6 9 89) ?_)))))
 refine Gc (fun c9 => ?_) (fun c9 => ?_)
 ·
  refine AI (Gm rfl (Gt (AZ rfl B8 .m2 (AS.id Order.fl.len Order.fl.one) rfl) ?_))
  refine DA Ing.Event.enc 56 16 ?_
  refine BE rfl Zh (.c rfl (.c rfl .n)) (.c (.t .h) (.c .h .n)) (OX _ (⟨X, b, []⟩ : AG) _ o rfl hF hm (Nat.zero_le _)) (fun w hS => ⟨gl1.pull gm1 hS (.c (.t .h) (.c .h .n)), gl2.pull gm2 hS (.c (.t .h) (.c .h .n))⟩) (fun v29 B hv => ?_)
  obtain ⟨y30, rfl, y31, rfl⟩ := hv
  refine AP (AB (.t2 6 9) ?_)
  refine AT (AA (Ao ?_))
  refine BF (N := 11) [0, 1, 3, 7, 0, 16, 48, 112, 15, 511, 1023] mix (by kernel_rfl) rfl ?_
  refine Pf 0 rfl (AE rfl) (Pf 1 rfl (BS rfl) (Pf 2 rfl (Af A6 rfl) (Pf 3 rfl (AZ rfl BT .m0 Ad.l0 rfl) (Pf 4 rfl (AE rfl) (Pf 5 rfl (BS rfl) (Pf 6 rfl (Af CH rfl) (Pf 7 rfl (AF rfl DV .m0 Ad.l2 rfl rfl) ?_)))))))
  refine An 8 rfl (by kernel_rfl) ?_
  refine AQ (AJ (AS.id AH.fl.len AH.fl.one) rfl rfl rfl Dv rfl (.t (.t .h))) ?_
  refine BL rfl ⟨?_, ?_⟩
  · exact (Po rfl (AF rfl DV .m0 Ad.l2 rfl rfl) rfl rfl (Po rfl (Af CH rfl) rfl rfl (Po rfl (BS rfl) rfl rfl (Po rfl (AE rfl) rfl rfl (Pk (Pk (Pk (Pk Au))))))))
  refine Pf 9 rfl (Az rfl) (Pf 10 rfl (Az rfl) ?_)
  refine A2 (by kernel_rfl) ?_
  refine AB (.t3 6 7 8) ?_
  refine AA (Ab ?_)
  refine AY rfl (.cell rfl .m2 (.inl ⟨(by rw [AH.fl.len]; exact BT), rfl⟩) (.tmp rfl (.tmp rfl .n))) ?_
  intro w1 hS
  have hS := (hS.perm (Av.perm (.c (.t .h) .n))).Ay
  have ha : AG.act (⟨X, b, []⟩ : AG) o = _ := ((AU c4).trans ((AU c5).trans ((AU c6).trans ((AU c7).trans ((AU c8).trans (BA c9))))))
  have hq : AG.Fe X b o = ((AG.act (⟨X, b, []⟩ : AG) o).w, (AG.act (⟨X, b, []⟩ : AG) o).out, 0) := ((AU c1).trans ((AU c2).trans (AU c3)))
  rw [ha] at hq
  refine ⟨_, ⟨?gq9, ?hv9, ?hl9, ?hB9⟩, hS⟩
  case hB9 => rw [hq]; (try rfl)
  case hv9 => rw [hq]; (try rfl)
  case hl9 => rw [hq]; (try dsimp only); exact y31
 have c9p := kz c9
 refine Gs (Gt (Af C3 rfl) (Gt (AF rfl A1 .m2 Order.l0 rfl rfl) (Gt (Ag rfl rfl) (Ga rfl (Gn (.t4 5 6 9 96) ?_)))))
 refine Gc (fun c10 => ?_) (fun c10 => ?_)
 ·
  refine AI (Gm rfl (Gt (AZ rfl B8 .m2 (AS.id Order.fl.len Order.fl.one) rfl) ?_))
  refine DA Ing.Event.enc 56 16 ?_
  refine BE rfl ZP (.c rfl (.c rfl .n)) (.c (.t .h) (.c .h .n)) (Q5 _ (⟨X, b, []⟩ : AG) _ o rfl hF hu (Nat.zero_le _)) (fun w hS => ⟨gl1.pull gm1 hS (.c (.t .h) (.c .h .n)), gl2.pull gm2 hS (.c (.t .h) (.c .h .n))⟩) (fun v33 B hv => ?_)
  obtain ⟨y34, rfl, y35, rfl⟩ := hv
  refine AP (AB (.t2 6 9) ?_)
  refine AT (AA (Ao ?_))
  refine BF (N := 11) [0, 1, 3, 7, 0, 16, 48, 112, 15, 511, 1023] mix (by kernel_rfl) rfl ?_
  refine Pf 0 rfl (AE rfl) (Pf 1 rfl (BS rfl) (Pf 2 rfl (Af A6 rfl) (Pf 3 rfl (AZ rfl BT .m0 Ad.l0 rfl) (Pf 4 rfl (AE rfl) (Pf 5 rfl (BS rfl) (Pf 6 rfl (Af CH rfl) (Pf 7 rfl (AF rfl DV .m0 Ad.l2 rfl rfl) ?_)))))))
  refine An 8 rfl (by kernel_rfl) ?_
  refine AQ (AJ (AS.id AH.fl.len AH.fl.one) rfl rfl rfl Dv rfl (.t (.t .h))) ?_
  refine BL rfl ⟨?_, ?_⟩
  · exact (Po rfl (AF rfl DV .m0 Ad.l2 rfl rfl) rfl rfl (Po rfl (Af CH rfl) rfl rfl (Po rfl (BS rfl) rfl rfl (Po rfl (AE rfl) rfl rfl (Pk (Pk (Pk (Pk Au))))))))
  refine Pf 9 rfl (Az rfl) (Pf 10 rfl (Az rfl) ?_)
  refine A2 (by kernel_rfl) ?_
  refine AB (.t3 6 7 8) ?_
  refine AA (Ab ?_)
  refine AY rfl (.cell rfl .m2 (.inl ⟨(by rw [AH.fl.len]; exact BT), rfl⟩) (.tmp rfl (.tmp rfl .n))) ?_
  intro w1 hS
  have hS := (hS.perm (Av.perm (.c (.t .h) .n))).Ay
  have ha : AG.act (⟨X, b, []⟩ : AG) o = _ := ((AU c4).trans ((AU c5).trans ((AU c6).trans ((AU c7).trans ((AU c8).trans ((AU c9).trans (BA c10)))))))
  have hq : AG.Fe X b o = ((AG.act (⟨X, b, []⟩ : AG) o).w, (AG.act (⟨X, b, []⟩ : AG) o).out, 0) := ((AU c1).trans ((AU c2).trans (AU c3)))
  rw [ha] at hq
  refine ⟨_, ⟨?gq10, ?hv10, ?hl10, ?hB10⟩, hS⟩
  case hB10 => rw [hq]; (try rfl)
  case hv10 => rw [hq]; (try rfl)
  case hl10 => rw [hq]; (try dsimp only); exact y35
 have c10p := kz c10
 refine Gs (Gt (Af C3 rfl) (Gt (AF rfl A1 .m2 Order.l0 rfl rfl) (Gt (Ag rfl rfl) (Gm rfl (BW 107 rfl rfl (fun q => Af C3 rfl) (BW 107 rfl rfl (fun q => AF (cF rfl q) A1 .m2 Order.l0 rfl rfl) (BW 107 rfl rfl (fun q => Ag (cF rfl q) rfl) ?_)))))))
 refine Gt (BR rfl rfl (fun h => by rw [h]; rfl)) ?_
 refine Gm rfl (BW 112 rfl rfl (fun q => Af C3 rfl) (BW 112 rfl rfl (fun q => AF (cF rfl q) A1 .m2 Order.l0 rfl rfl) (BW 112 rfl rfl (fun q => Ag (cF rfl q) rfl) ?_)))
 refine Gt (BR rfl rfl (fun h => by rw [h]; rfl)) ?_
 refine Ga rfl (Gn (.t4 5 6 9 103) ?_)
 refine Gc (fun c11 => ?_) (fun c11 => ?_)
 ·
  have c11p := kz c11
  refine AI (Gm rfl (Gt (AZ rfl B8 .m2 (AS.id Order.fl.len Order.fl.one) rfl) ?_))
  refine DA Ing.Event.enc 56 16 ?_
  refine BE rfl Zg (.c rfl (.c rfl .n)) (.c (.t .h) (.c .h .n)) (QY _ (⟨X, b, []⟩ : AG) _ o rfl hF (by omega) hu (Nat.zero_le _)) (fun w hS => ⟨gl1.pull gm1 hS (.c (.t .h) (.c .h .n)), gl2.pull gm2 hS (.c (.t .h) (.c .h .n))⟩) (fun v37 B hv => ?_)
  obtain ⟨y38, rfl, y39, rfl⟩ := hv
  refine AP (AB (.t2 6 9) ?_)
  refine AT (AA (Ao ?_))
  refine BF (N := 11) [0, 1, 3, 7, 0, 16, 48, 112, 15, 511, 1023] mix (by kernel_rfl) rfl ?_
  refine Pf 0 rfl (AE rfl) (Pf 1 rfl (BS rfl) (Pf 2 rfl (Af A6 rfl) (Pf 3 rfl (AZ rfl BT .m0 Ad.l0 rfl) (Pf 4 rfl (AE rfl) (Pf 5 rfl (BS rfl) (Pf 6 rfl (Af CH rfl) (Pf 7 rfl (AF rfl DV .m0 Ad.l2 rfl rfl) ?_)))))))
  refine An 8 rfl (by kernel_rfl) ?_
  refine AQ (AJ (AS.id AH.fl.len AH.fl.one) rfl rfl rfl Dv rfl (.t (.t .h))) ?_
  refine BL rfl ⟨?_, ?_⟩
  · exact (Po rfl (AF rfl DV .m0 Ad.l2 rfl rfl) rfl rfl (Po rfl (Af CH rfl) rfl rfl (Po rfl (BS rfl) rfl rfl (Po rfl (AE rfl) rfl rfl (Pk (Pk (Pk (Pk Au))))))))
  refine Pf 9 rfl (Az rfl) (Pf 10 rfl (Az rfl) ?_)
  refine A2 (by kernel_rfl) ?_
  refine AB (.t3 6 7 8) ?_
  refine AA (Ab ?_)
  refine AY rfl (.cell rfl .m2 (.inl ⟨(by rw [AH.fl.len]; exact BT), rfl⟩) (.tmp rfl (.tmp rfl .n))) ?_
  intro w1 hS
  have hS := (hS.perm (Av.perm (.c (.t .h) .n))).Ay
  have ha : AG.act (⟨X, b, []⟩ : AG) o = _ := ((AU c4).trans ((AU c5).trans ((AU c6).trans ((AU c7).trans ((AU c8).trans ((AU c9).trans ((AU c10).trans (BA c11))))))))
  have hq : AG.Fe X b o = ((AG.act (⟨X, b, []⟩ : AG) o).w, (AG.act (⟨X, b, []⟩ : AG) o).out, 0) := ((AU c1).trans ((AU c2).trans (AU c3)))
  rw [ha] at hq
  refine ⟨_, ⟨?gq11, ?hv11, ?hl11, ?hB11⟩, hS⟩
  case hB11 => rw [hq]; (try rfl)
  case hv11 => rw [hq]; (try rfl)
  case hl11 => rw [hq]; (try dsimp only); exact y39
 have c11p := kz c11
 refine AI (Gm rfl (Gt (AZ rfl B8 .m2 (AS.id Order.fl.len Order.fl.one) rfl) ?_))
 refine DA Ing.Event.enc 56 16 ?_
 refine BE rfl ZQ (.c rfl (.c rfl .n)) (.c (.t .h) (.c .h .n)) (Qn _ (⟨X, b, []⟩ : AG) _ o rfl hF (by omega) (Nat.zero_le _)) (fun w hS => gl0.pull gm0 hS (.c (.t .h) (.c .h .n))) (fun v41 B hv => ?_)
 obtain ⟨y42, rfl, y43, rfl⟩ := hv
 refine AP (AB (.t2 6 9) ?_)
 refine AT (AA (Ao ?_))
 refine BF (N := 11) [0, 1, 3, 7, 0, 16, 48, 112, 15, 511, 1023] mix (by kernel_rfl) rfl ?_
 refine Pf 0 rfl (AE rfl) (Pf 1 rfl (BS rfl) (Pf 2 rfl (Af A6 rfl) (Pf 3 rfl (AZ rfl BT .m0 Ad.l0 rfl) (Pf 4 rfl (AE rfl) (Pf 5 rfl (BS rfl) (Pf 6 rfl (Af CH rfl) (Pf 7 rfl (AF rfl DV .m0 Ad.l2 rfl rfl) ?_)))))))
 refine An 8 rfl (by kernel_rfl) ?_
 refine AQ (AJ (AS.id AH.fl.len AH.fl.one) rfl rfl rfl Dv rfl (.t (.t .h))) ?_
 refine BL rfl ⟨?_, ?_⟩
 · exact (Po rfl (AF rfl DV .m0 Ad.l2 rfl rfl) rfl rfl (Po rfl (Af CH rfl) rfl rfl (Po rfl (BS rfl) rfl rfl (Po rfl (AE rfl) rfl rfl (Pk (Pk (Pk (Pk Au))))))))
 refine Pf 9 rfl (Az rfl) (Pf 10 rfl (Az rfl) ?_)
 refine A2 (by kernel_rfl) ?_
 refine AB (.t3 6 7 8) ?_
 refine AA (Ab ?_)
 refine AY rfl (.cell rfl .m2 (.inl ⟨(by rw [AH.fl.len]; exact BT), rfl⟩) (.tmp rfl (.tmp rfl .n))) ?_
 intro w1 hS
 have hS := (hS.perm (Av.perm (.c (.t .h) .n))).Ay
 have ha : AG.act (⟨X, b, []⟩ : AG) o = _ := ((AU c4).trans ((AU c5).trans ((AU c6).trans ((AU c7).trans ((AU c8).trans ((AU c9).trans ((AU c10).trans (AU c11))))))))
 have hq : AG.Fe X b o = ((AG.act (⟨X, b, []⟩ : AG) o).w, (AG.act (⟨X, b, []⟩ : AG) o).out, 0) := ((AU c1).trans ((AU c2).trans (AU c3)))
 rw [ha] at hq
 refine ⟨_, ⟨?gq12, ?hv12, ?hl12, ?hB12⟩, hS⟩
 case hB12 => rw [hq]; (try rfl)
 case hv12 => rw [hq]; (try rfl)
 case hl12 => rw [hq]; (try dsimp only); exact y43
theorem Hc (b : Nat) (V : AK) (ls : Vector BI 4) (ev : List Ing.Event) (k : Int) (n m : Nat) (hk : 0 ≤ k ∧ k < 4) (hF : AM.Fit (A3 V ls ev) n m) (hn : n ≤ 900000) (hm : m ≤ 900000) : E9 Tryz.prog 67 #[.pointer (some ⟨b, 0, none⟩), .pointer (some ⟨b, 165 + k.toNat * 22, none⟩)] [Ac.box b 101 (AK.enc V), Ac.De (CB 9 (AK.Ap V) ls), Ac.own (AK.last V) 56 16 ((ev).flatMap Ing.Event.enc)] (fun w => (GV 2 FN w ∧ 2 ∉ CX [Ac.box b 101 (AK.enc V), Ac.De (CB 9 (AK.Ap V) ls), Ac.own (AK.last V) 56 16 ((ev).flatMap Ing.Event.enc)]) ∧ (GV 0 AH.C6 w ∧ 0 ∉ CX [Ac.box b 101 (AK.enc V), Ac.De (CB 9 (AK.Ap V) ls), Ac.own (AK.last V) 56 16 ((ev).flatMap Ing.Event.enc)]) ∧ (GF 7 w ∧ 7 ∉ CX [Ac.box b 101 (AK.enc V), Ac.De (CB 9 (AK.Ap V) ls), Ac.own (AK.last V) 56 16 ((ev).flatMap Ing.Event.enc)]) ∧ (GF 8 w ∧ 8 ∉ CX [Ac.box b 101 (AK.enc V), Ac.De (CB 9 (AK.Ap V) ls), Ac.own (AK.last V) 56 16 ((ev).flatMap Ing.Event.enc)])) (fun v B => ∃ V' ls' ev', v = .tuple #[] ∧ A3 V' ls' ev' = AM.leave (A3 V ls ev) k ∧ B = [Ac.box b 101 (AK.enc V'), Ac.De (CB 9 (AK.Ap V') ls'), Ac.own (AK.last V') 56 16 ((ev').flatMap Ing.Event.enc)]) := by
 intro w hS0 hH
 obtain ⟨⟨gl0, gm0⟩, ⟨gl1, gm1⟩, ⟨gl2, gm2⟩, ⟨gl3, gm3⟩⟩ := hH
 have hbe := UF hF hk.1 hk.2
 refine Ai _ _ Tryz.func67 rfl rfl rfl (hS0) ?_
 refine Ao (Ao ?_)
 refine BF (N := 18) [0, 1, 3, 7, 15, 31, 63, 63, 191, 447, 959, 127, 2175, 6271, 16383, 32767, 65535, 131071] mix (by kernel_rfl) rfl ?_
 refine Pf 0 rfl (AE rfl) (Pf 1 rfl (BS rfl) (Pf 2 rfl (Af IM rfl) (Pf 3 rfl (AF rfl A1 .m0 ((AK.l1.comp (AS.arr (n := 4) A0.fl hk.1 hk.2)).comp A0.l0) rfl rfl) (Pf 4 rfl (Ag rfl rfl) (Pf 5 rfl (AE rfl) (L3 6 12 rfl rfl rfl (fun q => AE rfl) (L3 7 12 rfl rfl rfl (fun q => AE rfl) ?_)))))))
 refine L3 8 12 rfl rfl rfl (fun q => BS (BV rfl q)) (L3 9 12 rfl rfl rfl (fun q => Af Hi (BV rfl q)) (L3 10 12 rfl rfl rfl (fun q => AF (BV rfl q) A1 .m0 ((AK.l1.comp (AS.arr (n := 4) A0.fl hk.1 hk.2)).comp A0.l1) rfl rfl) (L3 11 12 rfl rfl rfl (fun q => BS (BV rfl q)) (L3 12 12 rfl rfl rfl (fun q => Af Dw (BV rfl q)) (L3 13 12 rfl rfl rfl (fun q => Af Bj (BV rfl q)) ?_)))))
 refine BX 14 rfl rfl (by kernel_rfl) (RL (t := 12) rfl rfl (fun q => by have q1 := q; (try simp at q1); exact Hx (AR Cz (BV rfl q) (BV rfl q) (by first | omega | exact hk.1 | exact hk.2) (by first | omega | exact hk.1 | exact hk.2)))) ?_
 refine L3 15 12 rfl rfl rfl (fun q => Af Ho (BV rfl q)) ?_
 refine BX 16 rfl rfl (by kernel_rfl) (RL (t := 12) rfl rfl (fun q => by have q1 := q; (try simp at q1); exact Hx (AF (BV rfl q) Cu .m0 (((AK.l0.comp AH.l2).comp (AS.ar (n := 6) Am.fl (by first | omega | exact hk))).comp Am.l1) rfl rfl))) ?_
 refine Pf 17 rfl (BG rfl rfl (fun h => h)) ?_
 refine A2 (by kernel_rfl) ?_
 refine AB (.t3 0 1 24) ?_
 refine AA ?_
 refine Gc (fun c1 => ?_) (fun c1 => ?_)
 ·
  have c1p := kz c1
  have hdl := AG.Mg V.w (V.Ap.at k).A7 AM.FY
  have hds := AG.Me (b := (V.Ap.at k).A7) (o := AM.FY) hF.HB AM.PL
  refine Ao ?_
  refine BF (N := 18) [0, 1, 3, 7, 0, 16, 48, 112, 0, 511, 1023, 2047, 2047, 2047, 0, 20479, 57343, 131071] mix (by kernel_rfl) rfl ?_
  refine Pf 0 rfl (AE rfl) (Pf 1 rfl (BS rfl) (Pf 2 rfl (Af Dw rfl) (Pf 3 rfl (AZ rfl BT .m0 AK.l0 rfl) (Pf 4 rfl (AE rfl) (Pf 5 rfl (BS rfl) (Pf 6 rfl (Af Hi rfl) (Pf 7 rfl (AF rfl A1 .m0 ((AK.l1.comp (AS.arr (n := 4) A0.fl hk.1 hk.2)).comp A0.l1) rfl rfl) ?_)))))))
  refine Pf 8 rfl (BC Q9 Kl rfl (.cons Order.l0 rfl rfl rfl .nil)) ?_
  refine JO 9 14 rfl rfl (by kernel_rfl) ?_ ?_
  ·
   refine BE rfl Xa (.c rfl (.c rfl (.c rfl .n))) .n (Fw V.w (V.Ap.at k).A7 AM.FY hF.HB.ME (Nat.zero_le _) (Nat.zero_le _)) (fun w hS => ⟨gl1.pull gm1 hS .n, gl2.pull gm2 hS .n, gl3.pull gm3 hS .n⟩) (fun v1 B hv => ?_)
   obtain ⟨y2, rfl, y3, rfl⟩ := hv
   refine Bp rfl ⟨?_, ?_⟩
   · exact (Pk (Pk (Pk (Pk (Pk (Pk (Pk (Pk (Pk Au)))))))))
   refine Pf 10 rfl (AE rfl) (Pf 11 rfl (AL rfl rfl) (Pf 12 rfl (AL rfl rfl) (Pf 13 rfl (AL rfl rfl) ?_)))
   refine An 14 rfl (by kernel_rfl) ?_
   refine BD rfl Lw rfl (fun b1 => ?_)
   refine Bp rfl ⟨?_, ?_⟩
   · exact (Po rfl (AL rfl rfl) rfl rfl (Po rfl (AL rfl rfl) rfl rfl (Po rfl (AL rfl rfl) rfl rfl (Po rfl (AE rfl) rfl rfl (Po rfl (BC Q9 Kl rfl (.cons Order.l0 rfl rfl rfl .nil)) rfl rfl (Po rfl (AF rfl A1 .m2 ((AK.l1.comp (AS.arr (n := 4) A0.fl hk.1 hk.2)).comp A0.l1) rfl rfl) rfl rfl (Po rfl (Af Hi rfl) rfl rfl (Po rfl (BS rfl) rfl rfl (Po rfl (AE rfl) rfl rfl (Po rfl (AZ rfl BT .m2 AK.l0 rfl) rfl rfl (Po rfl (Af Dw rfl) rfl rfl (Po rfl (BS rfl) rfl rfl (Po rfl (AE rfl) rfl rfl Au)))))))))))))
   refine An 15 rfl (by kernel_rfl) ?_
   refine AQ (AJ (AS.id AH.fl.len AH.fl.one) rfl rfl rfl Dv rfl .h) ?_
   refine BL rfl ⟨?_, ?_⟩
   · exact (Po rfl (AL rfl rfl) rfl rfl (Po rfl (AL rfl rfl) rfl rfl (Pk (Pk (Pk (Pk (Pk (Pk (Pk (Pk (Pk (Pk (Pk Au)))))))))))))
   refine Pf 16 rfl (Az rfl) (Pf 17 rfl (Az rfl) ?_)
   refine A2 (by kernel_rfl) ?_
   refine AB (.t4 0 1 4 5) ?_
   refine AA (Gs (Gm rfl (Gt (AZ rfl BT .m0 (AS.id AH.fl.len AH.fl.one) rfl) (Gt (BS rfl) (Gt (Af Dw rfl) ?_)))))
   refine AQ (AJ AK.l0 rfl rfl rfl Dv rfl (.t (.t .h))) ?_
   refine Gn (.t3 0 1 5) (Ao ?_)
   refine D7 (.c (.t (.t .h)) (.c (.t (.t .h)) .n)) ?_
   refine Er (k := k) hk.1 hk.2 (fun sv sl hsv hlv hln => ?_)
   refine AI (Gm rfl (Gt (BC UW Uc rfl .nil) (Gt (BS rfl) ?_)))
   refine AQ (AJ (AS.BK { V with w := (AG.Fe V.w (V.Ap.at k).A7 AM.FY).1 } hk.1 hk.2) rfl rfl rfl SL rfl (.t (.t (.t .h)))) ?_
   refine Gn (.t3 0 1 5) ?_
   refine Ep A4 9 1 ?_
   refine Ep A4 9 1 ?_
   refine Ep A4 9 1 ?_
   refine D7 (.c (.t (.t .h)) (.c (.t .h) (.c .h (.c (.t (.t (.t .h))) (.c (.t (.t (.t .h))) .n))))) ?_
   refine Gh hk.1 hk.2 (by rfl) (by rfl) (by rfl) ?_
   refine AI (Gm rfl (Gm rfl ?_))
   refine BE rfl UX (.c rfl (.c rfl .n)) (.c .h (.c .h (.c (.t (.t (.t (.t (.t .h))))) (.c (.t (.t (.t (.t .h)))) .n)))) (Em _ (AK.BK { V with w := (AG.Fe V.w (V.Ap.at k).A7 AM.FY).1 } k default) (ls.put k ⟨[], [], []⟩) ev _ (AG.Fe V.w (V.Ap.at k).A7 AM.FY).2.1 n (by assumption) (F4 (((hF.land hds.1).free hk.1 hk.2) |> fun h => by rw [← Nx, ← Hs hk.1 hk.2] at h; exact h)) (by omega) (Nat.le_trans hF.last (by omega)) (fun e he c _ => hds.2 e he)) (fun w hS => ⟨gl0.pull gm0 hS (.c .h (.c .h (.c (.t (.t (.t (.t (.t .h))))) (.c (.t (.t (.t (.t .h)))) .n)))), gl1.pull gm1 hS (.c .h (.c .h (.c (.t (.t (.t (.t (.t .h))))) (.c (.t (.t (.t (.t .h)))) .n))))⟩) (fun v8 B hv => ?_)
   obtain ⟨y9, y10, y11, rfl, y12, rfl⟩ := hv
   refine Gn (.t1 1) ?_
   refine Er (k := k) hk.1 hk.2 (fun sv sl hsv hlv hln => ?_)
   refine AI (Gm rfl (Gt (BC UW Uc rfl .nil) (Gt (BS rfl) ?_)))
   refine AQ (AJ (AS.BK y9 hk.1 hk.2) rfl rfl rfl SL rfl (.t (.t (.t .h)))) ?_
   refine AP ?_
   refine Bg rfl .n ?_
   intro w1 hS
   have hS := hS.Cl 9 1
   have hS := hS.Cl 9 1
   have hS := hS.Cl 9 1
   have hS := (hS.perm (Av.perm (.c (.t (.t .h)) (.c (.t .h) (.c .h (.c (.t (.t (.t .h))) (.c (.t (.t (.t .h))) (.c (.t (.t (.t .h))) .n)))))))).Ay
   have hS := St.close' (s := default) (qs := []) (ws := []) (ts := []) hk.1 hk.2 rfl rfl rfl hS
   refine ⟨_, ⟨_, _, _, rfl, ?ga1, rfl⟩, hS⟩
   case ga1 => exact QU hk.1 hk.2 c1 y12
  ·
   refine BD rfl Lw rfl (fun b2 => ?_)
   refine Bp rfl ⟨?_, ?_⟩
   · exact (Po rfl (BC Q9 Kl rfl (.cons Order.l0 rfl rfl rfl .nil)) rfl rfl (Po rfl (AF rfl A1 .m1 ((AK.l1.comp (AS.arr (n := 4) A0.fl hk.1 hk.2)).comp A0.l1) rfl rfl) rfl rfl (Po rfl (Af Hi rfl) rfl rfl (Po rfl (BS rfl) rfl rfl (Po rfl (AE rfl) rfl rfl (Po rfl (AZ rfl BT .m1 AK.l0 rfl) rfl rfl (Po rfl (Af Dw rfl) rfl rfl (Po rfl (BS rfl) rfl rfl (Po rfl (AE rfl) rfl rfl Au)))))))))
   refine An 9 rfl (by kernel_rfl) ?_
   refine BE rfl Xa (.c rfl (.c rfl (.c rfl .n))) .n (Fw V.w (V.Ap.at k).A7 AM.FY hF.HB.ME (Nat.zero_le _) (Nat.zero_le _)) (fun w hS => ⟨gl1.pull gm1 hS .n, gl2.pull gm2 hS .n, gl3.pull gm3 hS .n⟩) (fun v16 B hv => ?_)
   obtain ⟨y17, rfl, y18, rfl⟩ := hv
   refine Bp rfl ⟨?_, ?_⟩
   · exact (Pk (Pk (Pk (Pk (Pk (Pk (Pk (Pk (Pk Au)))))))))
   refine Pf 10 rfl (AE rfl) (Pf 11 rfl (AL rfl rfl) (Pf 12 rfl (AL rfl rfl) (Pf 13 rfl (AL rfl rfl) ?_)))
   refine An 15 rfl (by kernel_rfl) ?_
   refine AQ (AJ (AS.id AH.fl.len AH.fl.one) rfl rfl rfl Dv rfl (.t .h)) ?_
   refine BL rfl ⟨?_, ?_⟩
   · exact (Po rfl (AL rfl rfl) rfl rfl (Po rfl (AL rfl rfl) rfl rfl (Pk (Pk (Pk (Pk (Pk (Pk (Pk (Pk (Pk (Pk (Pk Au)))))))))))))
   refine Pf 16 rfl (Az rfl) (Pf 17 rfl (Az rfl) ?_)
   refine A2 (by kernel_rfl) ?_
   refine AB (.t4 0 1 4 5) ?_
   refine AA (Gs (Gm rfl (Gt (AZ rfl BT .m1 (AS.id AH.fl.len AH.fl.one) rfl) (Gt (BS rfl) (Gt (Af Dw rfl) ?_)))))
   refine AQ (AJ AK.l0 rfl rfl rfl Dv rfl (.t (.t .h))) ?_
   refine Gn (.t3 0 1 5) (Ao ?_)
   refine D7 (.c (.t (.t .h)) (.c (.t (.t .h)) .n)) ?_
   refine Er (k := k) hk.1 hk.2 (fun sv sl hsv hlv hln => ?_)
   refine AI (Gm rfl (Gt (BC UW Uc rfl .nil) (Gt (BS rfl) ?_)))
   refine AQ (AJ (AS.BK { V with w := (AG.Fe V.w (V.Ap.at k).A7 AM.FY).1 } hk.1 hk.2) rfl rfl rfl SL rfl (.t (.t (.t .h)))) ?_
   refine Gn (.t3 0 1 5) ?_
   refine Ep A4 9 1 ?_
   refine Ep A4 9 1 ?_
   refine Ep A4 9 1 ?_
   refine D7 (.c (.t (.t .h)) (.c (.t .h) (.c .h (.c (.t (.t (.t .h))) (.c (.t (.t (.t .h))) .n))))) ?_
   refine Gh hk.1 hk.2 (by rfl) (by rfl) (by rfl) ?_
   refine AI (Gm rfl (Gm rfl ?_))
   refine BE rfl UX (.c rfl (.c rfl .n)) (.c .h (.c .h (.c (.t (.t (.t (.t (.t .h))))) (.c (.t (.t (.t .h))) .n)))) (Em _ (AK.BK { V with w := (AG.Fe V.w (V.Ap.at k).A7 AM.FY).1 } k default) (ls.put k ⟨[], [], []⟩) ev _ (AG.Fe V.w (V.Ap.at k).A7 AM.FY).2.1 n (by assumption) (F4 (((hF.land hds.1).free hk.1 hk.2) |> fun h => by rw [← Nx, ← Hs hk.1 hk.2] at h; exact h)) (by omega) (Nat.le_trans hF.last (by omega)) (fun e he c _ => hds.2 e he)) (fun w hS => ⟨gl0.pull gm0 hS (.c .h (.c .h (.c (.t (.t (.t (.t (.t .h))))) (.c (.t (.t (.t .h))) .n)))), gl1.pull gm1 hS (.c .h (.c .h (.c (.t (.t (.t (.t (.t .h))))) (.c (.t (.t (.t .h))) .n))))⟩) (fun v23 B hv => ?_)
   obtain ⟨y24, y25, y26, rfl, y27, rfl⟩ := hv
   refine Gn (.t1 1) ?_
   refine Er (k := k) hk.1 hk.2 (fun sv sl hsv hlv hln => ?_)
   refine AI (Gm rfl (Gt (BC UW Uc rfl .nil) (Gt (BS rfl) ?_)))
   refine AQ (AJ (AS.BK y24 hk.1 hk.2) rfl rfl rfl SL rfl (.t (.t (.t .h)))) ?_
   refine AP ?_
   refine Bg rfl .n ?_
   intro w1 hS
   have hS := hS.Cl 9 1
   have hS := hS.Cl 9 1
   have hS := hS.Cl 9 1
   have hS := (hS.perm (Av.perm (.c (.t (.t .h)) (.c (.t .h) (.c .h (.c (.t (.t (.t .h))) (.c (.t (.t (.t .h))) (.c (.t (.t (.t .h))) .n)))))))).Ay
   have hS := St.close' (s := default) (qs := []) (ws := []) (ts := []) hk.1 hk.2 rfl rfl rfl hS
   refine ⟨_, ⟨_, _, _, rfl, ?ga2, rfl⟩, hS⟩
   case ga2 => exact QU hk.1 hk.2 c1 y27
 refine Aa ?_
 refine AB (.t1 1) ?_
 refine AA ?_
 refine Er (k := k) hk.1 hk.2 (fun sv sl hsv hlv hln => ?_)
 refine AI (Gm rfl (Gt (BC UW Uc rfl .nil) (Gt (BS rfl) ?_)))
 refine AQ (AJ (AS.BK V hk.1 hk.2) rfl rfl rfl SL rfl (.t (.t (.t .h)))) ?_
 refine AP ?_
 refine Bg rfl .n ?_
 intro w1 hS
 have hS := hS.Cl 9 1
 have hS := hS.Cl 9 1
 have hS := hS.Cl 9 1
 have hS := (hS.perm (Av.perm (.c (.t (.t .h)) (.c (.t .h) (.c .h (.c (.t (.t (.t .h))) (.c (.t (.t (.t .h))) (.c (.t (.t (.t .h))) .n)))))))).Ay
 have hS := St.close' (s := default) (qs := []) (ws := []) (ts := []) hk.1 hk.2 rfl rfl rfl hS
 refine ⟨_, ⟨_, _, _, rfl, ?ga3, rfl⟩, hS⟩
 case ga3 => exact TE hk.1 hk.2 c1
theorem ON (b : Nat) (V : AK) (ls : Vector BI 4) (ev : List Ing.Event) (k : Int) (u : As) (n m : Nat) (hk : 0 ≤ k ∧ k < 4) (hF : AM.Fit (A3 V ls ev) n m) (hn : n ≤ 900000) (hm : m ≤ 900000) (hu : u.length ≤ 1000) : E9 Tryz.prog 95 #[.pointer (some ⟨b, 0, none⟩), .pointer (some ⟨b, 165 + k.toNat * 22, none⟩), BQ u] [Ac.box b 101 (AK.enc V), Ac.De (CB 9 (AK.Ap V) ls), Ac.own (AK.last V) 56 16 ((ev).flatMap Ing.Event.enc)] (fun w => (GV 2 FN w ∧ 2 ∉ CX [Ac.box b 101 (AK.enc V), Ac.De (CB 9 (AK.Ap V) ls), Ac.own (AK.last V) 56 16 ((ev).flatMap Ing.Event.enc)]) ∧ (GV 0 AH.C6 w ∧ 0 ∉ CX [Ac.box b 101 (AK.enc V), Ac.De (CB 9 (AK.Ap V) ls), Ac.own (AK.last V) 56 16 ((ev).flatMap Ing.Event.enc)]) ∧ (GF 7 w ∧ 7 ∉ CX [Ac.box b 101 (AK.enc V), Ac.De (CB 9 (AK.Ap V) ls), Ac.own (AK.last V) 56 16 ((ev).flatMap Ing.Event.enc)]) ∧ (GF 8 w ∧ 8 ∉ CX [Ac.box b 101 (AK.enc V), Ac.De (CB 9 (AK.Ap V) ls), Ac.own (AK.last V) 56 16 ((ev).flatMap Ing.Event.enc)])) (fun v B => ∃ V' ls' ev', v = .tuple #[] ∧ A3 V' ls' ev' = AM.order (A3 V ls ev) k u ∧ B = [Ac.box b 101 (AK.enc V'), Ac.De (CB 9 (AK.Ap V') ls'), Ac.own (AK.last V') 56 16 ((ev').flatMap Ing.Event.enc)]) := by
 intro w hS0 hH
 obtain ⟨⟨gl0, gm0⟩, ⟨gl1, gm1⟩, ⟨gl2, gm2⟩, ⟨gl3, gm3⟩⟩ := hH
 have hps := Words.L6 u
 have hdl := AG.Mg V.w (V.Ap.at k).A7 (Words.parse u).1
 have hds := AG.Me (b := (V.Ap.at k).A7) (o := (Words.parse u).1) hF.HB (by have := hps.2.2; omega)
 have htn := F4 hF
 refine Ai _ _ Tryz.func95 rfl rfl rfl (hS0) ?_
 refine Gs (Gm rfl ?_)
 refine A8 rfl aK (.c rfl .n) (fun w hS => Lx u (by omega) w (gl1.stM gm1 hS) (gl2.stM gm2 hS) (gl3.stM gm3 hS)) ?_
 refine Gm rfl (Gt (AL rfl rfl) (Gt (AL rfl rfl) ?_))
 refine BD rfl Kl rfl (fun b1 => ?_)
 refine AQ (AJ (AS.id Order.fl.len Order.fl.one) rfl rfl rfl Dq rfl .h) ?_
 refine Ga rfl (Gn (.t4 0 1 6 7) (CC (Gm rfl (Gt (CT rfl rfl) (Gn (.t4 0 1 6 17) ?_)))))
 refine Gc (fun c1 => ?_) (fun c1 => ?_)
 ·
  have c1p := kz c1
  refine Gs (Gm rfl (Gm rfl ?_))
  refine Ah rfl R7 (.c rfl (.c rfl (.c rfl .n))) (.c (.t .h) (.c (.t .h) (.c (.t .h) .n))) (D5 _ V ls ev k _ hk (Nat.le_trans (htn k hk.1 hk.2) (by omega))) (fun v1 B hv => ?_)
  obtain ⟨y2, y3, y4, rfl, y5, rfl⟩ := hv
  refine Gn (.nil _) (Ab (AD ?_))
  refine AY rfl .n ?_
  intro w1 hS
  have hS := (hS.perm (Av.perm (.c .h (.c .h (.c .h .n))))).Ay
  refine ⟨_, ⟨y2, y3, y4, rfl, ?ga1, rfl⟩, hS⟩
  case ga1 => exact y5.trans (if_pos c1).symm
 have c1p := kz c1
 refine Aa ?_
 refine AB (.t3 0 1 6) ?_
 refine AA (CC (Gt (Af C3 rfl) (Gt (AF rfl A1 .m0 Order.l0 rfl rfl) (Gt (Ag rfl rfl) (Gn (.t4 0 1 6 23) ?_)))))
 refine Gc (fun c2 => ?_) (fun c2 => ?_)
 ·
  refine Gs (Gm rfl (Gm rfl ?_))
  refine BE rfl YX (.c rfl (.c rfl .n)) (.c (.t .h) (.c (.t .h) (.c (.t .h) .n))) (Hc _ V ls ev k n m hk hF hn hm) (fun w hS => ⟨gl0.pull gm0 hS (.c (.t .h) (.c (.t .h) (.c (.t .h) .n))), gl1.pull gm1 hS (.c (.t .h) (.c (.t .h) (.c (.t .h) .n))), gl2.pull gm2 hS (.c (.t .h) (.c (.t .h) (.c (.t .h) .n))), gl3.pull gm3 hS (.c (.t .h) (.c (.t .h) (.c (.t .h) .n)))⟩) (fun v6 B hv => ?_)
  obtain ⟨y7, y8, y9, rfl, y10, rfl⟩ := hv
  refine Gn (.nil _) (Ab (AD ?_))
  refine AY rfl .n ?_
  intro w1 hS
  have hS := (hS.perm (Av.perm (.c .h (.c .h (.c .h .n))))).Ay
  refine ⟨_, ⟨y7, y8, y9, rfl, ?ga2, rfl⟩, hS⟩
  case ga2 => exact y10.trans ((AU c1).trans (BA c2)).symm
 have c2p := kz c2
 refine Aa ?_
 refine AB (.t3 0 1 6) ?_
 refine AA (Ao ?_)
 refine BF (N := 18) [0, 1, 3, 7, 0, 16, 48, 112, 0, 511, 1023, 2047, 2047, 2047, 0, 20479, 57343, 131071] mix (by kernel_rfl) rfl ?_
 refine Pf 0 rfl (AE rfl) (Pf 1 rfl (BS rfl) (Pf 2 rfl (Af Dw rfl) (Pf 3 rfl (AZ rfl BT .m1 AK.l0 rfl) (Pf 4 rfl (AE rfl) (Pf 5 rfl (BS rfl) (Pf 6 rfl (Af Hi rfl) (Pf 7 rfl (AF rfl A1 .m1 ((AK.l1.comp (AS.arr (n := 4) A0.fl hk.1 hk.2)).comp A0.l1) rfl rfl) ?_)))))))
 refine Pf 8 rfl (AZ rfl B8 .m0 (AS.id Order.fl.len Order.fl.one) rfl) ?_
 refine JO 9 14 rfl rfl (by kernel_rfl) ?_ ?_
 ·
  refine BE rfl Xa (.c rfl (.c rfl (.c rfl .n))) .n (Fw V.w (V.Ap.at k).A7 (Words.parse u).1 hF.HB.ME (by have := hps.2.1; omega) (by have := hps.1; omega)) (fun w hS => ⟨gl1.pull gm1 hS .n, gl2.pull gm2 hS .n, gl3.pull gm3 hS .n⟩) (fun v11 B hv => ?_)
  obtain ⟨y12, rfl, y13, rfl⟩ := hv
  refine Bp rfl ⟨?_, ?_⟩
  · exact (Pk (Pk (Pk (Pk (Pk (Pk (Pk (Pk (Pk Au)))))))))
  refine Pf 10 rfl (AE rfl) (Pf 11 rfl (AL rfl rfl) (Pf 12 rfl (AL rfl rfl) (Pf 13 rfl (AL rfl rfl) ?_)))
  refine An 14 rfl (by kernel_rfl) ?_
  refine BD rfl Lw rfl (fun b2 => ?_)
  refine Bp rfl ⟨?_, ?_⟩
  · exact (Po rfl (AL rfl rfl) rfl rfl (Po rfl (AL rfl rfl) rfl rfl (Po rfl (AL rfl rfl) rfl rfl (Po rfl (AE rfl) rfl rfl (Po rfl (AZ rfl B8 .m2 (AS.id Order.fl.len Order.fl.one) rfl) rfl rfl (Po rfl (AF rfl A1 .m3 ((AK.l1.comp (AS.arr (n := 4) A0.fl hk.1 hk.2)).comp A0.l1) rfl rfl) rfl rfl (Po rfl (Af Hi rfl) rfl rfl (Po rfl (BS rfl) rfl rfl (Po rfl (AE rfl) rfl rfl (Po rfl (AZ rfl BT .m3 AK.l0 rfl) rfl rfl (Po rfl (Af Dw rfl) rfl rfl (Po rfl (BS rfl) rfl rfl (Po rfl (AE rfl) rfl rfl Au)))))))))))))
  refine An 15 rfl (by kernel_rfl) ?_
  refine AQ (AJ (AS.id AH.fl.len AH.fl.one) rfl rfl rfl Dv rfl .h) ?_
  refine BL rfl ⟨?_, ?_⟩
  · exact (Po rfl (AL rfl rfl) rfl rfl (Po rfl (AL rfl rfl) rfl rfl (Pk (Pk (Pk (Pk (Pk (Pk (Pk (Pk (Pk (Pk (Pk Au)))))))))))))
  refine Pf 16 rfl (Az rfl) (Pf 17 rfl (Az rfl) ?_)
  refine A2 (by kernel_rfl) ?_
  refine AB (.t3 0 8 9) ?_
  refine AA (Gs (Gm rfl (Gt (AZ rfl BT .m0 (AS.id AH.fl.len AH.fl.one) rfl) (Gt (BS rfl) (Gt (Af Dw rfl) ?_)))))
  refine AQ (AJ AK.l0 rfl rfl rfl Dv rfl (.t (.t (.t .h)))) ?_
  refine Gn (.t2 0 9) (AI (Gm rfl (Gm rfl ?_)))
  refine BE rfl UX (.c rfl (.c rfl .n)) (.c (.t (.t (.t .h))) (.c (.t (.t (.t .h))) (.c (.t (.t (.t .h))) (.c (.t .h) .n)))) (Em _ { V with w := (AG.Fe V.w (V.Ap.at k).A7 (Words.parse u).1).1 } ls ev _ (AG.Fe V.w (V.Ap.at k).A7 (Words.parse u).1).2.1 n (by assumption) htn (by omega) (Nat.le_trans hF.last (by omega)) (fun e he c _ => hds.2 e he)) (fun w hS => ⟨gl0.pull gm0 hS (.c (.t (.t (.t .h))) (.c (.t (.t (.t .h))) (.c (.t (.t (.t .h))) (.c (.t .h) .n)))), gl1.pull gm1 hS (.c (.t (.t (.t .h))) (.c (.t (.t (.t .h))) (.c (.t (.t (.t .h))) (.c (.t .h) .n))))⟩) (fun v15 B hv => ?_)
  obtain ⟨y16, y17, y18, rfl, y19, rfl⟩ := hv
  refine AP ?_
  refine Bg rfl .n ?_
  intro w1 hS
  have hS := (hS.perm (Av.perm (.c .h (.c .h (.c .h .n))))).Ay
  refine ⟨_, ⟨y16, y17, y18, rfl, ?ga3, rfl⟩, hS⟩
  case ga3 => exact S0 hk.1 hk.2 c1 c2 y19
 ·
  refine BD rfl Lw rfl (fun b3 => ?_)
  refine Bp rfl ⟨?_, ?_⟩
  · exact (Po rfl (AZ rfl B8 .m1 (AS.id Order.fl.len Order.fl.one) rfl) rfl rfl (Po rfl (AF rfl A1 .m2 ((AK.l1.comp (AS.arr (n := 4) A0.fl hk.1 hk.2)).comp A0.l1) rfl rfl) rfl rfl (Po rfl (Af Hi rfl) rfl rfl (Po rfl (BS rfl) rfl rfl (Po rfl (AE rfl) rfl rfl (Po rfl (AZ rfl BT .m2 AK.l0 rfl) rfl rfl (Po rfl (Af Dw rfl) rfl rfl (Po rfl (BS rfl) rfl rfl (Po rfl (AE rfl) rfl rfl Au)))))))))
  refine An 9 rfl (by kernel_rfl) ?_
  refine BE rfl Xa (.c rfl (.c rfl (.c rfl .n))) .n (Fw V.w (V.Ap.at k).A7 (Words.parse u).1 hF.HB.ME (by have := hps.2.1; omega) (by have := hps.1; omega)) (fun w hS => ⟨gl1.pull gm1 hS .n, gl2.pull gm2 hS .n, gl3.pull gm3 hS .n⟩) (fun v20 B hv => ?_)
  obtain ⟨y21, rfl, y22, rfl⟩ := hv
  refine Bp rfl ⟨?_, ?_⟩
  · exact (Pk (Pk (Pk (Pk (Pk (Pk (Pk (Pk (Pk Au)))))))))
  refine Pf 10 rfl (AE rfl) (Pf 11 rfl (AL rfl rfl) (Pf 12 rfl (AL rfl rfl) (Pf 13 rfl (AL rfl rfl) ?_)))
  refine An 15 rfl (by kernel_rfl) ?_
  refine AQ (AJ (AS.id AH.fl.len AH.fl.one) rfl rfl rfl Dv rfl (.t .h)) ?_
  refine BL rfl ⟨?_, ?_⟩
  · exact (Po rfl (AL rfl rfl) rfl rfl (Po rfl (AL rfl rfl) rfl rfl (Pk (Pk (Pk (Pk (Pk (Pk (Pk (Pk (Pk (Pk (Pk Au)))))))))))))
  refine Pf 16 rfl (Az rfl) (Pf 17 rfl (Az rfl) ?_)
  refine A2 (by kernel_rfl) ?_
  refine AB (.t3 0 8 9) ?_
  refine AA (Gs (Gm rfl (Gt (AZ rfl BT .m1 (AS.id AH.fl.len AH.fl.one) rfl) (Gt (BS rfl) (Gt (Af Dw rfl) ?_)))))
  refine AQ (AJ AK.l0 rfl rfl rfl Dv rfl (.t (.t (.t .h)))) ?_
  refine Gn (.t2 0 9) (AI (Gm rfl (Gm rfl ?_)))
  refine BE rfl UX (.c rfl (.c rfl .n)) (.c (.t (.t (.t .h))) (.c (.t (.t (.t .h))) (.c (.t (.t (.t .h))) (.c .h .n)))) (Em _ { V with w := (AG.Fe V.w (V.Ap.at k).A7 (Words.parse u).1).1 } ls ev _ (AG.Fe V.w (V.Ap.at k).A7 (Words.parse u).1).2.1 n (by assumption) htn (by omega) (Nat.le_trans hF.last (by omega)) (fun e he c _ => hds.2 e he)) (fun w hS => ⟨gl0.pull gm0 hS (.c (.t (.t (.t .h))) (.c (.t (.t (.t .h))) (.c (.t (.t (.t .h))) (.c .h .n)))), gl1.pull gm1 hS (.c (.t (.t (.t .h))) (.c (.t (.t (.t .h))) (.c (.t (.t (.t .h))) (.c .h .n))))⟩) (fun v24 B hv => ?_)
  obtain ⟨y25, y26, y27, rfl, y28, rfl⟩ := hv
  refine AP ?_
  refine Bg rfl .n ?_
  intro w1 hS
  have hS := (hS.perm (Av.perm (.c .h (.c .h (.c .h .n))))).Ay
  refine ⟨_, ⟨y25, y26, y27, rfl, ?ga4, rfl⟩, hS⟩
  case ga4 => exact S0 hk.1 hk.2 c1 c2 y28
theorem QJ (b : Nat) (V : AK) (ls : Vector BI 4) (ev : List Ing.Event) (k : Int) (n m : Nat) (hk : 0 ≤ k ∧ k < 4) (hF : AM.Fit (A3 V ls ev) n m) (hn : n ≤ 900000) (hm : m ≤ 900000) : E9 Tryz.prog 77 #[.pointer (some ⟨b, 0, none⟩), .pointer (some ⟨b, 165 + k.toNat * 22, none⟩)] [Ac.box b 101 (AK.enc V), Ac.De (CB 9 (AK.Ap V) ls), Ac.own (AK.last V) 56 16 ((ev).flatMap Ing.Event.enc)] (fun w => (GV 2 FN w ∧ 2 ∉ CX [Ac.box b 101 (AK.enc V), Ac.De (CB 9 (AK.Ap V) ls), Ac.own (AK.last V) 56 16 ((ev).flatMap Ing.Event.enc)]) ∧ (GV 0 AH.C6 w ∧ 0 ∉ CX [Ac.box b 101 (AK.enc V), Ac.De (CB 9 (AK.Ap V) ls), Ac.own (AK.last V) 56 16 ((ev).flatMap Ing.Event.enc)]) ∧ (GF 7 w ∧ 7 ∉ CX [Ac.box b 101 (AK.enc V), Ac.De (CB 9 (AK.Ap V) ls), Ac.own (AK.last V) 56 16 ((ev).flatMap Ing.Event.enc)]) ∧ (GF 8 w ∧ 8 ∉ CX [Ac.box b 101 (AK.enc V), Ac.De (CB 9 (AK.Ap V) ls), Ac.own (AK.last V) 56 16 ((ev).flatMap Ing.Event.enc)])) (fun v B => ∃ V' ls' ev', v = .tuple #[] ∧ A3 V' ls' ev' = AM.EV (A3 V ls ev) k ∧ B = [Ac.box b 101 (AK.enc V'), Ac.De (CB 9 (AK.Ap V') ls'), Ac.own (AK.last V') 56 16 ((ev').flatMap Ing.Event.enc)]) := by
 intro w hS0 hH
 obtain ⟨⟨gl0, gm0⟩, ⟨gl1, gm1⟩, ⟨gl2, gm2⟩, ⟨gl3, gm3⟩⟩ := hH
 refine Ai _ _ Tryz.func77 rfl rfl rfl (hS0) ?_
 refine CC (Gm rfl (Gt (BS rfl) (Gt (Af IM rfl) (Gt (AF rfl A1 .m0 ((AK.l1.comp (AS.arr (n := 4) A0.fl hk.1 hk.2)).comp A0.l0) rfl rfl) (Gt (Ag rfl rfl) (Gn (.t3 0 1 11) ?_))))))
 refine Gc (fun c1 => ?_) (fun c1 => ?_)
 ·
  refine Ab (AD ?_)
  refine AY rfl .n ?_
  intro w1 hS
  have hS := (hS.perm (Av.perm (.c .h (.c .h (.c .h .n))))).Ay
  exact ⟨_, ⟨V, ls, ev, rfl, Ti hk.1 hk.2 c1, rfl⟩, hS⟩
 have c1p := kz c1
 refine Aa ?_
 refine AB (.t2 0 1) ?_
 refine AA (Gs (Ga rfl (Gn (.t2 0 1) (Gs (Ga rfl (Gn (.t2 0 1) (Ao ?_)))))))
 refine Ao ?_
 refine Er (k := k) hk.1 hk.2 (fun sv sl hsv hlv hln => ?_)
 refine AI (Gm rfl (Gm rfl (Gt (BS rfl) (Gt (Af Ka rfl) (Gt (AZ rfl HR .m3 ((AS.BK V hk.1 hk.2).comp A0.l3) rfl) ?_)))))
 refine BE rfl cI (.c rfl .n) .n (Nl _ _ (by have h := (UI hF hk.1 hk.2).1; rw [hlv] at h; omega)) (fun w hS => ⟨(Kn.own .m0) w hS, (Tn.own .m0) w hS⟩) (fun v1 B hv => ?_)
 rcases hv with ⟨y2, rfl, rfl⟩ | ⟨y3, y4, y5, y6, rfl, y7, rfl⟩
 ·
  refine Gm rfl (Gt (AL rfl rfl) (Gt (AL rfl rfl) (Gt (AL rfl rfl) (Gt (BS rfl) (Gt (Af Ka rfl) ?_)))))
  refine AQ (AJ ((AS.BK V hk.1 hk.2).comp A0.l3) rfl rfl rfl Lp rfl (.t (.t (.t .h)))) ?_
  refine Ga rfl (Ga rfl (Gn (.t4 0 1 4 5) (Gs (Gm rfl (Gt (BO rfl) (Gn (.t4 0 1 4 25) ?_))))))
  refine FQ rfl rfl ?_
  refine Ab (AD ?_)
  refine AY rfl .n ?_
  intro w1 hS
  have hS := (hS.perm (Av.perm (.c .h (.c .h (.c .h (.c .h (.c .h (.c .h .n)))))))).Ay
  have hS := hS.close' hk.1 hk.2 (by rfl) (by rfl) (by rfl)
  refine ⟨_, ⟨V.BK k sv, ls.put k ⟨sl.queue, sl.wait, sl.told⟩, ev, rfl, ?ga2, rfl⟩, hS⟩
  case ga2 => exact UO hk.1 hk.2 hsv hlv y2 c1
 refine Gm rfl (Gt (AL rfl rfl) (Gt (AL rfl rfl) (Gt (AL rfl rfl) (Gt (BS rfl) (Gt (Af Ka rfl) ?_)))))
 refine AQ (AJ ((AS.BK V hk.1 hk.2).comp A0.l3) rfl rfl rfl Lp rfl (.t (.t (.t (.t .h))))) ?_
 refine Ga rfl (Ga rfl (Gn (.t4 0 1 4 5) (Gs (Gm rfl (Gt (BO rfl) (Gn (.t4 0 1 4 25) ?_))))))
 refine DZ rfl rfl ?_
 refine Aa ?_
 refine AB (.t3 0 1 4) ?_
 refine AA (Gs (Gm rfl (Gt (BS rfl) (Gt (Af Db rfl) (Gt (Af LY rfl) (Gt (AF rfl Cu .m4 (((AS.BK V hk.1 hk.2).comp A0.l4).comp Ar.l2) rfl rfl) (Ga rfl ?_)))))))
 refine Gn (.t4 0 1 4 6) (Gs (Gm rfl (Gm rfl (Gt (BS rfl) (Gt (Af Db rfl) (Gt (AZ rfl Co .m4 ((AS.BK V hk.1 hk.2).comp A0.l4) rfl) ?_))))))
 refine A8 rfl aj (.c rfl .n) (fun w hS => MM _ w) ?_
 refine Gt (BS rfl) (Gt (Af Db rfl) ?_)
 refine AQ (AJ ((AS.BK V hk.1 hk.2).comp A0.l4) rfl rfl rfl E5 rfl (.t (.t (.t (.t .h))))) ?_
 refine Gn (.t4 0 1 4 6) (Ae (Ao ?_))
 refine D7 (.c .h (.c (.t .h) (.c (.t .h) (.c (.t .h) (.c (.t .h) .n))))) ?_
 refine Gh hk.1 hk.2 (by rfl) (by rfl) (by rfl) ?_
 refine AI (Gm rfl (Ga rfl (Gn (.t4 0 1 4 43) ?_)))
 refine Gc (fun c2 => ?_) (fun c2 => ?_)
 ·
  refine Aa ?_
  refine AB (.nil _) ?_
  refine AT ?_
  refine Bg rfl .n ?_
  intro w1 hS
  have hS := (hS.perm (Av.perm (.c .h (.c .h (.c (.t .h) .n))))).Ay
  exact ⟨_, ⟨(AK.BK V k { sv with Dx := ⟨sv.Dx.now, sv.Dx.Cd, sv.Dx.ret, y6⟩, out := ⟨sv.out.wait, 0, false, sv.out.ring, sv.out.cut⟩ }), (ls.put k ⟨y4, sl.wait, sl.told⟩), ev, rfl, (DO (ev := ev) hk.1 hk.2 hsv hlv y5 c1 y6).1.trans ((DO (ev := ev) hk.1 hk.2 hsv hlv y5 c1 y6).2.2.trans (if_pos c2)).symm, rfl⟩, hS⟩
 have c2p := kz c2
 refine Gs (Gm rfl (Gt (BS rfl) (Gt (Af IM rfl) (Gt (AF rfl A1 .m0 ((AK.l1.comp (AS.arr (n := 4) A0.fl hk.1 hk.2)).comp A0.l0) rfl rfl) (Gt (Ag rfl rfl) (Ga rfl (Gn (.t4 0 1 4 45) ?_)))))))
 refine Gc (fun c3 => ?_) (fun c3 => ?_)
 ·
  have c3p := kz c3
  refine AI (Gm rfl (Gm rfl (Gm rfl ?_)))
  refine A8 rfl aB (.c rfl (.c rfl .n)) (fun w hS => Ha y3 (by have h : y3.length ≤ 1000 := (by have h := (hF.queue k hk.1 hk.2).2 y3 (by rw [(DO (ev := ev) hk.1 hk.2 hsv hlv y5 c1 y6).2.1]; exact List.mem_cons_self ..); omega); omega) w) ?_
  refine BE rfl cJ (.c rfl (.c rfl (.c rfl .n))) (.c .h (.c .h (.c (.t .h) .n))) (QL _ (AK.BK V k { sv with Dx := ⟨sv.Dx.now, sv.Dx.Cd, sv.Dx.ret, y6⟩, out := ⟨sv.out.wait, 0, false, sv.out.ring, sv.out.cut⟩ }) (ls.put k ⟨y4, sl.wait, sl.told⟩) ev k _ n m hk (by rw [(DO (ev := ev) hk.1 hk.2 hsv hlv y5 c1 y6).1]; exact hF.FO hk.1 hk.2 (DO (ev := ev) hk.1 hk.2 hsv hlv y5 c1 y6).2.1) hn hm (by have h : y3.length ≤ 1000 := (by have h := (hF.queue k hk.1 hk.2).2 y3 (by rw [(DO (ev := ev) hk.1 hk.2 hsv hlv y5 c1 y6).2.1]; exact List.mem_cons_self ..); omega); have h1 := Words.K4 32 (Words.RG 32 y3); have h2 := Words.Pd 32 y3; omega)) (fun w hS => ⟨gl0.pull gm0 hS (.c .h (.c .h (.c (.t .h) .n))), gl1.pull gm1 hS (.c .h (.c .h (.c (.t .h) .n)))⟩) (fun v9 B hv => ?_)
  obtain ⟨y10, y11, y12, rfl, y13, rfl⟩ := hv
  refine AP (AB (.nil _) ?_)
  refine AT ?_
  refine Bg rfl .n ?_
  intro w1 hS
  have hS := (hS.perm (Av.perm (.c .h (.c .h (.c .h .n))))).Ay
  have c9 : decide (sv.state = 1) = true := by
    have h := c3
    rw [show (AK.Ap (AK.BK V k { sv with Dx := ⟨sv.Dx.now, sv.Dx.Cd, sv.Dx.ret, y6⟩, out := ⟨sv.out.wait, 0, false, sv.out.ring, sv.out.cut⟩ })).at k = _ from Vector.CM hk.1 hk.2] at h
    exact h
  refine ⟨_, ⟨y10, y11, y12, rfl, ?ga4, rfl⟩, hS⟩
  case ga4 => exact y13.trans ((congrArg (fun X => AM.named X k _) (DO (ev := ev) hk.1 hk.2 hsv hlv y5 c1 y6).1).trans ((DO (ev := ev) hk.1 hk.2 hsv hlv y5 c1 y6).2.2.trans ((AU c2).trans (BA c9))).symm)
 have c3p := kz c3
 refine AI (Gm rfl (Gm rfl (Gm rfl ?_)))
 refine BE rfl bw (.c rfl (.c rfl (.c rfl .n))) (.c .h (.c .h (.c (.t .h) .n))) (ON _ (AK.BK V k { sv with Dx := ⟨sv.Dx.now, sv.Dx.Cd, sv.Dx.ret, y6⟩, out := ⟨sv.out.wait, 0, false, sv.out.ring, sv.out.cut⟩ }) (ls.put k ⟨y4, sl.wait, sl.told⟩) ev k _ n m hk (by rw [(DO (ev := ev) hk.1 hk.2 hsv hlv y5 c1 y6).1]; exact hF.FO hk.1 hk.2 (DO (ev := ev) hk.1 hk.2 hsv hlv y5 c1 y6).2.1) hn hm (by have h := (hF.queue k hk.1 hk.2).2 y3 (by rw [(DO (ev := ev) hk.1 hk.2 hsv hlv y5 c1 y6).2.1]; exact List.mem_cons_self ..); omega)) (fun w hS => ⟨gl0.pull gm0 hS (.c .h (.c .h (.c (.t .h) .n))), gl1.pull gm1 hS (.c .h (.c .h (.c (.t .h) .n))), gl2.pull gm2 hS (.c .h (.c .h (.c (.t .h) .n))), gl3.pull gm3 hS (.c .h (.c .h (.c (.t .h) .n)))⟩) (fun v14 B hv => ?_)
 obtain ⟨y15, y16, y17, rfl, y18, rfl⟩ := hv
 refine AP (AB (.nil _) ?_)
 refine AT ?_
 refine Bg rfl .n ?_
 intro w1 hS
 have hS := (hS.perm (Av.perm (.c .h (.c .h (.c .h .n))))).Ay
 have c9 : decide (sv.state = 1) = false := by
   have h := c3
   rw [show (AK.Ap (AK.BK V k { sv with Dx := ⟨sv.Dx.now, sv.Dx.Cd, sv.Dx.ret, y6⟩, out := ⟨sv.out.wait, 0, false, sv.out.ring, sv.out.cut⟩ })).at k = _ from Vector.CM hk.1 hk.2] at h
   exact h
 refine ⟨_, ⟨y15, y16, y17, rfl, ?ga5, rfl⟩, hS⟩
 case ga5 => exact y18.trans ((congrArg (fun X => AM.order X k _) (DO (ev := ev) hk.1 hk.2 hsv hlv y5 c1 y6).1).trans ((DO (ev := ev) hk.1 hk.2 hsv hlv y5 c1 y6).2.2.trans ((AU c2).trans (AU c9))).symm)
theorem NU (X : AH) (b : Int) (hF : (AG.FX X b).Fit) : E9 Tryz.prog 97 #[.agg X.enc.toArray, .int .i64 b] [] (fun w => (GV 0 AH.C6 w ∧ 0 ∉ CX [])) (fun v B => ∃ h : Hd, v = .tuple #[.agg ((AG.IP X b).w.enc).toArray, h.val] ∧ h.len = (AG.IP X b).out.length ∧ B = [Ac.own h 56 16 ((AG.IP X b).out.flatMap Ing.Event.enc)]) := by
 intro w hS0 hH
 obtain ⟨gl0, gm0⟩ := hH
 have hb : 0 ≤ b ∧ b < 6 := hF.b
 refine Ai _ _ Tryz.func97 rfl rfl rfl (hS0) ?_
 refine Gs ?_
 refine Bv rfl rfl rfl (fun b1 => ?_)
 refine BD rfl Lw rfl (fun b2 => ?_)
 refine Ga rfl (Gn (.t3 1 2 4) (Gs (Gt (AZ rfl BT .m1 (AS.id AH.fl.len AH.fl.one) rfl) (Gm rfl (Gt (BC S5 TF rfl (.cons Ad.l0 rfl rfl rfl (.cons Ad.l1 rfl rfl rfl .nil))) ?_)))))
 refine Bv rfl rfl rfl (fun b3 => ?_)
 refine Ga rfl (Gn (.t3 1 4 6) (Gs (Gm rfl (Gm rfl (Gt (BS rfl) (Gt (Af A6 rfl) (Gt (Af Bj rfl) ?_)))))))
 refine Gt (AR Cz rfl rfl (by first | omega | exact hb.1 | exact hb.2 | (dsimp only; omega)) (by first | omega | exact hb.1 | exact hb.2 | (dsimp only; omega))) ?_
 refine Gt (Af I1 rfl) ?_
 refine AQ (AJ (((Ad.l0.comp AH.l2).comp (AS.ar (n := 6) Am.fl (by first | omega | exact hb | (dsimp only; omega)))).comp Am.l4) rfl rfl rfl C4 rfl .h) ?_
 refine Gn (.t3 1 4 6) (Gs (Gm rfl ?_))
 refine DA Ing.Event.enc 56 16 ?_
 refine Ah rfl TP (.c rfl (.c rfl .n)) (.c (.t .h) (.c .h .n)) (Ft _ (AG.FX X b) _ 15 rfl hb (Nat.zero_le _)) (fun v2 B hv => ?_)
 obtain ⟨y3, rfl, y4, rfl⟩ := hv
 refine Gn (.t3 1 4 6) (Gs (Gm rfl ?_))
 refine Ah rfl YC (.c rfl .n) (.c .h .n) (Kp _ ((AG.FX X b).kind 15) _ (hF.P3 rfl rfl)) (fun v5 B hv => ?_)
 obtain ⟨y6, y7, rfl, rfl⟩ := hv
 refine Gn (.t3 1 4 6) (CC (Gm rfl (Gt (A5 rfl rfl) (Gn (.t4 1 4 6 24) ?_))))
 refine Gc (fun c1 => ?_) (fun c1 => ?_)
 ·
  have c1p := kz c1
  refine Gs (Gm rfl (Gm rfl (Gt (BC VL K3 rfl .nil) (Gt (BS rfl) (Gt (Af A6 rfl) (Gt (Af Bj rfl) ?_))))))
  refine Gt (AR Cz rfl rfl (by first | omega | exact hb.1 | exact hb.2 | (dsimp only; omega)) (by first | omega | exact hb.1 | exact hb.2 | (dsimp only; omega))) ?_
  refine AQ (AJ ((Ad.l0.comp AH.l2).comp (AS.ar (n := 6) Am.fl (by first | omega | exact hb | (dsimp only; omega)))) rfl rfl rfl Jr rfl .h) ?_
  refine Gn (.t2 4 6) (Ao ?_)
  refine BF (N := 10) [0, 1, 3, 7, 0, 16, 48, 112, 15, 511] mix (by kernel_rfl) rfl ?_
  refine Pf 0 rfl (AE rfl) (Pf 1 rfl (BS rfl) (Pf 2 rfl (Af A6 rfl) (Pf 3 rfl (AZ rfl BT .m0 Ad.l0 rfl) (Pf 4 rfl (AE rfl) (Pf 5 rfl (BS rfl) (Pf 6 rfl (Af CH rfl) (Pf 7 rfl (AF rfl DV .m0 Ad.l2 rfl rfl) ?_)))))))
  refine An 8 rfl (by kernel_rfl) ?_
  refine AQ (AJ (AS.id AH.fl.len AH.fl.one) rfl rfl rfl Dv rfl (.t (.t .h))) ?_
  refine BL rfl ⟨?_, ?_⟩
  · exact (Po rfl (AF rfl DV .m0 Ad.l2 rfl rfl) rfl rfl (Po rfl (Af CH rfl) rfl rfl (Po rfl (BS rfl) rfl rfl (Po rfl (AE rfl) rfl rfl (Pk (Pk (Pk (Pk Au))))))))
  refine Pf 9 rfl (Az rfl) ?_
  refine A2 (by kernel_rfl) ?_
  refine AB (.t2 4 5) ?_
  refine AA (Ab (AD ?_))
  refine AY rfl (.cell rfl .m2 (.inl ⟨(by rw [AH.fl.len]; exact BT), rfl⟩) (.tmp rfl .n)) ?_
  intro w1 hS
  have hS := (hS.perm (Av.perm (.c (.t .h) .n))).Ay
  have hq : AG.IP X b = _ := BA c1
  rw [AG.Su y7] at hq
  refine ⟨_, ⟨y3, ?hv, ?hl, ?hB⟩, hS⟩
  case hv => rw [hq]; rfl
  case hl => rw [hq]; exact y4
  case hB => rw [hq]
 have c1p := kz c1
 refine Aa ?_
 refine AB (.t3 1 4 6) ?_
 refine AA (Gs (Gm rfl (Gm rfl (Gt (BS rfl) (Gt (Af A6 rfl) (Gt (Af Bj rfl) ?_))))))
 refine Gt (AR Cz rfl rfl (by first | omega | exact hb.1 | exact hb.2 | (dsimp only; omega)) (by first | omega | exact hb.1 | exact hb.2 | (dsimp only; omega))) ?_
 refine Ga rfl (Gn (.t3 4 6 7) (Gs (Gm rfl (Gm rfl (Gt (BS rfl) (Gt (Af Cx rfl) ?_))))))
 refine AQ (AJ (((Ad.l0.comp AH.l2).comp (AS.ar (n := 6) Am.fl (by first | omega | exact hb | (dsimp only; omega)))).comp Am.l3) rfl rfl rfl C4 rfl .h) ?_
 refine Gt (BS rfl) (Gt (Af I1 rfl) ?_)
 refine AQ (AJ (((Ad.l0.comp AH.l2).comp (AS.ar (n := 6) Am.fl (by first | omega | exact hb | (dsimp only; omega)))).comp Am.l4) rfl rfl rfl C4 rfl .h) ?_
 refine Gn (.t2 4 6) (Ao ?_)
 refine Fq (fun _ => .h) (congrArg (fun q => Ad.enc ⟨q, b, y3⟩) (AG.Wv y6 hb)) ?_
 have hT2 := AG.W1 y7
 have hf2 := AG.Qh hF
 rw [hT2] at hf2
 refine AI (Gm rfl ?_)
 refine Ah rfl TP (.c rfl (.c rfl .n)) (.c .h (.c .h .n)) (Ft _ (⟨y6.C1 b { y6.AW.at b with room := 0, BM := 10 }, b, ((AG.FX X b).kind 15).out⟩ : AG) _ 17 y4 hb (by decide : (0 : Nat) + 1 ≤ 100000)) (fun v8 B hv => ?_)
 obtain ⟨y9, rfl, y10, rfl⟩ := hv
 refine Gn (.t2 4 6) (Gs (Gm rfl ?_))
 refine BE rfl Sx (.c rfl .n) (.c .h (.c .h .n)) (Gg _ ((⟨y6.C1 b { y6.AW.at b with room := 0, BM := 10 }, b, ((AG.FX X b).kind 15).out⟩ : AG).kind 17) _ y10 hb hf2.br (by decide : (0 : Nat) + 1 + 1 ≤ 90000)) (fun w hS => gl0.pull gm0 hS (.c .h (.c .h .n))) (fun v11 B hv => ?_)
 obtain ⟨y12, rfl, y13, rfl⟩ := hv
 refine Gn (.t2 4 6) (Ao ?_)
 refine BF (N := 10) [0, 1, 3, 7, 0, 16, 48, 112, 15, 511] mix (by kernel_rfl) rfl ?_
 refine Pf 0 rfl (AE rfl) (Pf 1 rfl (BS rfl) (Pf 2 rfl (Af A6 rfl) (Pf 3 rfl (AZ rfl BT .m0 Ad.l0 rfl) (Pf 4 rfl (AE rfl) (Pf 5 rfl (BS rfl) (Pf 6 rfl (Af CH rfl) (Pf 7 rfl (AF rfl DV .m0 Ad.l2 rfl rfl) ?_)))))))
 refine An 8 rfl (by kernel_rfl) ?_
 refine AQ (AJ (AS.id AH.fl.len AH.fl.one) rfl rfl rfl Dv rfl (.t (.t .h))) ?_
 refine BL rfl ⟨?_, ?_⟩
 · exact (Po rfl (AF rfl DV .m0 Ad.l2 rfl rfl) rfl rfl (Po rfl (Af CH rfl) rfl rfl (Po rfl (BS rfl) rfl rfl (Po rfl (AE rfl) rfl rfl (Pk (Pk (Pk (Pk Au))))))))
 refine Pf 9 rfl (Az rfl) ?_
 refine A2 (by kernel_rfl) ?_
 refine AB (.t2 4 5) ?_
 refine AA (Ab ?_)
 refine AY rfl (.cell rfl .m2 (.inl ⟨(by rw [AH.fl.len]; exact BT), rfl⟩) (.tmp rfl .n)) ?_
 intro w1 hS
 have hS := (hS.perm (Av.perm (.c (.t .h) .n))).Ay
 have hq : AG.IP X b = _ := AU c1
 rw [hT2] at hq
 refine ⟨_, ⟨y12, ?hv, ?hl, ?hB⟩, hS⟩
 case hv => rw [hq]; rfl
 case hl => rw [hq]; exact y13
 case hB => rw [hq]
end Go.Proofs.YtoidpggbbfncpaaGreatDoor
