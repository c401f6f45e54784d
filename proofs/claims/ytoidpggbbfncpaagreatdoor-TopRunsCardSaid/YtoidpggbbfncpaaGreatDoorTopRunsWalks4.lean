/- What the functions that the law TopRuns reaches compute: walks, part 4. No condition. -/
import Derived.Test.YtoidpggbbfncpaaGreatDoorCards
import Derived.Test.YtoidpggbbfncpaaGreatDoorTie
import Derived.Deep.DeepHandedRow
import Derived.Test.YtoidpggbbfncpaaGreatDoorRows
import Derived.Test.YtoidpggbbfncpaaGreatDoorTopRunsEc3
import Derived.Test.YtoidpggbbfncpaaGreatDoorTopRunsRa1
import Derived.Test.YtoidpggbbfncpaaGreatDoorTopRunsRb1
import Derived.Test.YtoidpggbbfncpaaGreatDoorTopRunsRc1
import Derived.Test.YtoidpggbbfncpaaGreatDoorTopRunsWalks
import Derived.Test.YtoidpggbbfncpaaGreatDoorTopRunsWalks2
import Derived.Test.YtoidpggbbfncpaaGreatDoorTopRunsWalks3
set_option linter.unusedSimpArgs false
set_option linter.unusedVariables false
set_option maxRecDepth 100000
set_option maxHeartbeats 1000000
namespace Go.Proofs.YtoidpggbbfncpaaGreatDoor
open Go Go.Ing Go.RowKit Go.ChangeShapes Go.WideShapes Go.ChangeAt
theorem QT (b : Nat) (T : AF) (g : Hd) (o : Order) (hg : g.len = T.out.length) (hF : T.Fit) (hv : o.verb = 8 ∨ o.verb = 9 ∨ o.verb = 10) (hu : o.second.length ≤ 5000000) (hn : T.out.length ≤ 90000) : Ew Tryz.prog 106 #[.pointer (some ⟨b, 0, none⟩), .agg o.enc.toArray] [Ad.box b 163 (Ac.enc ⟨T.w, T.b, g⟩), Ad.own g 56 16 (T.out.flatMap Ing.Event.enc)] (fun w => (F8 7 w ∧ 7 ∉ CW [Ad.box b 163 (Ac.enc ⟨T.w, T.b, g⟩), Ad.own g 56 16 (T.out.flatMap Ing.Event.enc)]) ∧ (F8 8 w ∧ 8 ∉ CW [Ad.box b 163 (Ac.enc ⟨T.w, T.b, g⟩), Ad.own g 56 16 (T.out.flatMap Ing.Event.enc)])) (fun v B => ∃ g' : Hd, v = .tuple #[] ∧ g'.len = (T.Gy o).out.length ∧ B = [Ad.box b 163 (Ac.enc ⟨(T.Gy o).w, (T.Gy o).b, g'⟩), Ad.own g' 56 16 ((T.Gy o).out.flatMap Ing.Event.enc)]) := by
 intro w hS0 hH
 obtain ⟨⟨gl0, gm0⟩, ⟨gl1, gm1⟩⟩ := hH
 have hb := hF.b
 have hr := hF.room
 refine Am _ _ Tryz.func106 rfl rfl rfl (hS0) ?_
 refine Gs ?_
 refine B3 rfl rfl rfl (fun b1 => ?_)
 refine Gn (.t2 0 3) (Gs (Ga rfl (Ga rfl (AO (AA ?_)))))
 refine BZ (.t (.t .h)) ?_
 refine BZ (.t (.t .h)) ?_
 refine Wh (Lm := [_, _]) (fun (X : AF) (to : Int) (p : Bool) (j : Hd) => X = (T.C7 o).1 ∧ to = (T.C7 o).2.1 ∧ p = (T.C7 o).2.2 ∧ j.len = X.out.length) (fun (X : AF) (to : Int) (p : Bool) (j : Hd) => [(4, .int .i64 to), (5, .bool p)]) (fun (X : AF) (to : Int) (p : Bool) (j : Hd) => [Ad.box b 163 (Ac.enc ⟨X.w, X.b, j⟩), Ad.own j 56 16 (X.out.flatMap Ing.Event.enc)]) (.t2 0 3) rfl ?_ (fun X to p j hC => ?_)
 ·
  refine Gs (Gt (Ai Cw rfl) (Gt (AG rfl A2 .m2 Order.l0 rfl rfl) (Gn (.t5 0 3 4 5 11) (Ae (Gs (Gt (Af rfl rfl) (Ga rfl ?_)))))))
  refine Gn (.t6 0 3 4 5 11 12) ?_
  refine Gc (fun c1 => ?_) (fun c1 => ?_)
  ·
   have c1p := kz c1
   refine AI (Gm rfl (Gt (Ai HG rfl) (Gt (AG rfl CN .m2 Order.l4 rfl rfl) ?_)))
   refine BC rfl Xo (.c rfl (.c rfl .n)) (.c .h (.c .h .n)) (Lg _ T _ _ hg hF hu (by omega)) (fun w hS => ⟨gl0.pull gm0 hS (.c .h (.c .h .n)), gl1.pull gm1 hS (.c .h (.c .h .n))⟩) (fun v1 B hv => ?_)
   obtain ⟨y2, rfl, y3, rfl⟩ := hv
   refine Gm rfl (Gt (AK rfl rfl) (Gt (AK rfl rfl) (Ga rfl (Ga rfl ?_))))
   refine AO (AB (.t4 0 3 4 5) ?_)
   refine AT ?_
   refine Pz _ _ _ _ ?_ (.t4 4 5 0 3) (.refl _)
   · have ht : T.C7 o = _ := A9 c1
     exact ⟨by rw [ht], by rw [ht], by rw [ht], by assumption⟩
  have c1p := kz c1
  refine Gs (Gt (Af rfl rfl) (Ga rfl (Gn (.t5 0 3 4 5 21) ?_)))
  refine Gc (fun c2 => ?_) (fun c2 => ?_)
  ·
   have c2p := kz c2
   refine AI (Gm rfl (Gt (Ai HG rfl) (Gt (AG rfl CN .m2 Order.l4 rfl rfl) ?_)))
   refine BC rfl Xm (.c rfl (.c rfl .n)) (.c .h (.c .h .n)) (Hl _ T _ _ hg hF hu (by omega)) (fun w hS => ⟨gl0.pull gm0 hS (.c .h (.c .h .n)), gl1.pull gm1 hS (.c .h (.c .h .n))⟩) (fun v4 B hv => ?_)
   obtain ⟨y5, rfl, y6, rfl⟩ := hv
   refine Gm rfl (Gt (AK rfl rfl) (Gt (AK rfl rfl) (Ga rfl (Ga rfl ?_))))
   refine AO (AB (.t4 0 3 4 5) ?_)
   refine AT ?_
   refine Pz _ _ _ _ ?_ (.t4 4 5 0 3) (.refl _)
   · have ht : T.C7 o = _ := (AU c1).trans (A9 c2)
     exact ⟨by rw [ht], by rw [ht], by rw [ht], by assumption⟩
  have c2p := kz c2
  refine Aa ?_
  refine AB (.t4 0 3 4 5) ?_
  refine AT ?_
  refine Pz _ _ _ _ ?_ (.t4 4 5 0 3) (.refl _)
  · have ht : T.C7 o = _ := (AU c1).trans (AU c2)
    exact ⟨by rw [ht], by rw [ht], by rw [ht], by assumption⟩
 obtain ⟨hD1, hD2, hD3, hD4⟩ := hC
 have hXw := T.S6 o
 have hXo : X.out.length ≤ T.out.length + 1 := by rw [hD1]; exact T.OW o
 rw [← hD1] at hXw
 have hXF : X.Fit := hF.O1 hXw.1 hXw.2
 have hPl : ((AF.BO X.w X.own o.nth o.name o.Bk)).length ≤ 9 := AF.Qc.2.2
 refine B7 (Gm rfl (Gt (BS rfl) (Gn (.t4 0 3 4 31) ?_)))
 refine Gc (fun c3 => ?_) (fun c3 => ?_)
 ·
  refine Ab (AD ?_)
  refine AY rfl .n ?_
  intro w1 hS
  have hS := (hS.perm (Av.perm (.c .h (.c .h .n)))).Az
  have hq : T.Gy o = X := AF.Tr hD1 hD3 c3
  refine ⟨_, ⟨?gq1, rfl, ?hl1, ?hB1⟩, hS⟩
  case hB1 => rw [hq]; (try rfl)
  case hl1 => rw [hq]; exact hD4
 have c3p := kz c3
 obtain ⟨hgo, hn0, hn9, hok⟩ := AF.Rv hD1 hD2 hD3 c3
 refine Aa ?_
 refine AB (.t3 0 3 4) ?_
 refine AA (Ap ?_)
 refine BD (N := 11) [0, 0, 2, 0, 8, 0, 32, 0, 128, 511, 1023] mix (by kernel_rfl) rfl ?_
 refine Pf 0 rfl (AE rfl) (Pf 1 rfl (AE rfl) (Pf 3 rfl (Ai Ft rfl) (Pf 4 rfl (AG rfl A2 .m2 Order.l1 rfl rfl) (Pf 5 rfl (Ai FE rfl) (Pf 6 rfl (AG rfl CN .m2 Order.l3 rfl rfl) (Pf 7 rfl (Ai GO rfl) (Pf 8 rfl (AG rfl DV .m2 Order.l2 rfl rfl) ?_)))))))
 refine An 2 rfl (by kernel_rfl) ?_
 refine Ah rfl SW (.c rfl .n) (.c .h .n) (HD _ X _ hXF) (fun v7 B hv => ?_)
 obtain ⟨y8, rfl, y9, rfl⟩ := hv
 refine Bo rfl ⟨?_, ?_⟩
 · exact (Po rfl (AG rfl DV .m3 Order.l2 rfl rfl) rfl rfl (Po rfl (Ai GO rfl) rfl rfl (Po rfl (AG rfl CN .m3 Order.l3 rfl rfl) rfl rfl (Po rfl (Ai FE rfl) rfl rfl (Po rfl (AG rfl A2 .m3 Order.l1 rfl rfl) rfl rfl (Po rfl (Ai Ft rfl) rfl rfl (Pk (Po rfl (AE rfl) rfl rfl Ar))))))))
 refine An 9 rfl (by kernel_rfl) ?_
 refine Ah rfl Oe (.c rfl (.c rfl (.c rfl (.c rfl (.c rfl .n))))) (.c .h (.c .h .n)) (Ec _ X _ _ X.own _ _ _ hXF (by assumption) (Nat.le_trans X.JN (by decide)) (fun i hi => AF.KU hi)) (fun v11 B hv => ?_)
 obtain ⟨y12, rfl, y13, rfl⟩ := hv
 refine Bo rfl ⟨?_, ?_⟩
 · exact (Pk (Pk (Pk (Pk (Pk (Pk (Pk (Pk Ar))))))))
 refine Pf 10 rfl (Ay rfl) ?_
 refine A1 (by kernel_rfl) ?_
 refine AB (.t4 0 3 4 6) ?_
 refine AA ?_
 refine BZ (.t (.t (.t .h))) ?_
 refine BZ (.t .h) ?_
 refine P0 (Lm := [_, _]) (fun (Z : AF) (m : Hd) => Z = X.PJ o ∧ m.len = Z.out.length) (fun (Z : AF) (m : Hd) => []) (fun (Z : AF) (m : Hd) => [Ad.box b 163 (Ac.enc ⟨Z.w, Z.b, m⟩), Ad.own m 56 16 (Z.out.flatMap Ing.Event.enc)]) (.t4 0 3 4 6) rfl ?_ (fun Z m hC => ?_)
 ·
  refine Gs (Gm rfl (Gt (Ao rfl Tryz.underlying169 rfl) (Gt (Af rfl rfl) (Gn (.t5 0 3 4 6 44) ?_))))
  refine Gc (fun c4 => ?_) (fun c4 => ?_)
  ·
   have c4p := kz c4
   rw [y13] at c4
   refine AI (Gm rfl ?_)
   refine Ah rfl Dv (.c rfl (.c rfl .n)) (.c .h (.c .h .n)) (BW _ X _ _ (by assumption) (by rw [hXw.2]; exact hb) (by omega)) (fun v15 B hv => ?_)
   obtain ⟨y16, rfl, y17, rfl⟩ := hv
   refine AO (AB (.t4 0 3 4 6) ?_)
   refine EG _ _ ?_ (.t4 0 3 4 6) (.refl _)
   · exact ⟨(AF.YM (T := X) (o := o) c4).symm, by assumption⟩
  rw [y13] at c4
  refine Aa ?_
  refine AB (.t4 0 3 4 6) ?_
  refine EG _ _ ?_ (.t4 0 3 4 6) (.refl _)
  · exact ⟨(AF.YA (T := X) (o := o) c4).symm, by exact hD4⟩
 obtain ⟨hE1, hE2⟩ := hC
 refine Gs (Gm rfl (Gt (Ao rfl Tryz.underlying169 rfl) (Gm rfl (Gn (.t6 0 3 4 47 48 49) (Ae ?_)))))
 refine Bl (.t6 49 0 3 4 47 48) ?_
 refine BZ (.t .h) ?_
 refine BZ (.t .h) ?_
 refine DX (fun (k : Int) (V : AF) (f : Hd) => 0 ≤ k ∧ V = X.PO to o k.toNat ∧ k ≤ ((AF.BO X.w X.own o.nth o.name o.Bk).length : Int) ∧ f.len = V.out.length) (fun (k : Int) (V : AF) (f : Hd) => (((AF.BO X.w X.own o.nth o.name o.Bk).length : Int) - k).toNat) (fun (k : Int) (V : AF) (f : Hd) => [(49, .int .i64 k)]) (fun (k : Int) (V : AF) (f : Hd) => [Ad.box b 163 (Ac.enc ⟨V.w, V.b, f⟩), Ad.own f 56 16 (V.out.flatMap Ing.Event.enc)]) (0) (_) (_) ?_ rfl rfl (fun k V f hI1 => ?_)
 · exact ⟨by omega, hE1, by omega, hE2⟩
 obtain ⟨hI11, hI12, hI13, hI14⟩ := hI1
 refine Gs (Gt (A6 rfl rfl) (AO (AA (Ap ?_))))
 refine Gc (fun c5 => ?_) (fun c5 => ?_)
 ·
  have c5p := kz c5
  have hx : 0 ≤ ((AF.BO X.w X.own o.nth o.name o.Bk).getD k.toNat 0) ∧ ((AF.BO X.w X.own o.nth o.name o.Bk).getD k.toNat 0) < 9 := AF.KU (AF.EV (Bb.Ef (xs := (AF.BO X.w X.own o.nth o.name o.Bk)) (i := k.toNat) (by omega)))
  have hVK := AF.V5 X to o k.toNat
  rw [← hI12] at hVK
  have hVb := hVK.2
  have hVo := hVK.1
  have hbV : 0 ≤ V.b ∧ V.b < 6 := by rw [hVb, hXw.2]; exact hb
  refine Aa ?_
  refine AB (.t6 0 3 4 47 48 49) ?_
  refine AA (Ap (Ae (Gs ?_)))
  refine Gt (Bm F7 (by decide) (Kn.own .m3) rfl rfl (by omega) (by omega)) ?_
  refine Gt (C1 rfl A2 (Kn.own .m3) (by omega)) ?_
  refine Ga rfl (Gn (.t7 0 3 4 8 47 48 49) (Gs (Gm rfl (Gm rfl (Gt (BR rfl) (Gt (Ai A5 rfl) (Gt (Ai Ci rfl) ?_)))))))
  refine Gt (AQ Fi rfl rfl (by first | omega | exact hbV.1 | exact hbV.2 | (dsimp only; omega)) (by first | omega | exact hbV.1 | exact hbV.2 | (dsimp only; omega))) ?_
  refine Ga rfl (Gn (.t8 0 3 4 8 9 47 48 49) (Ae (Gs (Gm rfl (Gt (BR rfl) (Gt (Ai GG rfl) ?_))))))
  refine Gt (AG rfl A2 .m0 (((Ac.l0.comp AH.l1).comp (AS.ar (n := 9) Ak.fl (by first | omega | exact hbV | (dsimp only; omega)))).comp Ak.l1) rfl rfl) ?_
  refine Gt (Af rfl rfl) (Gm rfl (Bh 87 rfl rfl (fun q => AE rfl) (Bh 87 rfl rfl (fun q => BR (Bc rfl q)) (Bh 87 rfl rfl (fun q => Ai FX (Bc rfl q)) ?_))))
  refine Bh 87 rfl rfl (fun q => by have q1 := q; (try simp at q1); exact AG (Bc rfl q) DV .m0 (((Ac.l0.comp AH.l1).comp (AS.ar (n := 9) Ak.fl (by first | omega | exact hbV | (dsimp only; omega)))).comp Ak.l4) rfl rfl) ?_
  refine Gt (BI rfl rfl (fun h => h)) (Ga rfl (Gn (.t9 0 3 4 8 9 47 48 49 81) ?_))
  refine Gc (fun c6 => ?_) (fun c6 => ?_)
  ·
   have c6p := kz c6
   refine AI (Gm rfl ?_)
   refine Ah rfl Dv (.c rfl (.c rfl .n)) (.c .h (.c .h .n)) (BW _ V _ _ (by assumption) hbV (by omega)) (fun v18 B hv => ?_)
   obtain ⟨y19, rfl, y20, rfl⟩ := hv
   refine AO (AB (.t6 0 3 4 47 48 49) ?_)
   refine AT (AT (AA (AI ?_)))
   refine Gt (As rfl rfl (IntWalk.i64_in _ (by first | omega | exact hbV.1 | exact hbV.2 | (dsimp only; omega)))) ?_
   refine Gm rfl ?_
   refine AO (AB (.t6 0 3 4 47 48 49) ?_)
   refine Bt (k + 1) _ _ ?_ ?_ (.t6 49 0 3 4 47 48) (.refl _)
   · have hq : V.DN o.verb to ((AF.BO X.w X.own o.nth o.name o.Bk).getD k.toNat 0) = _ := (A9 c6)
     (try rw [AF.Dg hx.1 hx.2] at *)
     (try rw [AF.DG hx.1 hx.2 hn0] at *)
     exact ⟨by omega, (by (try rw [AF.Dg hx.1 hx.2]); (try rw [AF.DG hx.1 hx.2 hn0]); exact hq.symm.trans ((congrArg (fun q => AF.DN q o.verb to ((AF.BO X.w X.own o.nth o.name o.Bk).getD k.toNat 0)) hI12).trans (AF.H2 hI11 (by show k < (((AF.BO X.w X.own o.nth o.name o.Bk)).length : Int); omega)).symm)), by omega, by assumption⟩
   · omega
  have c6p := kz c6
  refine Gs (Gt (Ai Cw rfl) (Gt (AG rfl A2 .m4 Order.l0 rfl rfl) (Gt (Af rfl rfl) (Ga rfl (Gn (.t9 0 3 4 8 9 47 48 49 95) ?_)))))
  refine Gc (fun c7 => ?_) (fun c7 => ?_)
  ·
   have c7p := kz c7
   refine Ap ?_
   refine BD (N := 19) [0, 0, 0, 0, 8, 24, 56, 4, 132, 388, 1020, 2044, 4092, 8189, 16381, 32765, 65535, 131071, 262143] mix (by kernel_rfl) rfl ?_
   refine Pf 0 rfl (AE rfl) (Pf 1 rfl (AE rfl) (Pf 2 rfl (AE rfl) (Pf 3 rfl (AE rfl) (Pf 4 rfl (BR rfl) (Pf 5 rfl (Ai CE rfl) (Pf 6 rfl (AG rfl A2 .m0 Ac.l1 rfl rfl) (Pf 7 rfl (BR rfl) ?_)))))))
   refine Pf 8 rfl (Ai A5 rfl) (Pf 9 rfl (Ai Bi rfl) ?_)
   refine Pf 10 rfl (AQ Cr rfl rfl (by first | omega | exact hbV.1 | exact hbV.2 | (dsimp only; omega)) (by first | omega | exact hbV.1 | exact hbV.2 | (dsimp only; omega))) ?_
   refine Pf 11 rfl (Ai Cq rfl) ?_
   refine Pf 12 rfl (AG rfl A2 .m0 (((Ac.l0.comp AH.l2).comp (AS.ar (n := 6) Al.fl (by first | omega | exact hbV | (dsimp only; omega)))).comp Al.l3) rfl rfl) ?_
   refine Pf 13 rfl (BR rfl) (Pf 14 rfl (Ai Ez rfl) ?_)
   refine An 15 rfl (by kernel_rfl) ?_
   refine AR (AJ (((Ac.l0.comp AH.l1).comp (AS.ar (n := 9) Ak.fl (by first | omega | exact hbV | (dsimp only; omega)))).comp Ak.l2) rfl rfl rfl Cy rfl .h) ?_
   refine BK rfl ⟨?_, ?_⟩
   · exact (Pk (Pk (Pk (Pk (Pk (Pk (Pk (Pk (Pk (Pk (Pk (Pk (Pk (Po rfl (AE rfl) rfl rfl (Pk Ar)))))))))))))))
   refine Pf 16 rfl (BR rfl) (Pf 17 rfl (Ai Cz rfl) ?_)
   refine An 18 rfl (by kernel_rfl) ?_
   refine AR (AJ (((Ac.l0.comp AH.l1).comp (AS.ar (n := 9) Ak.fl (by first | omega | exact hbV | (dsimp only; omega)))).comp Ak.l3) rfl rfl rfl Cy rfl .h) ?_
   refine BK rfl ⟨?_, ?_⟩
   · exact (Pk (Pk (Pk (Pk (Pk (Pk (Pk (Pk (Pk (Pk (Pk (Pk (Pk (Pk (Pk (Pk (Pk Ar)))))))))))))))))
   refine A1 (by kernel_rfl) ?_
   refine AB (.t7 0 3 4 8 47 48 49) ?_
   refine AA ?_
   refine FW (fun _ => .h) (congrArg (fun q => Ac.enc ⟨q, _, _⟩) (AF.Gk V hx.1 hx.2 0 (V.w.AV.at V.b).room)) ?_
   refine AI (Gm rfl (Gm rfl ?_))
   refine Ah rfl M7 (.c rfl (.c rfl (.c rfl .n))) (.c .h (.c .h .n)) (De _ (V.place ((AF.BO X.w X.own o.nth o.name o.Bk).getD k.toNat 0) 0 (V.w.AV.at V.b).room) _ 4 ((AF.BO X.w X.own o.nth o.name o.Bk).getD k.toNat 0) (by assumption) hbV hx (show V.out.length ≤ 100000 by omega)) (fun v21 B hv => ?_)
   obtain ⟨y22, rfl, y23, rfl⟩ := hv
   refine AO (AB (.t6 0 3 4 47 48 49) ?_)
   refine AT (AT (AA (AI ?_)))
   refine Gt (As rfl rfl (IntWalk.i64_in _ (by first | omega | exact hbV.1 | exact hbV.2 | (dsimp only; omega)))) ?_
   refine Gm rfl ?_
   refine AO (AB (.t6 0 3 4 47 48 49) ?_)
   refine Bt (k + 1) _ _ ?_ ?_ (.t6 49 0 3 4 47 48) (.refl _)
   · have hq : V.DN o.verb to ((AF.BO X.w X.own o.nth o.name o.Bk).getD k.toNat 0) = _ := ((AU c6).trans (A9 c7))
     (try rw [AF.Dg hx.1 hx.2] at *)
     (try rw [AF.DG hx.1 hx.2 hn0] at *)
     exact ⟨by omega, (by (try rw [AF.Dg hx.1 hx.2]); (try rw [AF.DG hx.1 hx.2 hn0]); exact hq.symm.trans ((congrArg (fun q => AF.DN q o.verb to ((AF.BO X.w X.own o.nth o.name o.Bk).getD k.toNat 0)) hI12).trans (AF.H2 hI11 (by show k < (((AF.BO X.w X.own o.nth o.name o.Bk)).length : Int); omega)).symm)), by omega, by assumption⟩
   · omega
  have c7p := kz c7
  refine Gs (Gt (Ai Cw rfl) (Gt (AG rfl A2 .m4 Order.l0 rfl rfl) (Gt (Af rfl rfl) (Ga rfl (Gn (.t9 0 3 4 8 9 47 48 49 119) ?_)))))
  refine Gc (fun c8 => ?_) (fun c8 => ?_)
  ·
   have c8p := kz c8
   refine Gs (Gm rfl (Gm rfl (Gm rfl (Gt (BR rfl) (Gt (Ai Ez rfl) ?_)))))
   refine AR (AJ (((Ac.l0.comp AH.l1).comp (AS.ar (n := 9) Ak.fl (by first | omega | exact hbV | (dsimp only; omega)))).comp Ak.l2) rfl rfl rfl Cy rfl .h) ?_
   refine Gt (BR rfl) (Gt (Ai Cz rfl) ?_)
   refine AR (AJ (((Ac.l0.comp AH.l1).comp (AS.ar (n := 9) Ak.fl (by first | omega | exact hbV | (dsimp only; omega)))).comp Ak.l3) rfl rfl rfl Cy rfl .h) ?_
   refine Gn (.t7 0 3 4 9 47 48 49) ?_
   refine FW (fun _ => .h) (congrArg (fun q => Ac.enc ⟨q, _, _⟩) (AF.Gk V hx.1 hx.2 1 to)) ?_
   refine AI (Gm rfl (Gm rfl (Gm rfl (Gt (BR rfl) (Gt (Ai LI rfl) ?_)))))
   refine Gt (AG rfl CN .m0 (((Ac.l0.comp AH.l1).comp (AS.ar (n := 9) Ak.fl (by first | omega | exact hbV | (dsimp only; omega)))).comp Ak.l0) rfl rfl) ?_
   refine Gt (BA MP Hk rfl (.cons Ing.Event.l0 rfl rfl rfl (.cons Ing.Event.l3 rfl rfl rfl (.cons Ing.Event.l8 rfl rfl rfl .nil)))) ?_
   refine Ah rfl Mk (.c rfl (.c rfl .n)) (.c .h (.c .h .n)) (CC _ (V.place ((AF.BO X.w X.own o.nth o.name o.Bk).getD k.toNat 0) 1 to) _ { AF.GA 6 with other := to, By := ((V.place ((AF.BO X.w X.own o.nth o.name o.Bk).getD k.toNat 0) 1 to).w.AX.at ((AF.BO X.w X.own o.nth o.name o.Bk).getD k.toNat 0)).name } (by assumption) hbV (show to < 6 from (hok hv).bg (by omega)) (show V.out.length ≤ 100000 by omega)) (fun v24 B hv => ?_)
   obtain ⟨y25, rfl, y26, rfl⟩ := hv
   refine AO (AB (.t6 0 3 4 47 48 49) ?_)
   refine AT (AT (AA (AI ?_)))
   refine Gt (As rfl rfl (IntWalk.i64_in _ (by first | omega | exact hbV.1 | exact hbV.2 | (dsimp only; omega)))) ?_
   refine Gm rfl ?_
   refine AO (AB (.t6 0 3 4 47 48 49) ?_)
   refine Bt (k + 1) _ _ ?_ ?_ (.t6 49 0 3 4 47 48) (.refl _)
   · have hq : V.DN o.verb to ((AF.BO X.w X.own o.nth o.name o.Bk).getD k.toNat 0) = _ := ((AU c6).trans ((AU c7).trans (A9 c8)))
     (try rw [AF.Dg hx.1 hx.2] at *)
     (try rw [AF.DG hx.1 hx.2 hn0] at *)
     exact ⟨by omega, (by (try rw [AF.Dg hx.1 hx.2]); (try rw [AF.DG hx.1 hx.2 hn0]); exact hq.symm.trans ((congrArg (fun q => AF.DN q o.verb to ((AF.BO X.w X.own o.nth o.name o.Bk).getD k.toNat 0)) hI12).trans (AF.H2 hI11 (by show k < (((AF.BO X.w X.own o.nth o.name o.Bk)).length : Int); omega)).symm)), by omega, by assumption⟩
   · omega
  have c8p := kz c8
  refine Gs (Gm rfl (Gt (BR rfl) (Gt (Ai A5 rfl) (Gt (AZ rfl BT .m0 Ac.l0 rfl) (Gm rfl (Gm rfl ?_))))))
  refine A7 rfl ZM (.c rfl (.c rfl (.c rfl .n))) (fun w hS => K6 _ _ _ w) ?_
  refine Ga rfl (Gn (.t8 0 3 4 9 47 48 49 138) ?_)
  refine Gc (fun c9 => ?_) (fun c9 => ?_)
  ·
   have c9p := kz c9
   refine AI (Gm rfl ?_)
   refine Ah rfl Dv (.c rfl (.c rfl .n)) (.c .h (.c .h .n)) (BW _ V _ _ (by assumption) hbV (by omega)) (fun v27 B hv => ?_)
   obtain ⟨y28, rfl, y29, rfl⟩ := hv
   refine AO (AB (.t6 0 3 4 47 48 49) ?_)
   refine AT (AT (AA (AI ?_)))
   refine Gt (As rfl rfl (IntWalk.i64_in _ (by first | omega | exact hbV.1 | exact hbV.2 | (dsimp only; omega)))) ?_
   refine Gm rfl ?_
   refine AO (AB (.t6 0 3 4 47 48 49) ?_)
   refine Bt (k + 1) _ _ ?_ ?_ (.t6 49 0 3 4 47 48) (.refl _)
   · have hq : V.DN o.verb to ((AF.BO X.w X.own o.nth o.name o.Bk).getD k.toNat 0) = _ := ((AU c6).trans ((AU c7).trans ((AU c8).trans (A9 c9))))
     (try rw [AF.Dg hx.1 hx.2] at *)
     (try rw [AF.DG hx.1 hx.2 hn0] at *)
     exact ⟨by omega, (by (try rw [AF.Dg hx.1 hx.2]); (try rw [AF.DG hx.1 hx.2 hn0]); exact hq.symm.trans ((congrArg (fun q => AF.DN q o.verb to ((AF.BO X.w X.own o.nth o.name o.Bk).getD k.toNat 0)) hI12).trans (AF.H2 hI11 (by show k < (((AF.BO X.w X.own o.nth o.name o.Bk)).length : Int); omega)).symm)), by omega, by assumption⟩
   · omega
  have c9p := kz c9
  refine Gs (Gm rfl (Gm rfl (Gm rfl (Gt (BR rfl) (Gt (Ai Ez rfl) ?_)))))
  refine AR (AJ (((Ac.l0.comp AH.l1).comp (AS.ar (n := 9) Ak.fl (by first | omega | exact hbV | (dsimp only; omega)))).comp Ak.l2) rfl rfl rfl Cy rfl .h) ?_
  refine Gt (BR rfl) (Gt (Ai Cz rfl) ?_)
  refine AR (AJ (((Ac.l0.comp AH.l1).comp (AS.ar (n := 9) Ak.fl (by first | omega | exact hbV | (dsimp only; omega)))).comp Ak.l3) rfl rfl rfl Cy rfl .h) ?_
  refine Gn (.t7 0 3 4 9 47 48 49) ?_
  refine FW (fun _ => .h) (congrArg (fun q => Ac.enc ⟨q, _, _⟩) (AF.Gk V hx.1 hx.2 2 to)) ?_
  refine BD (N := 15) [0, 0, 2, 6, 14, 0, 0, 32, 160, 416, 992, 2016, 4064, 8190, 16383] mix (by kernel_rfl) rfl ?_
  refine Pf 0 rfl (AE rfl) (Pf 1 rfl (AE rfl) (Pf 2 rfl (BR rfl) (Pf 3 rfl (Ai LI rfl) ?_)))
  refine Pf 4 rfl (AG rfl CN .m0 (((Ac.l0.comp AH.l1).comp (AS.ar (n := 9) Ak.fl (by first | omega | exact hbV | (dsimp only; omega)))).comp Ak.l0) rfl rfl) ?_
  refine Pf 5 rfl (AE rfl) (Pf 6 rfl (AE rfl) (Pf 7 rfl (BR rfl) (Pf 8 rfl (Ai A5 rfl) (Pf 9 rfl (Ai Ci rfl) ?_))))
  refine Pf 10 rfl (AQ Fi rfl rfl (by first | omega | exact hbV.1 | exact hbV.2 | (dsimp only; omega)) (by first | omega | exact hbV.1 | exact hbV.2 | (dsimp only; omega))) ?_
  refine Pf 11 rfl (Ai LI rfl) ?_
  refine Pf 12 rfl (AG rfl CN .m0 (((Ac.l0.comp AH.l1).comp (AS.ar (n := 9) Ak.fl (by first | omega | exact hbV | (dsimp only; omega)))).comp Ak.l0) rfl rfl) ?_
  refine Pf 13 rfl (BA MP Hk rfl (.cons Ing.Event.l0 rfl rfl rfl (.cons Ing.Event.l3 rfl rfl rfl (.cons Ing.Event.l8 rfl rfl rfl (.cons Ing.Event.l9 rfl rfl rfl .nil))))) ?_
  refine An 14 rfl (by kernel_rfl) ?_
  refine Ah rfl Mk (.c rfl (.c rfl .n)) (.c .h (.c .h .n)) (CC _ (V.place ((AF.BO X.w X.own o.nth o.name o.Bk).getD k.toNat 0) 2 to) _ { AF.GA 5 with By := ((V.place ((AF.BO X.w X.own o.nth o.name o.Bk).getD k.toNat 0) 2 to).w.AX.at ((AF.BO X.w X.own o.nth o.name o.Bk).getD k.toNat 0)).name, text := ((V.place ((AF.BO X.w X.own o.nth o.name o.Bk).getD k.toNat 0) 2 to).w.AX.at to).name } (by assumption) hbV (show (-1 : Int) < 6 by decide) (show V.out.length ≤ 100000 by omega)) (fun v30 B hv => ?_)
  obtain ⟨y31, rfl, y32, rfl⟩ := hv
  refine Bo rfl ⟨?_, ?_⟩
  · exact (Pk (Pk (Pk (Pk (Pk (Pk (Pk (Pk (Pk (Pk (Pk (Pk (Pk (Pk Ar))))))))))))))
  refine A1 (by kernel_rfl) ?_
  refine AB (.t6 0 3 4 47 48 49) ?_
  refine AT (AT (AA (AI ?_)))
  refine Gt (As rfl rfl (IntWalk.i64_in _ (by first | omega | exact hbV.1 | exact hbV.2 | (dsimp only; omega)))) ?_
  refine Gm rfl ?_
  refine AO (AB (.t6 0 3 4 47 48 49) ?_)
  refine Bt (k + 1) _ _ ?_ ?_ (.t6 49 0 3 4 47 48) (.refl _)
  · have hq : V.DN o.verb to ((AF.BO X.w X.own o.nth o.name o.Bk).getD k.toNat 0) = _ := ((AU c6).trans ((AU c7).trans ((AU c8).trans (AU c9))))
    (try rw [AF.Dg hx.1 hx.2] at *)
    (try rw [AF.DG hx.1 hx.2 hn0] at *)
    exact ⟨by omega, (by (try rw [AF.Dg hx.1 hx.2]); (try rw [AF.DG hx.1 hx.2 hn0]); exact hq.symm.trans ((congrArg (fun q => AF.DN q o.verb to ((AF.BO X.w X.own o.nth o.name o.Bk).getD k.toNat 0)) hI12).trans (AF.H2 hI11 (by show k < (((AF.BO X.w X.own o.nth o.name o.Bk)).length : Int); omega)).symm)), by omega, by assumption⟩
  · omega
 have c5p := kz c5
 obtain rfl : k = ((AF.BO X.w X.own o.nth o.name o.Bk).length : Int) := by omega
 refine BX (AW (AW (Ag ?_)))
 refine Be rfl .n ?_
 intro w1 hS
 have hS := (hS.perm (Av.perm (.c .h (.c .h .n)))).Az
 have hq : T.Gy o = V := hgo.trans (hI12.trans AF.Uz).symm
 refine ⟨_, ⟨?gq2, rfl, ?hl2, ?hB2⟩, hS⟩
 case hB2 => rw [hq]; (try rfl)
 case hl2 => rw [hq]; exact hI14
theorem Ir (s : Aq) (w : World) (gl0 : GV 0 AH.C0 w) : EL Tryz.prog 138 #[BQ s] w fun v w' => v = .tuple #[.int .i64 (Words.dir s).1, .bool (Words.dir s).2] ∧ B4 w w' := by
 refine Am [] [] Tryz.func138 rfl rfl rfl (St.start w []) ?_
 refine Gs (Ga rfl (Ga rfl (Gn (.t1 0) (B7 (Gm rfl (AO (AA ?_)))))))
 refine Ae ?_
 refine Bl (.t2 5 0) ?_
 refine CT (fun (k : Int) => 0 ≤ k ∧ k ≤ 6 ∧ Words.Nk s 6 = Words.Nk s (6 - k).toNat) (fun (k : Int) => (6 - k).toNat) (fun (k : Int) => [(5, .int .i64 k)]) (fun (k : Int) => []) (0) ?_ rfl rfl (fun k hI1 => ?_)
 · exact ⟨by omega, by omega, rfl⟩
 obtain ⟨hI11, hI12, hI13⟩ := hI1
 refine Gs (Gt (A6 rfl rfl) (AO (AA (Ap ?_))))
 refine Gc (fun c1 => ?_) (fun c1 => ?_)
 ·
  have c1p := kz c1
  rw [Words.TW hI11 (by omega)] at hI13
  refine Aa ?_
  refine AB (.t2 0 5) ?_
  refine AA (Ap (Ae (Gs (Gm rfl (Ga rfl (Gn (.t3 0 4 5) (Gs ?_)))))))
  refine Gm rfl ?_
  refine Gt (AQ V0 rfl rfl (by omega) (by omega)) ?_
  refine Gt (O5 gl0 rfl CN (AH.NS (by omega) (by omega))) ?_
  refine Gm rfl (Gt (Bs rfl rfl) (Gn (.t4 0 4 5 12) ?_))
  refine Gc (fun c2 => ?_) (fun c2 => ?_)
  ·
   refine Gs (Gm rfl (Ga rfl (Ga rfl (Gn (.t2 2 3) (Ab (AP (AD ?_)))))))
   refine AD (AP (AD ?_))
   refine AY rfl (.tmp rfl (.tmp rfl .n)) ?_
   intro w1 hS; refine ⟨?_, hS.Aj⟩; rw [Words.dir, hI13, A9 c2]; rfl
  have c2p := kz c2
  refine Aa ?_
  refine AB (.t2 0 5) ?_
  refine AT (AA (AI ?_))
  refine Gt (As rfl rfl (IntWalk.i64_in _ (by omega))) ?_
  refine Gm rfl ?_
  refine AO (AB (.t2 0 5) ?_)
  refine B0 (k + 1) ?_ ?_ (.t2 5 0) (.refl _)
  · exact ⟨by omega, by omega, by rw [hI13, AU c2]⟩
  · omega
 have c1p := kz c1
 obtain rfl : k = 6 := by omega
 refine BX (AW (AW (Ag ?_)))
 refine AB (.nil _) ?_
 refine AA (Gs (Ga rfl (Ga rfl (AO (AA (Ab ?_))))))
 refine AY rfl (.tmp rfl (.tmp rfl .n)) ?_
 intro w1 hS; refine ⟨?_, hS.Aj⟩; rw [Words.dir, hI13]; rfl
theorem O9 (b : Nat) (T : AF) (g : Hd) (d : Int) (p : Bool) (k : Int) (hg : g.len = T.out.length) (hF : T.Fit) (hd : 0 ≤ d ∧ d < 6) (hn : T.out.length ≤ 90000) : JU Tryz.prog 139 #[.pointer (some ⟨b, 0, none⟩), .int .i64 d, .bool p, .int .i64 k] [Ad.box b 163 (Ac.enc ⟨T.w, T.b, g⟩), Ad.own g 56 16 (T.out.flatMap Ing.Event.enc)] (fun v B => ∃ g' : Hd, v = .tuple #[] ∧ g'.len = (T.JJ d p k).out.length ∧ B = [Ad.box b 163 (Ac.enc ⟨(T.JJ d p k).w, (T.JJ d p k).b, g'⟩), Ad.own g' 56 16 ((T.JJ d p k).out.flatMap Ing.Event.enc)]) := by
 intro w hS0
 have hb := hF.b
 have hr := hF.room
 have hx := hF.exit hd.1 hd.2
 have hop := AH.Ph d
 refine Am _ _ Tryz.func139 rfl rfl rfl (hS0) ?_
 refine Ap ?_
 refine BD (N := 12) [0, 0, 2, 6, 14, 1, 33, 97, 255, 511, 1023, 2047] mix (by kernel_rfl) rfl ?_
 refine Pf 0 rfl (AE rfl) (Pf 1 rfl (AE rfl) (Pf 2 rfl (BR rfl) (Pf 3 rfl (Ai CE rfl) (Pf 4 rfl (AG rfl A2 .m0 Ac.l1 rfl rfl) (Pf 5 rfl (BR rfl) (Pf 6 rfl (Ai A5 rfl) (Pf 7 rfl (Ai Bi rfl) ?_)))))))
 refine Pf 8 rfl (AQ Cr rfl rfl (by first | omega | exact hb.1 | exact hb.2 | exact hr.1 | exact hr.2 | (dsimp only; omega)) (by first | omega | exact hb.1 | exact hb.2 | exact hr.1 | exact hr.2 | (dsimp only; omega))) ?_
 refine Pf 9 rfl (Ai Cq rfl) ?_
 refine Pf 10 rfl (AG rfl A2 .m0 (((Ac.l0.comp AH.l2).comp (AS.ar (n := 6) Al.fl (by first | omega | exact hb | exact hr | (dsimp only; omega)))).comp Al.l3) rfl rfl) ?_
 refine Pf 11 rfl (Ay rfl) ?_
 refine A1 (by kernel_rfl) ?_
 refine AB (.t5 0 1 2 3 8) ?_
 refine AA (Gs (Gm rfl (Gm rfl (Gm rfl (Gt (BR rfl) (Gt (Ai A5 rfl) (Gt (Ai GF rfl) ?_)))))))
 refine Gt (AQ M8 rfl rfl (by first | omega | exact hb.1 | exact hb.2 | exact hr.1 | exact hr.2 | (dsimp only; omega)) (by first | omega | exact hb.1 | exact hb.2 | exact hr.1 | exact hr.2 | (dsimp only; omega))) ?_
 refine Gt (Ai LS rfl) ?_
 refine Gt (AQ Qg rfl rfl (by first | omega | exact hb.1 | exact hb.2 | exact hr.1 | exact hr.2 | (dsimp only; omega)) (by first | omega | exact hb.1 | exact hb.2 | exact hr.1 | exact hr.2 | (dsimp only; omega))) ?_
 refine Gt (AG rfl A2 .m0 ((((Ac.l0.comp AH.l0).comp (AS.ar (n := 6) Room.fl (by first | omega | exact hb | exact hr | (dsimp only; omega)))).comp Room.l2).comp (AS.ar (n := 6) Bw (by first | omega | exact hb | exact hr | (dsimp only; omega)))) rfl rfl) ?_
 refine Gt (Ex rfl rfl (IntWalk.i64_in _ (by first | omega | exact hb.1 | exact hb.2 | exact hr.1 | exact hr.2 | (dsimp only; omega)))) ?_
 refine Ga rfl (Gn (.t6 0 1 2 3 8 9) (Ae (Gs (Gm rfl (Gt (A6 rfl rfl) (Ga rfl (Gn (.t7 0 1 2 3 8 9 74) ?_)))))))
 refine Gc (fun c1 => ?_) (fun c1 => ?_)
 ·
  have c1p := kz c1
  try dsimp only at c1p
  refine AI (Gm rfl ?_)
  refine Ah rfl Dv (.c rfl (.c rfl .n)) (.c .h (.c .h .n)) (BW _ _ _ _ hg hb (by omega)) (fun v1 B hv => ?_)
  obtain ⟨y2, rfl, y3, rfl⟩ := hv
  refine AO (AB (.nil _) ?_)
  refine AT ?_
  refine Be rfl .n ?_
  intro w1 hS
  have hS := (hS.perm (Av.perm (.c .h (.c .h .n)))).Az
  have hq : T.JJ d p k = _ := (A9 c1)
  refine ⟨_, ⟨?gq1, rfl, ?hl1, ?hB1⟩, hS⟩
  case hB1 => rw [hq]; (try rfl)
  case hl1 => rw [hq]; assumption
 have c1p := kz c1
 try dsimp only at c1p
 refine Gs (Gm rfl (Gm rfl (Gm rfl (Gt (BR rfl) (Gt (Ai A5 rfl) (Gt (Ai GF rfl) ?_))))))
 refine Gt (AQ M8 rfl rfl (by first | omega | exact hb.1 | exact hb.2 | exact hr.1 | exact hr.2 | (dsimp only; omega)) (by first | omega | exact hb.1 | exact hb.2 | exact hr.1 | exact hr.2 | (dsimp only; omega))) ?_
 refine Gt (Ai La rfl) ?_
 refine Gt (AQ TI rfl rfl (by first | omega | exact hb.1 | exact hb.2 | exact hr.1 | exact hr.2 | (dsimp only; omega)) (by first | omega | exact hb.1 | exact hb.2 | exact hr.1 | exact hr.2 | (dsimp only; omega))) ?_
 refine Gt (AG rfl DV .m0 ((((Ac.l0.comp AH.l0).comp (AS.ar (n := 6) Room.fl (by first | omega | exact hb | exact hr | (dsimp only; omega)))).comp Room.l3).comp (AS.ar (n := 6) Gd (by first | omega | exact hb | exact hr | (dsimp only; omega)))) rfl rfl) ?_
 refine Gm rfl (Gt (JM Tryz.underlying4 rfl rfl) (Ga rfl (Gn (.t7 0 1 2 3 8 9 79) ?_)))
 refine Gc (fun c2 => ?_) (fun c2 => ?_)
 ·
  have c2p := kz c2
  try dsimp only at c2p
  refine AI (Gm rfl ?_)
  refine Ah rfl Dv (.c rfl (.c rfl .n)) (.c .h (.c .h .n)) (BW _ _ _ _ hg hb (by omega)) (fun v4 B hv => ?_)
  obtain ⟨y5, rfl, y6, rfl⟩ := hv
  refine AO (AB (.nil _) ?_)
  refine AT ?_
  refine Be rfl .n ?_
  intro w1 hS
  have hS := (hS.perm (Av.perm (.c .h (.c .h .n)))).Az
  have hq : T.JJ d p k = _ := ((AU c1).trans (A9 c2))
  refine ⟨_, ⟨?gq2, rfl, ?hl2, ?hB2⟩, hS⟩
  case hB2 => rw [hq]; (try rfl)
  case hl2 => rw [hq]; assumption
 have c2p := kz c2
 try dsimp only at c2p
 refine Gs (Gm rfl (Gm rfl (Gm rfl (Gm rfl (Gt (BS rfl) (Gt (BR rfl) (Gt (Ai A5 rfl) ?_)))))))
 refine Gt (Ai GF rfl) ?_
 refine Gt (AQ M8 rfl rfl (by first | omega | exact hb.1 | exact hb.2 | exact hr.1 | exact hr.2 | (dsimp only; omega)) (by first | omega | exact hb.1 | exact hb.2 | exact hr.1 | exact hr.2 | (dsimp only; omega))) ?_
 refine Gt (Ai La rfl) ?_
 refine Gt (AQ TI rfl rfl (by first | omega | exact hb.1 | exact hb.2 | exact hr.1 | exact hr.2 | (dsimp only; omega)) (by first | omega | exact hb.1 | exact hb.2 | exact hr.1 | exact hr.2 | (dsimp only; omega))) ?_
 refine AR (AJ ((((Ac.l0.comp AH.l0).comp (AS.ar (n := 6) Room.fl (by first | omega | exact hb | exact hr | (dsimp only; omega)))).comp Room.l3).comp (AS.ar (n := 6) Gd (by first | omega | exact hb | exact hr | (dsimp only; omega)))) rfl rfl rfl Jf rfl .h) ?_
 refine Gn (.t6 0 1 2 3 8 9) (B7 (Gm rfl ?_))
 refine A7 rfl Xi (.c rfl .n) (fun w hS => Gq _ w) ?_
 refine Ga rfl (Gn (.t6 0 2 3 8 9 10) (Gs (Gm rfl (Gm rfl (Gm rfl (Gt (BR rfl) (Gt (Ai A5 rfl) ?_)))))))
 refine Gt (Ai GF rfl) ?_
 refine Gt (AQ M8 rfl rfl (by first | omega | exact hb.1 | exact hb.2 | exact hr.1 | exact hr.2 | (dsimp only; omega)) (by first | omega | exact hb.1 | exact hb.2 | exact hr.1 | exact hr.2 | (dsimp only; omega))) ?_
 refine Gt (Ai LS rfl) ?_
 refine Gt (AQ Qg rfl rfl (by first | omega | exact hb.1 | exact hb.2 | exact hr.1 | exact hr.2 | (dsimp only; omega)) (by first | omega | exact hb.1 | exact hb.2 | exact hr.1 | exact hr.2 | (dsimp only; omega))) ?_
 refine Gt (AG rfl A2 .m0 ((((Ac.l0.comp AH.l0).comp (AS.ar (n := 6) Room.fl (by first | omega | exact hb | exact hr | (dsimp only; omega)))).comp Room.l2).comp (AS.ar (n := 6) Bw (by first | omega | exact hb | exact hr | (dsimp only; omega)))) rfl rfl) ?_
 refine Gm rfl ?_
 refine Gt (As rfl rfl (IntWalk.i64_in _ (by first | omega | exact hb.1 | exact hb.2 | exact hr.1 | exact hr.2 | (dsimp only; omega)))) ?_
 refine Gt (Af rfl rfl) (Gn (.t6 0 2 3 9 10 58) ?_)
 refine Gc (fun c3 => ?_) (fun c3 => ?_)
 ·
  have c3p := kz c3
  try dsimp only at c3p
  refine AI (Gm rfl (Gm rfl (Gm rfl (Gm rfl (Gt (BS rfl) (Gt (BR rfl) (Gt (Ai A5 rfl) ?_)))))))
  refine Gt (Ai GF rfl) ?_
  refine Gt (AQ M8 rfl rfl (by first | omega | exact hb.1 | exact hb.2 | exact hr.1 | exact hr.2 | (dsimp only; omega)) (by first | omega | exact hb.1 | exact hb.2 | exact hr.1 | exact hr.2 | (dsimp only; omega))) ?_
  refine Gt (Ai La rfl) ?_
  refine Gt (AQ TI rfl rfl (by first | omega | exact hb.1 | exact hb.2 | exact hr.1 | exact hr.2 | (dsimp only; omega)) (by first | omega | exact hb.1 | exact hb.2 | exact hr.1 | exact hr.2 | (dsimp only; omega))) ?_
  refine AR (AJ ((((Ac.l0.comp AH.l0).comp (AS.ar (n := 6) Room.fl (by first | omega | exact hb | exact hr | (dsimp only; omega)))).comp Room.l3).comp (AS.ar (n := 6) Gd (by first | omega | exact hb | exact hr | (dsimp only; omega)))) rfl rfl rfl Jf rfl .h) ?_
  refine Gn (.t2 0 3) (AI (Gm rfl (Gm rfl (Gt (BA MP Hk rfl (.cons Ing.Event.l0 rfl rfl rfl (.cons Ing.Event.l3 rfl rfl rfl (.cons Ing.Event.l8 rfl rfl rfl .nil)))) ?_))))
  refine Ah rfl Mk (.c rfl (.c rfl .n)) (.c .h (.c .h .n)) (CC _ (AF.Fj (T.Fj T.me.room d (!p)) ((T.w.Bv.at (T.w.AV.at T.b).room).DS.at d - 1) (AH.opposite d) (!p)) _ { AF.GA k with By := AF.OP } hg hb (show (-1 : Int) < 6 by decide) (show T.out.length ≤ 100000 by omega)) (fun v7 B hv => ?_)
  obtain ⟨y8, rfl, y9, rfl⟩ := hv
  refine AO (AB (.nil _) ?_)
  refine AT ?_
  refine Be rfl .n ?_
  intro w1 hS
  have hS := (hS.perm (Av.perm (.c .h (.c .h .n)))).Az
  have hq : T.JJ d p k = _ := (show T.JJ d p k = _ from (AU c1).trans (AU c2)).trans (congrArg (fun q => AF.Bj q { AF.GA k with By := AF.OP }) (A9 c3))
  refine ⟨_, ⟨?gq3, rfl, ?hl3, ?hB3⟩, hS⟩
  case hB3 => rw [hq]; (try rfl)
  case hl3 => rw [hq]; assumption
 have c3p := kz c3
 try dsimp only at c3p
 refine Aa ?_
 refine AB (.t2 0 3) ?_
 refine AA (AI (Gm rfl (Gm rfl (Gt (BA MP Hk rfl (.cons Ing.Event.l0 rfl rfl rfl (.cons Ing.Event.l3 rfl rfl rfl (.cons Ing.Event.l8 rfl rfl rfl .nil)))) ?_))))
 refine Ah rfl Mk (.c rfl (.c rfl .n)) (.c .h (.c .h .n)) (CC _ (T.Fj T.me.room d (!p)) _ { AF.GA k with By := AF.OP } hg hb (show (-1 : Int) < 6 by decide) (show T.out.length ≤ 100000 by omega)) (fun v10 B hv => ?_)
 obtain ⟨y11, rfl, y12, rfl⟩ := hv
 refine AO (AB (.nil _) ?_)
 refine AT ?_
 refine Be rfl .n ?_
 intro w1 hS
 have hS := (hS.perm (Av.perm (.c .h (.c .h .n)))).Az
 have hq : T.JJ d p k = _ := (show T.JJ d p k = _ from (AU c1).trans (AU c2)).trans (congrArg (fun q => AF.Bj q { AF.GA k with By := AF.OP }) (AU c3))
 refine ⟨_, ⟨?gq4, rfl, ?hl4, ?hB4⟩, hS⟩
 case hB4 => rw [hq]; (try rfl)
 case hl4 => rw [hq]; assumption
theorem FD (b : Nat) (T : AF) (g : Hd) (a : Bool) (i : Int) (p : Bool) (k : Int) (hg : g.len = T.out.length) (hb : 0 ≤ T.b ∧ T.b < 6) (hi : 0 ≤ i ∧ i < 9) (hn : T.out.length ≤ 90000) : JU Tryz.prog 140 #[.pointer (some ⟨b, 0, none⟩), .bool a, .int .i64 i, .bool p, .int .i64 k] [Ad.box b 163 (Ac.enc ⟨T.w, T.b, g⟩), Ad.own g 56 16 (T.out.flatMap Ing.Event.enc)] (fun v B => ∃ g' : Hd, v = .tuple #[] ∧ g'.len = (T.before a i p k).out.length ∧ B = [Ad.box b 163 (Ac.enc ⟨(T.before a i p k).w, (T.before a i p k).b, g'⟩), Ad.own g' 56 16 ((T.before a i p k).out.flatMap Ing.Event.enc)]) := by
 intro w hS0
 refine Am _ _ Tryz.func140 rfl rfl rfl (hS0) ?_
 refine B7 (Gm rfl (Gn (.t5 0 2 3 4 10) ?_))
 refine Gc (fun c1 => ?_) (fun c1 => ?_)
 ·
  have c1p := kz c1
  refine Gs (Gm rfl (Gm rfl (Gm rfl (Gt (BR rfl) (Gt (Ai A5 rfl) (Gt (Ai Ci rfl) ?_))))))
  refine Gt (AQ Fi rfl rfl (by first | omega | exact hb.1 | exact hb.2 | (dsimp only; omega)) (by first | omega | exact hb.1 | exact hb.2 | (dsimp only; omega))) ?_
  refine Gt (Ai FX rfl) ?_
  refine AR (AJ (((Ac.l0.comp AH.l1).comp (AS.ar (n := 9) Ak.fl (by first | omega | exact hb | (dsimp only; omega)))).comp Ak.l4) rfl rfl rfl Jf rfl .h) ?_
  refine Gn (.t3 0 2 4) (Gs (Gm rfl (Gm rfl (Gm rfl ?_))))
  refine Ah rfl M7 (.c rfl (.c rfl (.c rfl .n))) (.c .h (.c .h .n)) (De _ (T.D5 i { T.w.AX.at i with on := p }) _ k i hg hb hi (show T.out.length ≤ 100000 by omega)) (fun v1 B hv => ?_)
  obtain ⟨y2, rfl, y3, rfl⟩ := hv
  refine Gn (.nil _) (Ab (AD ?_))
  refine AY rfl .n ?_
  intro w1 hS
  have hS := (hS.perm (Av.perm (.c .h (.c .h .n)))).Az
  have hq : T.before a i p k = _ := (A9 c1)
  refine ⟨_, ⟨?gq1, rfl, ?hl1, ?hB1⟩, hS⟩
  case hB1 => rw [hq]; (try rfl)
  case hl1 => rw [hq]; assumption
 have c1p := kz c1
 refine Aa ?_
 refine AB (.t4 0 2 3 4) ?_
 refine AA (Gs (Gm rfl (Gm rfl (Gm rfl ?_))))
 refine Ah rfl M7 (.c rfl (.c rfl (.c rfl .n))) (.c .h (.c .h .n)) (De _ T _ k i hg hb hi (show T.out.length ≤ 100000 by omega)) (fun v4 B hv => ?_)
 obtain ⟨y5, rfl, y6, rfl⟩ := hv
 refine Gn (.t3 0 2 3) (AI (Gm rfl (Gm rfl (Gm rfl (Gt (BR rfl) (Gt (Ai A5 rfl) (Gt (Ai Ci rfl) ?_)))))))
 refine Gt (AQ Fi rfl rfl (by first | omega | exact hb.1 | exact hb.2 | (dsimp only; omega)) (by first | omega | exact hb.1 | exact hb.2 | (dsimp only; omega))) ?_
 refine Gt (Ai FX rfl) ?_
 refine AR (AJ (((Ac.l0.comp AH.l1).comp (AS.ar (n := 9) Ak.fl (by first | omega | exact hb | (dsimp only; omega)))).comp Ak.l4) rfl rfl rfl Jf rfl .h) ?_
 refine AO ?_
 refine Be rfl .n ?_
 intro w1 hS
 have hS := (hS.perm (Av.perm (.c .h (.c .h .n)))).Az
 have hq : T.before a i p k = _ := (AU c1)
 refine ⟨_, ⟨?gq2, rfl, ?hl2, ?hB2⟩, hS⟩
 case hB2 => rw [hq]; (try rfl)
 case hl2 => rw [hq]; assumption
theorem RC (b : Nat) (T : AF) (g : Hd) (o : Order) (hg : g.len = T.out.length) (hF : T.Fit) (hv : 12 ≤ o.verb ∧ o.verb ≤ 17) (hn : T.out.length ≤ 80000) : Ew Tryz.prog 107 #[.pointer (some ⟨b, 0, none⟩), .agg o.enc.toArray] [Ad.box b 163 (Ac.enc ⟨T.w, T.b, g⟩), Ad.own g 56 16 (T.out.flatMap Ing.Event.enc)] (fun w => (GV 0 AH.C0 w ∧ 0 ∉ CW [Ad.box b 163 (Ac.enc ⟨T.w, T.b, g⟩), Ad.own g 56 16 (T.out.flatMap Ing.Event.enc)])) (fun v B => ∃ g' : Hd, v = .tuple #[] ∧ g'.len = (T.set o).out.length ∧ B = [Ad.box b 163 (Ac.enc ⟨(T.set o).w, (T.set o).b, g'⟩), Ad.own g' 56 16 ((T.set o).out.flatMap Ing.Event.enc)]) := by
 intro w hS0 hH
 obtain ⟨gl0, gm0⟩ := hH
 have hb := hF.b
 have hr := hF.room
 have ho9 := T.JN
 have hs9 := T.Hu
 refine Am _ _ Tryz.func107 rfl rfl rfl (hS0) ?_
 refine Gs ?_
 refine B3 rfl rfl rfl (fun b1 => ?_)
 refine Gn (.t2 0 3) (Gs (Gt (Ai Cw rfl) (Gt (AG rfl A2 .m0 Order.l0 rfl rfl) (Gt (Af rfl rfl) (Gm rfl (BU 13 rfl rfl (fun q => Ai Cw rfl) (BU 13 rfl rfl (fun q => AG (cF rfl q) A2 .m0 Order.l0 rfl rfl) ?_)))))))
 refine BU 13 rfl rfl (fun q => Af (cF rfl q) rfl) ?_
 refine Gt (BP rfl rfl (fun h => by rw [h]; rfl)) ?_
 refine Gm rfl (BU 18 rfl rfl (fun q => Ai Cw rfl) (BU 18 rfl rfl (fun q => AG (cF rfl q) A2 .m0 Order.l0 rfl rfl) (BU 18 rfl rfl (fun q => Af (cF rfl q) rfl) ?_)))
 refine Gt (BP rfl rfl (fun h => by rw [h]; rfl)) ?_
 refine Ga rfl (Gn (.t3 0 3 4) (Gs (Ga rfl (Ga rfl (AO (AA ?_))))))
 refine P0 (Lm := []) (fun (kd : Int) (ev : Int) => kd = AF.setKind o.verb ∧ ev = AF.Sb o.verb) (fun (kd : Int) (ev : Int) => [(5, .int .i64 kd), (6, .int .i64 ev)]) (fun (kd : Int) (ev : Int) => []) (.t3 0 3 4) rfl ?_ (fun kd ev hC => ?_)
 ·
  refine Gs (Gt (Ai Cw rfl) (Gt (AG rfl A2 .m0 Order.l0 rfl rfl) (Gn (.t6 0 3 4 5 6 24) (Ae (Gs (Gt (Af rfl rfl) (Ga rfl ?_)))))))
  refine Gn (.t7 0 3 4 5 6 24 25) ?_
  refine Gc (fun c1 => ?_) (fun c1 => ?_)
  ·
   have c1p := kz c1
   refine AI (Ga rfl ?_)
   refine AO (AB (.t5 0 3 4 5 6) ?_)
   refine AT ?_
   refine EG _ _ ?_ (.t5 5 6 0 3 4) (.refl _)
   · have hv6 : o.verb = 12 ∨ o.verb = 13 ∨ o.verb = 14 ∨ o.verb = 15 ∨ o.verb = 16 ∨ o.verb = 17 := by omega
     rcases hv6 with e | e | e | e | e | e <;> (try rw [e] at c1) <;> first | exact ⟨by rw [e]; rfl, by rw [e]; rfl⟩ | exact absurd c1 (by decide)
  have c1p := kz c1
  refine B7 (Gt (Af rfl rfl) (Ga rfl (Gn (.t7 0 3 4 5 6 24 27) ?_)))
  refine Gc (fun c2 => ?_) (fun c2 => ?_)
  ·
   have c2p := kz c2
   refine Aa (AA ?_)
   refine GJ rfl c2 ?_
   refine Gs (Ga rfl (Ga rfl (Gn (.t5 0 3 4 5 6) (Gs (Gm rfl (Gt (BS rfl) (Gn (.t6 0 3 4 5 6 31) ?_)))))))
   refine Gc (fun c3 => ?_) (fun c3 => ?_)
   ·
    have c3p := kz c3
    refine AI (Ga rfl ?_)
    refine AO (AB (.t5 0 3 4 5 6) ?_)
    refine AT ?_
    refine EG _ _ ?_ (.t5 5 6 0 3 4) (.refl _)
    · have hv6 : o.verb = 12 ∨ o.verb = 13 ∨ o.verb = 14 ∨ o.verb = 15 ∨ o.verb = 16 ∨ o.verb = 17 := by omega
      rcases hv6 with e | e | e | e | e | e <;> (try rw [e] at c1) <;> (try rw [e] at c2) <;> (try rw [e] at c3) <;> first | exact ⟨by rw [e]; rfl, by rw [e]; rfl⟩ | exact absurd c1 (by decide) | exact absurd c2 (by decide) | exact absurd c3 (by decide)
   have c3p := kz c3
   refine Aa ?_
   refine AB (.t5 0 3 4 5 6) ?_
   refine AT ?_
   refine EG _ _ ?_ (.t5 5 6 0 3 4) (.refl _)
   · have hv6 : o.verb = 12 ∨ o.verb = 13 ∨ o.verb = 14 ∨ o.verb = 15 ∨ o.verb = 16 ∨ o.verb = 17 := by omega
     rcases hv6 with e | e | e | e | e | e <;> (try rw [e] at c1) <;> (try rw [e] at c2) <;> (try rw [e] at c3) <;> first | exact ⟨by rw [e]; rfl, by rw [e]; rfl⟩ | exact absurd c1 (by decide) | exact absurd c2 (by decide) | exact absurd c3 (by decide)
  have c2p := kz c2
  refine AI (Gt (Af rfl rfl) (Ga rfl (Gn (.t7 0 3 4 5 6 24 27) ?_)))
  refine Gc (fun c4 => ?_) (fun c4 => ?_)
  ·
   have c4p := kz c4
   refine Gs (Ga rfl (Ga rfl (Gn (.t5 0 3 4 5 6) (Gs (Gm rfl (Gt (BS rfl) (Gn (.t6 0 3 4 5 6 31) ?_)))))))
   refine Gc (fun c5 => ?_) (fun c5 => ?_)
   ·
    have c5p := kz c5
    refine AI (Ga rfl ?_)
    refine AO (AB (.t5 0 3 4 5 6) ?_)
    refine AT ?_
    refine EG _ _ ?_ (.t5 5 6 0 3 4) (.refl _)
    · have hv6 : o.verb = 12 ∨ o.verb = 13 ∨ o.verb = 14 ∨ o.verb = 15 ∨ o.verb = 16 ∨ o.verb = 17 := by omega
      rcases hv6 with e | e | e | e | e | e <;> (try rw [e] at c1) <;> (try rw [e] at c2) <;> (try rw [e] at c4) <;> (try rw [e] at c5) <;> first | exact ⟨by rw [e]; rfl, by rw [e]; rfl⟩ | exact absurd c1 (by decide) | exact absurd c2 (by decide) | exact absurd c4 (by decide) | exact absurd c5 (by decide)
   have c5p := kz c5
   refine Aa ?_
   refine AB (.t5 0 3 4 5 6) ?_
   refine AT ?_
   refine EG _ _ ?_ (.t5 5 6 0 3 4) (.refl _)
   · have hv6 : o.verb = 12 ∨ o.verb = 13 ∨ o.verb = 14 ∨ o.verb = 15 ∨ o.verb = 16 ∨ o.verb = 17 := by omega
     rcases hv6 with e | e | e | e | e | e <;> (try rw [e] at c1) <;> (try rw [e] at c2) <;> (try rw [e] at c4) <;> (try rw [e] at c5) <;> first | exact ⟨by rw [e]; rfl, by rw [e]; rfl⟩ | exact absurd c1 (by decide) | exact absurd c2 (by decide) | exact absurd c4 (by decide) | exact absurd c5 (by decide)
  have c4p := kz c4
  refine B7 (Gt (Af rfl rfl) (Ga rfl (Gn (.t7 0 3 4 5 6 24 32) ?_)))
  refine Gc (fun c6 => ?_) (fun c6 => ?_)
  ·
   have c6p := kz c6
   refine Aa ?_
   refine AB (.t6 0 3 4 5 6 32) ?_
   refine AA ?_
   refine GJ rfl c6 ?_
   refine Gs (Ga rfl (Ga rfl (Gn (.t5 0 3 4 5 6) (Gs (Gm rfl (Gt (BS rfl) (Gn (.t6 0 3 4 5 6 36) ?_)))))))
   refine Gc (fun c7 => ?_) (fun c7 => ?_)
   ·
    have c7p := kz c7
    refine AI (Ga rfl ?_)
    refine AO (AB (.t5 0 3 4 5 6) ?_)
    refine AT ?_
    refine EG _ _ ?_ (.t5 5 6 0 3 4) (.refl _)
    · have hv6 : o.verb = 12 ∨ o.verb = 13 ∨ o.verb = 14 ∨ o.verb = 15 ∨ o.verb = 16 ∨ o.verb = 17 := by omega
      rcases hv6 with e | e | e | e | e | e <;> (try rw [e] at c1) <;> (try rw [e] at c2) <;> (try rw [e] at c4) <;> (try rw [e] at c6) <;> (try rw [e] at c7) <;> first | exact ⟨by rw [e]; rfl, by rw [e]; rfl⟩ | exact absurd c1 (by decide) | exact absurd c2 (by decide) | exact absurd c4 (by decide) | exact absurd c6 (by decide) | exact absurd c7 (by decide)
   have c7p := kz c7
   refine Aa ?_
   refine AB (.t5 0 3 4 5 6) ?_
   refine AT ?_
   refine EG _ _ ?_ (.t5 5 6 0 3 4) (.refl _)
   · have hv6 : o.verb = 12 ∨ o.verb = 13 ∨ o.verb = 14 ∨ o.verb = 15 ∨ o.verb = 16 ∨ o.verb = 17 := by omega
     rcases hv6 with e | e | e | e | e | e <;> (try rw [e] at c1) <;> (try rw [e] at c2) <;> (try rw [e] at c4) <;> (try rw [e] at c6) <;> (try rw [e] at c7) <;> first | exact ⟨by rw [e]; rfl, by rw [e]; rfl⟩ | exact absurd c1 (by decide) | exact absurd c2 (by decide) | exact absurd c4 (by decide) | exact absurd c6 (by decide) | exact absurd c7 (by decide)
  have c6p := kz c6
  refine AI (Gt (Af rfl rfl) (Ga rfl (Gn (.t6 0 3 4 5 6 32) ?_)))
  refine Gc (fun c8 => ?_) (fun c8 => ?_)
  ·
   have c8p := kz c8
   refine Gs (Ga rfl (Ga rfl (Gn (.t5 0 3 4 5 6) (Gs (Gm rfl (Gt (BS rfl) (Gn (.t6 0 3 4 5 6 36) ?_)))))))
   refine Gc (fun c9 => ?_) (fun c9 => ?_)
   ·
    have c9p := kz c9
    refine AI (Ga rfl ?_)
    refine AO (AB (.t5 0 3 4 5 6) ?_)
    refine AT ?_
    refine EG _ _ ?_ (.t5 5 6 0 3 4) (.refl _)
    · have hv6 : o.verb = 12 ∨ o.verb = 13 ∨ o.verb = 14 ∨ o.verb = 15 ∨ o.verb = 16 ∨ o.verb = 17 := by omega
      rcases hv6 with e | e | e | e | e | e <;> (try rw [e] at c1) <;> (try rw [e] at c2) <;> (try rw [e] at c4) <;> (try rw [e] at c6) <;> (try rw [e] at c8) <;> (try rw [e] at c9) <;> first | exact ⟨by rw [e]; rfl, by rw [e]; rfl⟩ | exact absurd c1 (by decide) | exact absurd c2 (by decide) | exact absurd c4 (by decide) | exact absurd c6 (by decide) | exact absurd c8 (by decide) | exact absurd c9 (by decide)
   have c9p := kz c9
   refine Aa ?_
   refine AB (.t5 0 3 4 5 6) ?_
   refine AT ?_
   refine EG _ _ ?_ (.t5 5 6 0 3 4) (.refl _)
   · have hv6 : o.verb = 12 ∨ o.verb = 13 ∨ o.verb = 14 ∨ o.verb = 15 ∨ o.verb = 16 ∨ o.verb = 17 := by omega
     rcases hv6 with e | e | e | e | e | e <;> (try rw [e] at c1) <;> (try rw [e] at c2) <;> (try rw [e] at c4) <;> (try rw [e] at c6) <;> (try rw [e] at c8) <;> (try rw [e] at c9) <;> first | exact ⟨by rw [e]; rfl, by rw [e]; rfl⟩ | exact absurd c1 (by decide) | exact absurd c2 (by decide) | exact absurd c4 (by decide) | exact absurd c6 (by decide) | exact absurd c8 (by decide) | exact absurd c9 (by decide)
  have c8p := kz c8
  refine Aa ?_
  refine AB (.t5 0 3 4 5 6) ?_
  refine AT ?_
  refine EG _ _ ?_ (.t5 5 6 0 3 4) (.refl _)
  · have hv6 : o.verb = 12 ∨ o.verb = 13 ∨ o.verb = 14 ∨ o.verb = 15 ∨ o.verb = 16 ∨ o.verb = 17 := by omega
    rcases hv6 with e | e | e | e | e | e <;> (try rw [e] at c1) <;> (try rw [e] at c2) <;> (try rw [e] at c4) <;> (try rw [e] at c6) <;> (try rw [e] at c8) <;> first | exact ⟨by rw [e]; rfl, by rw [e]; rfl⟩ | exact absurd c1 (by decide) | exact absurd c2 (by decide) | exact absurd c4 (by decide) | exact absurd c6 (by decide) | exact absurd c8 (by decide)
 obtain ⟨rfl, rfl⟩ := hC
 refine B7 (Gt (Ai FE rfl) (Gt (AG rfl CN .m0 Order.l3 rfl rfl) ?_))
 refine A7 rfl Zr (.c rfl .n) (fun w hS => Ir _ w (gl0.stM gm0 hS)) ?_
 refine Gm rfl (Gt (AK rfl rfl) (Gt (AK rfl rfl) (Ga rfl (Ga rfl (Gn (.t7 0 3 4 5 6 7 8) (Gs (Gm rfl ?_)))))))
 refine Gm rfl (Bh 44 rfl rfl (fun q => AE rfl) (Bh 44 rfl rfl (fun q => Af (Bc rfl q) rfl) (Gt (BI rfl rfl (fun h => h)) (Gn (.t7 0 3 4 5 6 7 47) ?_))))
 refine Gc (fun c10 => ?_) (fun c10 => ?_)
 ·
  have c10p := kz c10
  refine Gs (Gm rfl (Gm rfl (Gm rfl (Gm rfl ?_))))
  refine Ah rfl Zg (.c rfl (.c rfl (.c rfl (.c rfl .n)))) (.c (.t .h) (.c (.t .h) .n)) (O9 _ T _ _ _ _ hg hF (Words.Wx (Bool.and_eq_true_iff.1 c10).1) (by omega)) (fun v1 B hv => ?_)
  obtain ⟨y2, rfl, y3, rfl⟩ := hv
  refine Gn (.nil _) (Ab (AD ?_))
  refine AY rfl .n ?_
  intro w1 hS
  have hS := (hS.perm (Av.perm (.c .h (.c .h .n)))).Az
  have hq : T.set o = _ := (A9 c10)
  refine ⟨_, ⟨?gq1, rfl, ?hl1, ?hB1⟩, hS⟩
  case hB1 => rw [hq]; (try rfl)
  case hl1 => rw [hq]; assumption
 have c10p := kz c10
 refine Aa ?_
 refine AB (.t5 0 3 4 5 6) ?_
 refine AA (Gs (Gm rfl ?_))
 refine Ah rfl SW (.c rfl .n) (.c (.t .h) .n) (HD _ T _ hF) (fun v4 B hv => ?_)
 obtain ⟨y5, rfl, y6, rfl⟩ := hv
 refine Ga rfl (Gn (.t6 0 3 4 5 6 9) (B7 (Gm rfl (Gt (Af rfl rfl) (Gn (.t7 0 3 4 5 6 9 56) ?_)))))
 refine Gc (fun c11 => ?_) (fun c11 => ?_)
 ·
  have c11p := kz c11
  refine AI (Gm rfl (Gm rfl ?_))
  refine Ah rfl VC (.c rfl .n) (.c .h .n) (H8 _ T _ hF) (fun v8 B hv => ?_)
  obtain ⟨y9, rfl, y10, rfl⟩ := hv
  refine CO Bw rfl Tryz.underlying169 Cy Yn rfl aD (by decide) (by decide) rfl rfl (fun w hS => Src.DU Tryz.underlying169 ((Kn.own .m1) w hS)) (by (try dsimp only); omega) (fun _ => (.t (.t .h))) (fun h12 h12l h12z => ?_)
  refine Ga rfl (Gn (.t6 0 3 4 5 6 9) (Gs (Gm rfl (Gm rfl (Gt (Ai Ft rfl) (Gt (AG rfl A2 .m3 Order.l1 rfl rfl) (Gt (Ki rfl rfl) ?_)))))))
  refine Gt (Ai FE rfl) (Gt (AG rfl CN .m3 Order.l3 rfl rfl) ?_)
  refine Ah rfl Oe (.c rfl (.c rfl (.c rfl (.c rfl (.c rfl .n))))) (.c .h (.c (.t .h) .n)) (Ec _ T _ _ (T.own ++ T.seen) _ _ _ hF (by rw [List.length_append]; omega) (by rw [List.length_append]; omega) (fun i hi => AF.O6 hi)) (fun v13 B hv => ?_)
  obtain ⟨y14, rfl, y15, rfl⟩ := hv
  refine Ga rfl (Gn (.t5 0 4 5 6 9) (Ae (Ap ?_)))
  have hx0 := AF.QG (l := (AF.BO T.w (T.own ++ T.seen) (max o.nth 1) o.name false)) (fun i hi => AF.O6 (AF.EV hi))
  refine BD (N := 18) [0, 1, 3, 7, 15, 15, 47, 111, 31, 287, 799, 2047, 4095, 8191, 15, 32767, 65535, 131071] mix (by kernel_rfl) rfl ?_
  refine Pf 0 rfl (AE rfl) (Pf 1 rfl (Ao rfl Tryz.underlying169 rfl) (Pf 2 rfl (Af rfl rfl) (Pf 3 rfl (AE rfl) (G1 4 82 rfl rfl rfl (fun q => AE rfl) (G1 5 82 rfl rfl rfl (fun q => AE rfl) ?_)))))
  refine BV 6 rfl rfl (by kernel_rfl) (GN (t := 82) rfl rfl (fun q => by have q1 := q; (try simp at q1); exact H3 (Bm F7 (by decide) (Kn.own .m2) (cF rfl q) rfl (by omega) (by first | omega | (simp at q ⊢; omega))))) ?_
  refine BV 7 rfl rfl (by kernel_rfl) (GN (t := 82) rfl rfl (fun q => by have q1 := q; (try simp at q1); exact H3 (C1 (cF rfl q) A2 (Kn.own .m2) (by first | omega | (simp at q ⊢; omega))))) ?_
  refine G1 8 82 rfl rfl rfl (fun q => BR (cF rfl q)) (G1 9 82 rfl rfl rfl (fun q => Ai A5 (cF rfl q)) (G1 10 82 rfl rfl rfl (fun q => Ai Ci (cF rfl q)) ?_))
  refine BV 11 rfl rfl (by kernel_rfl) (GN (t := 82) rfl rfl (fun q => by have q1 := q; (try simp at q1); exact H3 (AQ Fi (cF rfl q) (cF rfl q) (by first | omega | exact hb.1 | exact hb.2 | exact hx0.1 | exact hx0.2 | (dsimp only; omega)) (by first | omega | exact hb.1 | exact hb.2 | exact hx0.1 | exact hx0.2 | (dsimp only; omega))))) ?_
  refine G1 12 82 rfl rfl rfl (fun q => Ai GG (cF rfl q)) ?_
  refine BV 13 rfl rfl (by kernel_rfl) (GN (t := 82) rfl rfl (fun q => by have q1 := q; (try simp at q1); exact H3 (AG (cF rfl q) A2 .m0 (((Ac.l0.comp AH.l1).comp (AS.ar (n := 9) Ak.fl (by first | omega | exact hb | exact hx0 | (dsimp only; omega)))).comp Ak.l1) rfl rfl))) ?_
  refine G1 14 82 rfl rfl rfl (fun q => AE rfl) (G1 15 82 rfl rfl rfl (fun q => CK (cF rfl q) (cF rfl q)) ?_)
  refine Pf 16 rfl (BP rfl rfl (fun h => by rw [h]; rfl)) ?_
  refine Pf 17 rfl (Ay rfl) ?_
  refine A1 (by kernel_rfl) ?_
  refine AB (.t6 0 4 5 6 9 78) ?_
  refine AA ?_
  refine Gc (fun c12 => ?_) (fun c12 => ?_)
  ·
   have c12p := kz c12
   rw [y15] at c12 c12p
   have hsl : T.E1 o = (AF.BO T.w (T.own ++ T.seen) (max o.nth 1) o.name false) := congrArg (fun q => AF.BO T.w q _ _ _) (A9 c11)
   refine AI (Gm rfl ?_)
   refine Ah rfl Dv (.c rfl (.c rfl .n)) (.c .h (.c (.t (.t (.t (.t .h)))) .n)) (BW _ _ _ _ hg hb (by omega)) (fun v17 B hv => ?_)
   obtain ⟨y18, rfl, y19, rfl⟩ := hv
   refine AO (AB (.nil _) ?_)
   refine AT ?_
   refine Be rfl .n ?_
   intro w1 hS
   have hS := (hS.perm (Av.perm (.c .h (.c .h .n)))).Az
   have d0 : (decide (((T.E1 o).length : Int) = 0) || !decide ((T.w.AX.at ((T.E1 o).getD 0 0)).kind = AF.setKind o.verb)) = true := by rw [hsl]; exact c12
   have hq : T.set o = _ := (AU c10).trans (A9 d0)
   (try rw [hsl] at hq)
   refine ⟨_, ⟨?gq2, rfl, ?hl2, ?hB2⟩, hS⟩
   case hB2 => rw [hq]; (try rfl)
   case hl2 => rw [hq]; assumption
  have c12p := kz c12
  rw [y15] at c12 c12p
  have hsl : T.E1 o = (AF.BO T.w (T.own ++ T.seen) (max o.nth 1) o.name false) := congrArg (fun q => AF.BO T.w q _ _ _) (A9 c11)
  refine Ap ?_
  refine BD (N := 13) [0, 0, 2, 6, 1, 17, 49, 127, 255, 511, 0, 2047, 4095] mix (by kernel_rfl) rfl ?_
  refine Pf 0 rfl (AE rfl) (Pf 1 rfl (AE rfl) ?_)
  refine Pf 2 rfl (Bm F7 (by decide) (Kn.own .m2) rfl rfl (by omega) (by first | omega | (simp at q ⊢; omega))) ?_
  refine Pf 3 rfl (C1 rfl A2 (Kn.own .m2) (by first | omega | (simp at q ⊢; omega))) ?_
  refine Pf 4 rfl (BR rfl) (Pf 5 rfl (Ai A5 rfl) (Pf 6 rfl (Ai Ci rfl) ?_))
  refine Pf 7 rfl (AQ Fi rfl rfl (by first | omega | exact hb.1 | exact hb.2 | exact hx0.1 | exact hx0.2 | (dsimp only; omega)) (by first | omega | exact hb.1 | exact hb.2 | exact hx0.1 | exact hx0.2 | (dsimp only; omega))) ?_
  refine Pf 8 rfl (Ai FX rfl) ?_
  refine Pf 9 rfl (AG rfl DV .m0 (((Ac.l0.comp AH.l1).comp (AS.ar (n := 9) Ak.fl (by first | omega | exact hb | exact hx0 | (dsimp only; omega)))).comp Ak.l4) rfl rfl) ?_
  refine Pf 10 rfl (AE rfl) (Pf 11 rfl (I5 Tryz.underlying4 rfl rfl) (Pf 12 rfl (Ay rfl) ?_))
  refine A1 (by kernel_rfl) ?_
  refine AB (.t6 0 4 5 6 9 98) ?_
  refine AA ?_
  refine Gc (fun c13 => ?_) (fun c13 => ?_)
  ·
   have c13p := kz c13
   refine AI (Gm rfl ?_)
   refine Ah rfl Dv (.c rfl (.c rfl .n)) (.c .h (.c (.t (.t (.t (.t .h)))) .n)) (BW _ _ _ _ hg hb (by omega)) (fun v20 B hv => ?_)
   obtain ⟨y21, rfl, y22, rfl⟩ := hv
   refine AO (AB (.nil _) ?_)
   refine AT ?_
   refine Be rfl .n ?_
   intro w1 hS
   have hS := (hS.perm (Av.perm (.c .h (.c .h .n)))).Az
   have d0 : (decide (((T.E1 o).length : Int) = 0) || !decide ((T.w.AX.at ((T.E1 o).getD 0 0)).kind = AF.setKind o.verb)) = false := by rw [hsl]; exact c12
   have d1 : ((T.w.AX.at ((T.E1 o).getD 0 0)).on == AF.Gh o.verb) = true := by rw [hsl]; exact c13
   have hq : T.set o = _ := (AU c10).trans ((AU d0).trans (A9 d1))
   (try rw [hsl] at hq)
   refine ⟨_, ⟨?gq3, rfl, ?hl3, ?hB3⟩, hS⟩
   case hB3 => rw [hq]; (try rfl)
   case hl3 => rw [hq]; assumption
  have c13p := kz c13
  refine Gs (Gm rfl (Ga rfl (Gn (.t6 0 4 5 6 9 113) ?_)))
  refine Gc (fun c14 => ?_) (fun c14 => ?_)
  ·
   have c14p := kz c14
   refine AI (Gm rfl (Gm rfl (Gt (CK rfl rfl) (Gm rfl ?_))))
   refine Gt (Bm F7 (by decide) (Kn.own .m2) rfl rfl (by omega) (by first | omega | (simp at q ⊢; omega))) ?_
   refine Gt (C1 rfl A2 (Kn.own .m2) (by first | omega | (simp at q ⊢; omega))) ?_
   refine Gm rfl (Gm rfl ?_)
   refine Ah rfl Sp (.c rfl (.c rfl (.c rfl (.c rfl (.c rfl .n))))) (.c .h (.c (.t (.t (.t (.t .h)))) .n)) (FD _ T _ (!decide (AF.setKind o.verb = 2)) ((AF.BO T.w (T.own ++ T.seen) (max o.nth 1) o.name false).getD (0 : Int).toNat 0) _ _ hg hb hx0 (by omega)) (fun v23 B hv => ?_)
   obtain ⟨y24, rfl, y25, rfl⟩ := hv
   refine AO (AB (.nil _) ?_)
   refine AT ?_
   refine Be rfl .n ?_
   intro w1 hS
   have hS := (hS.perm (Av.perm (.c .h (.c .h .n)))).Az
   have d0 : (decide (((T.E1 o).length : Int) = 0) || !decide ((T.w.AX.at ((T.E1 o).getD 0 0)).kind = AF.setKind o.verb)) = false := by rw [hsl]; exact c12
   have d1 : ((T.w.AX.at ((T.E1 o).getD 0 0)).on == AF.Gh o.verb) = false := by rw [hsl]; exact c13
   have d2 : AF.Gh o.verb = true := c14
   have hq : T.set o = _ := (AU c10).trans ((AU d0).trans ((AU d1).trans (A9 d2)))
   (try rw [hsl] at hq)
   refine ⟨_, ⟨?gq4, rfl, ?hl4, ?hB4⟩, hS⟩
   case hB4 => rw [hq]; (try rfl)
   case hl4 => rw [hq]; assumption
  have c14p := kz c14
  refine AI (Gm rfl (Gm rfl (Gt (Af rfl rfl) (Gm rfl ?_))))
  refine Gt (Bm F7 (by decide) (Kn.own .m2) rfl rfl (by omega) (by first | omega | (simp at q ⊢; omega))) ?_
  refine Gt (C1 rfl A2 (Kn.own .m2) (by first | omega | (simp at q ⊢; omega))) ?_
  refine Gm rfl (Gm rfl ?_)
  refine Ah rfl Sp (.c rfl (.c rfl (.c rfl (.c rfl (.c rfl .n))))) (.c .h (.c (.t (.t (.t (.t .h)))) .n)) (FD _ T _ (decide (AF.setKind o.verb = 2)) ((AF.BO T.w (T.own ++ T.seen) (max o.nth 1) o.name false).getD (0 : Int).toNat 0) _ _ hg hb hx0 (by omega)) (fun v26 B hv => ?_)
  obtain ⟨y27, rfl, y28, rfl⟩ := hv
  refine AO (AB (.nil _) ?_)
  refine AT ?_
  refine Be rfl .n ?_
  intro w1 hS
  have hS := (hS.perm (Av.perm (.c .h (.c .h .n)))).Az
  have d0 : (decide (((T.E1 o).length : Int) = 0) || !decide ((T.w.AX.at ((T.E1 o).getD 0 0)).kind = AF.setKind o.verb)) = false := by rw [hsl]; exact c12
  have d1 : ((T.w.AX.at ((T.E1 o).getD 0 0)).on == AF.Gh o.verb) = false := by rw [hsl]; exact c13
  have d2 : AF.Gh o.verb = false := c14
  have hq : T.set o = _ := (AU c10).trans ((AU d0).trans ((AU d1).trans (AU d2)))
  (try rw [hsl] at hq)
  refine ⟨_, ⟨?gq5, rfl, ?hl5, ?hB5⟩, hS⟩
  case hB5 => rw [hq]; (try rfl)
  case hl5 => rw [hq]; assumption
 have c11p := kz c11
 refine Aa ?_
 refine AB (.t6 0 3 4 5 6 9) ?_
 refine AA (Gs (Gm rfl (Gm rfl (Gt (Ai Ft rfl) (Gt (AG rfl A2 .m2 Order.l1 rfl rfl) (Gt (Ki rfl rfl) (Gt (Ai FE rfl) ?_)))))))
 refine Gt (AG rfl CN .m2 Order.l3 rfl rfl) ?_
 refine Ah rfl Oe (.c rfl (.c rfl (.c rfl (.c rfl (.c rfl .n))))) (.c .h (.c .h .n)) (Ec _ T _ _ T.own _ _ _ hF (by assumption) (by omega) (fun i hi => AF.KU hi)) (fun v29 B hv => ?_)
 obtain ⟨y30, rfl, y31, rfl⟩ := hv
 refine Ga rfl (Gn (.t5 0 4 5 6 9) (Ae (Ap ?_)))
 have hx0 := AF.QG (l := (AF.BO T.w T.own (max o.nth 1) o.name false)) (fun i hi => AF.KU (AF.EV hi))
 refine BD (N := 18) [0, 1, 3, 7, 15, 15, 47, 111, 31, 287, 799, 2047, 4095, 8191, 15, 32767, 65535, 131071] mix (by kernel_rfl) rfl ?_
 refine Pf 0 rfl (AE rfl) (Pf 1 rfl (Ao rfl Tryz.underlying169 rfl) (Pf 2 rfl (Af rfl rfl) (Pf 3 rfl (AE rfl) (G1 4 82 rfl rfl rfl (fun q => AE rfl) (G1 5 82 rfl rfl rfl (fun q => AE rfl) ?_)))))
 refine BV 6 rfl rfl (by kernel_rfl) (GN (t := 82) rfl rfl (fun q => by have q1 := q; (try simp at q1); exact H3 (Bm F7 (by decide) (Kn.own .m2) (cF rfl q) rfl (by omega) (by first | omega | (simp at q ⊢; omega))))) ?_
 refine BV 7 rfl rfl (by kernel_rfl) (GN (t := 82) rfl rfl (fun q => by have q1 := q; (try simp at q1); exact H3 (C1 (cF rfl q) A2 (Kn.own .m2) (by first | omega | (simp at q ⊢; omega))))) ?_
 refine G1 8 82 rfl rfl rfl (fun q => BR (cF rfl q)) (G1 9 82 rfl rfl rfl (fun q => Ai A5 (cF rfl q)) (G1 10 82 rfl rfl rfl (fun q => Ai Ci (cF rfl q)) ?_))
 refine BV 11 rfl rfl (by kernel_rfl) (GN (t := 82) rfl rfl (fun q => by have q1 := q; (try simp at q1); exact H3 (AQ Fi (cF rfl q) (cF rfl q) (by first | omega | exact hb.1 | exact hb.2 | exact hx0.1 | exact hx0.2 | (dsimp only; omega)) (by first | omega | exact hb.1 | exact hb.2 | exact hx0.1 | exact hx0.2 | (dsimp only; omega))))) ?_
 refine G1 12 82 rfl rfl rfl (fun q => Ai GG (cF rfl q)) ?_
 refine BV 13 rfl rfl (by kernel_rfl) (GN (t := 82) rfl rfl (fun q => by have q1 := q; (try simp at q1); exact H3 (AG (cF rfl q) A2 .m0 (((Ac.l0.comp AH.l1).comp (AS.ar (n := 9) Ak.fl (by first | omega | exact hb | exact hx0 | (dsimp only; omega)))).comp Ak.l1) rfl rfl))) ?_
 refine G1 14 82 rfl rfl rfl (fun q => AE rfl) (G1 15 82 rfl rfl rfl (fun q => CK (cF rfl q) (cF rfl q)) ?_)
 refine Pf 16 rfl (BP rfl rfl (fun h => by rw [h]; rfl)) ?_
 refine Pf 17 rfl (Ay rfl) ?_
 refine A1 (by kernel_rfl) ?_
 refine AB (.t6 0 4 5 6 9 78) ?_
 refine AA ?_
 refine Gc (fun c15 => ?_) (fun c15 => ?_)
 ·
  have c15p := kz c15
  rw [y31] at c15 c15p
  have hsl : T.E1 o = (AF.BO T.w T.own (max o.nth 1) o.name false) := congrArg (fun q => AF.BO T.w q _ _ _) (AU c11)
  refine AI (Gm rfl ?_)
  refine Ah rfl Dv (.c rfl (.c rfl .n)) (.c .h (.c (.t (.t (.t .h))) .n)) (BW _ _ _ _ hg hb (by omega)) (fun v33 B hv => ?_)
  obtain ⟨y34, rfl, y35, rfl⟩ := hv
  refine AO (AB (.nil _) ?_)
  refine AT ?_
  refine Be rfl .n ?_
  intro w1 hS
  have hS := (hS.perm (Av.perm (.c .h (.c .h .n)))).Az
  have d0 : (decide (((T.E1 o).length : Int) = 0) || !decide ((T.w.AX.at ((T.E1 o).getD 0 0)).kind = AF.setKind o.verb)) = true := by rw [hsl]; exact c15
  have hq : T.set o = _ := (AU c10).trans (A9 d0)
  (try rw [hsl] at hq)
  refine ⟨_, ⟨?gq6, rfl, ?hl6, ?hB6⟩, hS⟩
  case hB6 => rw [hq]; (try rfl)
  case hl6 => rw [hq]; assumption
 have c15p := kz c15
 rw [y31] at c15 c15p
 have hsl : T.E1 o = (AF.BO T.w T.own (max o.nth 1) o.name false) := congrArg (fun q => AF.BO T.w q _ _ _) (AU c11)
 refine Ap ?_
 refine BD (N := 13) [0, 0, 2, 6, 1, 17, 49, 127, 255, 511, 0, 2047, 4095] mix (by kernel_rfl) rfl ?_
 refine Pf 0 rfl (AE rfl) (Pf 1 rfl (AE rfl) ?_)
 refine Pf 2 rfl (Bm F7 (by decide) (Kn.own .m2) rfl rfl (by omega) (by first | omega | (simp at q ⊢; omega))) ?_
 refine Pf 3 rfl (C1 rfl A2 (Kn.own .m2) (by first | omega | (simp at q ⊢; omega))) ?_
 refine Pf 4 rfl (BR rfl) (Pf 5 rfl (Ai A5 rfl) (Pf 6 rfl (Ai Ci rfl) ?_))
 refine Pf 7 rfl (AQ Fi rfl rfl (by first | omega | exact hb.1 | exact hb.2 | exact hx0.1 | exact hx0.2 | (dsimp only; omega)) (by first | omega | exact hb.1 | exact hb.2 | exact hx0.1 | exact hx0.2 | (dsimp only; omega))) ?_
 refine Pf 8 rfl (Ai FX rfl) ?_
 refine Pf 9 rfl (AG rfl DV .m0 (((Ac.l0.comp AH.l1).comp (AS.ar (n := 9) Ak.fl (by first | omega | exact hb | exact hx0 | (dsimp only; omega)))).comp Ak.l4) rfl rfl) ?_
 refine Pf 10 rfl (AE rfl) (Pf 11 rfl (I5 Tryz.underlying4 rfl rfl) (Pf 12 rfl (Ay rfl) ?_))
 refine A1 (by kernel_rfl) ?_
 refine AB (.t6 0 4 5 6 9 98) ?_
 refine AA ?_
 refine Gc (fun c16 => ?_) (fun c16 => ?_)
 ·
  have c16p := kz c16
  refine AI (Gm rfl ?_)
  refine Ah rfl Dv (.c rfl (.c rfl .n)) (.c .h (.c (.t (.t (.t .h))) .n)) (BW _ _ _ _ hg hb (by omega)) (fun v36 B hv => ?_)
  obtain ⟨y37, rfl, y38, rfl⟩ := hv
  refine AO (AB (.nil _) ?_)
  refine AT ?_
  refine Be rfl .n ?_
  intro w1 hS
  have hS := (hS.perm (Av.perm (.c .h (.c .h .n)))).Az
  have d0 : (decide (((T.E1 o).length : Int) = 0) || !decide ((T.w.AX.at ((T.E1 o).getD 0 0)).kind = AF.setKind o.verb)) = false := by rw [hsl]; exact c15
  have d1 : ((T.w.AX.at ((T.E1 o).getD 0 0)).on == AF.Gh o.verb) = true := by rw [hsl]; exact c16
  have hq : T.set o = _ := (AU c10).trans ((AU d0).trans (A9 d1))
  (try rw [hsl] at hq)
  refine ⟨_, ⟨?gq7, rfl, ?hl7, ?hB7⟩, hS⟩
  case hB7 => rw [hq]; (try rfl)
  case hl7 => rw [hq]; assumption
 have c16p := kz c16
 refine Gs (Gm rfl (Ga rfl (Gn (.t6 0 4 5 6 9 113) ?_)))
 refine Gc (fun c17 => ?_) (fun c17 => ?_)
 ·
  have c17p := kz c17
  refine AI (Gm rfl (Gm rfl (Gt (CK rfl rfl) (Gm rfl ?_))))
  refine Gt (Bm F7 (by decide) (Kn.own .m2) rfl rfl (by omega) (by first | omega | (simp at q ⊢; omega))) ?_
  refine Gt (C1 rfl A2 (Kn.own .m2) (by first | omega | (simp at q ⊢; omega))) ?_
  refine Gm rfl (Gm rfl ?_)
  refine Ah rfl Sp (.c rfl (.c rfl (.c rfl (.c rfl (.c rfl .n))))) (.c .h (.c (.t (.t (.t .h))) .n)) (FD _ T _ (!decide (AF.setKind o.verb = 2)) ((AF.BO T.w T.own (max o.nth 1) o.name false).getD (0 : Int).toNat 0) _ _ hg hb hx0 (by omega)) (fun v39 B hv => ?_)
  obtain ⟨y40, rfl, y41, rfl⟩ := hv
  refine AO (AB (.nil _) ?_)
  refine AT ?_
  refine Be rfl .n ?_
  intro w1 hS
  have hS := (hS.perm (Av.perm (.c .h (.c .h .n)))).Az
  have d0 : (decide (((T.E1 o).length : Int) = 0) || !decide ((T.w.AX.at ((T.E1 o).getD 0 0)).kind = AF.setKind o.verb)) = false := by rw [hsl]; exact c15
  have d1 : ((T.w.AX.at ((T.E1 o).getD 0 0)).on == AF.Gh o.verb) = false := by rw [hsl]; exact c16
  have d2 : AF.Gh o.verb = true := c17
  have hq : T.set o = _ := (AU c10).trans ((AU d0).trans ((AU d1).trans (A9 d2)))
  (try rw [hsl] at hq)
  refine ⟨_, ⟨?gq8, rfl, ?hl8, ?hB8⟩, hS⟩
  case hB8 => rw [hq]; (try rfl)
  case hl8 => rw [hq]; assumption
 have c17p := kz c17
 refine AI (Gm rfl (Gm rfl (Gt (Af rfl rfl) (Gm rfl ?_))))
 refine Gt (Bm F7 (by decide) (Kn.own .m2) rfl rfl (by omega) (by first | omega | (simp at q ⊢; omega))) ?_
 refine Gt (C1 rfl A2 (Kn.own .m2) (by first | omega | (simp at q ⊢; omega))) ?_
 refine Gm rfl (Gm rfl ?_)
 refine Ah rfl Sp (.c rfl (.c rfl (.c rfl (.c rfl (.c rfl .n))))) (.c .h (.c (.t (.t (.t .h))) .n)) (FD _ T _ (decide (AF.setKind o.verb = 2)) ((AF.BO T.w T.own (max o.nth 1) o.name false).getD (0 : Int).toNat 0) _ _ hg hb hx0 (by omega)) (fun v42 B hv => ?_)
 obtain ⟨y43, rfl, y44, rfl⟩ := hv
 refine AO (AB (.nil _) ?_)
 refine AT ?_
 refine Be rfl .n ?_
 intro w1 hS
 have hS := (hS.perm (Av.perm (.c .h (.c .h .n)))).Az
 have d0 : (decide (((T.E1 o).length : Int) = 0) || !decide ((T.w.AX.at ((T.E1 o).getD 0 0)).kind = AF.setKind o.verb)) = false := by rw [hsl]; exact c15
 have d1 : ((T.w.AX.at ((T.E1 o).getD 0 0)).on == AF.Gh o.verb) = false := by rw [hsl]; exact c16
 have d2 : AF.Gh o.verb = false := c17
 have hq : T.set o = _ := (AU c10).trans ((AU d0).trans ((AU d1).trans (AU d2)))
 (try rw [hsl] at hq)
 refine ⟨_, ⟨?gq9, rfl, ?hl9, ?hB9⟩, hS⟩
 case hB9 => rw [hq]; (try rfl)
 case hl9 => rw [hq]; assumption
theorem Fq (X : AH) (b : Int) (o : Order) (hw : X.Dw) (hu : o.second.length ≤ 5000000) (hm : o.name.length ≤ 5000000) : Ew Tryz.prog 84 #[.agg X.enc.toArray, .int .i64 b, .agg o.enc.toArray] [] (fun w => (GV 0 AH.C0 w ∧ 0 ∉ CW []) ∧ (F8 7 w ∧ 7 ∉ CW []) ∧ (F8 8 w ∧ 8 ∉ CW [])) (fun v B => ∃ h : Hd, v = .tuple #[.agg ((AF.FY X b o).1.enc).toArray, h.val, .int .i64 (AF.FY X b o).2.2] ∧ h.len = (AF.FY X b o).2.1.length ∧ B = [Ad.own h 56 16 ((AF.FY X b o).2.1.flatMap Ing.Event.enc)]) := by
 intro w hS0 hH
 obtain ⟨⟨gl0, gm0⟩, ⟨gl1, gm1⟩, ⟨gl2, gm2⟩⟩ := hH
 refine Am _ _ Tryz.func84 rfl rfl rfl (hS0) ?_
 refine Gs ?_
 refine B3 rfl rfl rfl (fun b1 => ?_)
 refine B3 rfl rfl rfl (fun b2 => ?_)
 refine BF rfl L4 rfl (fun b3 => ?_)
 refine Ga rfl (Ga rfl (Gn (.t4 1 3 5 6) (Ap (Ae (Gs (Gt (AZ rfl BT .m2 (AS.id AH.fl.len AH.fl.one) rfl) ?_))))))
 refine A7 rfl YD (.c rfl .n) (fun w hS => Gw _ w) ?_
 refine Gt (BS rfl) (Ga rfl (Gn (.t5 1 3 5 6 10) ?_))
 refine Gc (fun c1 => ?_) (fun c1 => ?_)
 ·
  refine Gs (Gt (AZ rfl BT .m2 (AS.id AH.fl.len AH.fl.one) rfl) ?_)
  refine AR (AJ (AS.id AH.fl.len AH.fl.one) rfl rfl rfl Dq rfl .h) ?_
  refine Ga rfl (Ga rfl (Gn (.t3 6 7 8) (Ab (AP (AD ?_)))))
  refine AY rfl (.cell rfl .m0 (.inl ⟨(by rw [AH.fl.len]; exact BT), rfl⟩) (.tmp rfl (.tmp rfl .n))) ?_
  intro w1 hS
  have hS := hS.Cd 56 16
  have hS := (hS.perm (Av.perm (.c .h .n))).Az
  have hq : AF.FY X b o = _ := (A9 c1)
  refine ⟨_, ⟨⟨none, 0, 0⟩, ?hv1, ?hl1, ?hB1⟩, hS⟩
  case hv1 => rw [hq]; rfl
  case hl1 => rw [hq]; rfl
  case hB1 => rw [hq]; rfl
 have c1p := kz c1
 refine Gs (Gm rfl (Gt (A6 rfl rfl) (Gm rfl (BU 18 rfl rfl (fun q => AE rfl) (BU 18 rfl rfl (fun q => CL (cF rfl q) rfl) ?_)))))
 refine Gt (BP rfl rfl (fun h => by rw [h]; rfl)) ?_
 refine Gm rfl (BU 22 rfl rfl (fun q => AE rfl) (BU 22 rfl rfl (fun q => Ai Bi rfl) ?_))
 refine BU 22 rfl rfl (fun q => by have q1 := q; (try simp at q1); exact AQ Cr (cF rfl q) (cF rfl q) (by first | omega | exact hb.1 | exact hb.2 | (dsimp only; omega)) (by first | omega | exact hb.1 | exact hb.2 | (dsimp only; omega))) ?_
 refine BU 22 rfl rfl (fun q => Ai HX (cF rfl q)) ?_
 refine BU 22 rfl rfl (fun q => by have q1 := q; (try simp at q1); exact AG (cF rfl q) DV .m2 ((AH.l2.comp (AS.ar (n := 6) Al.fl (by first | omega | exact hb | (dsimp only; omega)))).comp Al.l1) rfl rfl) ?_
 refine BU 22 rfl rfl (fun q => BS (cF rfl q)) ?_
 refine Gt (BP rfl rfl (fun h => by rw [h]; rfl)) ?_
 refine Ga rfl (Gn (.t5 1 3 5 6 15) ?_)
 refine Gc (fun c2 => ?_) (fun c2 => ?_)
 ·
  refine Gs (Gt (AZ rfl BT .m2 (AS.id AH.fl.len AH.fl.one) rfl) ?_)
  refine AR (AJ (AS.id AH.fl.len AH.fl.one) rfl rfl rfl Dq rfl .h) ?_
  refine Ga rfl (Ga rfl (Gn (.t3 6 7 8) (Ab (AP (AD ?_)))))
  refine AY rfl (.cell rfl .m0 (.inl ⟨(by rw [AH.fl.len]; exact BT), rfl⟩) (.tmp rfl (.tmp rfl .n))) ?_
  intro w1 hS
  have hS := hS.Cd 56 16
  have hS := (hS.perm (Av.perm (.c .h .n))).Az
  have hq : AF.FY X b o = _ := ((AU c1).trans (A9 c2))
  refine ⟨_, ⟨⟨none, 0, 0⟩, ?hv2, ?hl2, ?hB2⟩, hS⟩
  case hv2 => rw [hq]; rfl
  case hl2 => rw [hq]; rfl
  case hB2 => rw [hq]; rfl
 have c2p := kz c2
 refine Gs (Gt (Ai Cw rfl) (Gt (AG rfl A2 .m1 Order.l0 rfl rfl) (Gt (A6 rfl rfl) (Gm rfl (BU 35 rfl rfl (fun q => Ai Cw rfl) (BU 35 rfl rfl (fun q => AG (cF rfl q) A2 .m1 Order.l0 rfl rfl) (BU 35 rfl rfl (fun q => CS (cF rfl q) rfl) ?_)))))))
 refine Gt (BP rfl rfl (fun h => by rw [h]; rfl)) ?_
 refine Ga rfl (Gn (.t5 1 3 5 6 31) ?_)
 refine Gc (fun c3 => ?_) (fun c3 => ?_)
 ·
  refine Gs (Gt (AZ rfl BT .m2 (AS.id AH.fl.len AH.fl.one) rfl) ?_)
  refine AR (AJ (AS.id AH.fl.len AH.fl.one) rfl rfl rfl Dq rfl .h) ?_
  refine Ga rfl (Ga rfl (Gn (.t3 6 7 8) (Ab (AP (AD ?_)))))
  refine AY rfl (.cell rfl .m0 (.inl ⟨(by rw [AH.fl.len]; exact BT), rfl⟩) (.tmp rfl (.tmp rfl .n))) ?_
  intro w1 hS
  have hS := hS.Cd 56 16
  have hS := (hS.perm (Av.perm (.c .h .n))).Az
  have hq : AF.FY X b o = _ := ((AU c1).trans ((AU c2).trans (A9 c3)))
  refine ⟨_, ⟨⟨none, 0, 0⟩, ?hv3, ?hl3, ?hB3⟩, hS⟩
  case hv3 => rw [hq]; rfl
  case hl3 => rw [hq]; rfl
  case hB3 => rw [hq]; rfl
 have c3p := kz c3
 have hF := AF.Ty hw c1 c2
 have hb := hF.b
 refine Aa ?_
 refine AB (.t4 1 3 5 6) ?_
 refine AT (AA (Gs (Gt (AZ rfl BT .m2 (AS.id AH.fl.len AH.fl.one) rfl) (Gm rfl (Gt (BA Su Sk rfl (.cons Ac.l0 rfl rfl rfl (.cons Ac.l1 rfl rfl rfl .nil))) ?_)))))
 refine B3 rfl rfl rfl (fun b4 => ?_)
 refine Ga rfl (Gn (.t4 1 5 6 9) (Ap (Ae (Gs (Gt (Ai Cw rfl) (Gt (AG rfl A2 .m2 Order.l0 rfl rfl) (Gt (A6 rfl rfl) ?_)))))))
 refine Ga rfl (Gn (.t5 1 5 6 9 48) ?_)
 refine Gc (fun c4 => ?_) (fun c4 => ?_)
 ·
  have c4p := kz c4
  refine AI (Gm rfl (Gt (Ai Cw rfl) (Gt (AG rfl A2 .m2 Order.l0 rfl rfl) ?_)))
  refine C9 Ing.Event.enc 56 16 ?_
  refine BC rfl aH (.c rfl (.c rfl .n)) (.c (.t .h) (.c .h .n)) (PY _ (⟨X, b, []⟩ : AF) _ o.verb rfl hF (by omega) (Nat.zero_le _)) (fun w hS => gl0.pull gm0 hS (.c (.t .h) (.c .h .n))) (fun v5 B hv => ?_)
  obtain ⟨y6, rfl, y7, rfl⟩ := hv
  refine AO (AB (.t2 6 9) ?_)
  refine AT (AA (Ap ?_))
  refine BD (N := 11) [0, 1, 3, 7, 0, 16, 48, 112, 15, 511, 1023] mix (by kernel_rfl) rfl ?_
  refine Pf 0 rfl (AE rfl) (Pf 1 rfl (BR rfl) (Pf 2 rfl (Ai A5 rfl) (Pf 3 rfl (AZ rfl BT .m0 Ac.l0 rfl) (Pf 4 rfl (AE rfl) (Pf 5 rfl (BR rfl) (Pf 6 rfl (Ai CB rfl) (Pf 7 rfl (AG rfl DT .m0 Ac.l2 rfl rfl) ?_)))))))
  refine An 8 rfl (by kernel_rfl) ?_
  refine AR (AJ (AS.id AH.fl.len AH.fl.one) rfl rfl rfl Dq rfl (.t (.t .h))) ?_
  refine BK rfl ⟨?_, ?_⟩
  · exact (Po rfl (AG rfl DT .m0 Ac.l2 rfl rfl) rfl rfl (Po rfl (Ai CB rfl) rfl rfl (Po rfl (BR rfl) rfl rfl (Po rfl (AE rfl) rfl rfl (Pk (Pk (Pk (Pk Ar))))))))
  refine Pf 9 rfl (Ay rfl) (Pf 10 rfl (Ay rfl) ?_)
  refine A1 (by kernel_rfl) ?_
  refine AB (.t3 6 7 8) ?_
  refine AA (Ab ?_)
  refine AY rfl (.cell rfl .m2 (.inl ⟨(by rw [AH.fl.len]; exact BT), rfl⟩) (.tmp rfl (.tmp rfl .n))) ?_
  intro w1 hS
  have hS := (hS.perm (Av.perm (.c (.t .h) .n))).Az
  have ha : AF.act (⟨X, b, []⟩ : AF) o = _ := (A9 c4)
  have hq : AF.FY X b o = ((AF.act (⟨X, b, []⟩ : AF) o).w, (AF.act (⟨X, b, []⟩ : AF) o).out, 0) := ((AU c1).trans ((AU c2).trans (AU c3)))
  rw [ha] at hq
  refine ⟨_, ⟨?gq4, ?hv4, ?hl4, ?hB4⟩, hS⟩
  case hB4 => rw [hq]; (try rfl)
  case hv4 => rw [hq]; (try rfl)
  case hl4 => rw [hq]; (try dsimp only); exact y7
 have c4p := kz c4
 refine Gs (Gt (Ai Cw rfl) (Gt (AG rfl A2 .m2 Order.l0 rfl rfl) (Gt (Af rfl rfl) (Ga rfl (Gn (.t5 1 5 6 9 56) ?_)))))
 refine Gc (fun c5 => ?_) (fun c5 => ?_)
 ·
  refine AI (Gm rfl ?_)
  refine C9 Ing.Event.enc 56 16 ?_
  refine BC rfl Sm (.c rfl .n) (.c (.t .h) (.c .h .n)) (GR _ (⟨X, b, []⟩ : AF) _ rfl hF.b hF.br (Nat.zero_le _)) (fun w hS => gl0.pull gm0 hS (.c (.t .h) (.c .h .n))) (fun v9 B hv => ?_)
  obtain ⟨y10, rfl, y11, rfl⟩ := hv
  refine AO (AB (.t2 6 9) ?_)
  refine AT (AA (Ap ?_))
  refine BD (N := 11) [0, 1, 3, 7, 0, 16, 48, 112, 15, 511, 1023] mix (by kernel_rfl) rfl ?_
  refine Pf 0 rfl (AE rfl) (Pf 1 rfl (BR rfl) (Pf 2 rfl (Ai A5 rfl) (Pf 3 rfl (AZ rfl BT .m0 Ac.l0 rfl) (Pf 4 rfl (AE rfl) (Pf 5 rfl (BR rfl) (Pf 6 rfl (Ai CB rfl) (Pf 7 rfl (AG rfl DT .m0 Ac.l2 rfl rfl) ?_)))))))
  refine An 8 rfl (by kernel_rfl) ?_
  refine AR (AJ (AS.id AH.fl.len AH.fl.one) rfl rfl rfl Dq rfl (.t (.t .h))) ?_
  refine BK rfl ⟨?_, ?_⟩
  · exact (Po rfl (AG rfl DT .m0 Ac.l2 rfl rfl) rfl rfl (Po rfl (Ai CB rfl) rfl rfl (Po rfl (BR rfl) rfl rfl (Po rfl (AE rfl) rfl rfl (Pk (Pk (Pk (Pk Ar))))))))
  refine Pf 9 rfl (Ay rfl) (Pf 10 rfl (Ay rfl) ?_)
  refine A1 (by kernel_rfl) ?_
  refine AB (.t3 6 7 8) ?_
  refine AA (Ab ?_)
  refine AY rfl (.cell rfl .m2 (.inl ⟨(by rw [AH.fl.len]; exact BT), rfl⟩) (.tmp rfl (.tmp rfl .n))) ?_
  intro w1 hS
  have hS := (hS.perm (Av.perm (.c (.t .h) .n))).Az
  have ha : AF.act (⟨X, b, []⟩ : AF) o = _ := ((AU c4).trans (A9 c5))
  have hq : AF.FY X b o = ((AF.act (⟨X, b, []⟩ : AF) o).w, (AF.act (⟨X, b, []⟩ : AF) o).out, 0) := ((AU c1).trans ((AU c2).trans (AU c3)))
  rw [ha] at hq
  refine ⟨_, ⟨?gq5, ?hv5, ?hl5, ?hB5⟩, hS⟩
  case hB5 => rw [hq]; (try rfl)
  case hv5 => rw [hq]; (try rfl)
  case hl5 => rw [hq]; (try dsimp only); exact y11
 have c5p := kz c5
 refine Gs (Gt (Ai Cw rfl) (Gt (AG rfl A2 .m2 Order.l0 rfl rfl) (Gt (Af rfl rfl) (Ga rfl (Gn (.t5 1 5 6 9 62) ?_)))))
 refine Gc (fun c6 => ?_) (fun c6 => ?_)
 ·
  have c6p := kz c6
  refine AI (Gm rfl (Gm rfl (Gt (BR rfl) (Gt (Ai A5 rfl) (Gt (AZ rfl BT .m0 Ac.l0 rfl) (Gm rfl ?_))))))
  refine Ah rfl QV (.c rfl (.c rfl (.c rfl .n))) .n (En _ _ _) (fun v12 B hv => ?_)
  obtain ⟨y13, rfl, y14, rfl⟩ := hv
  refine C9 Ing.Event.enc 56 16 ?_
  refine Ah rfl Xn (.c rfl (.c rfl (.c rfl .n))) (.c (.t (.t .h)) (.c .h (.c .h .n))) (Kb _ (⟨X, b, []⟩ : AF) _ [89, 111, 117, 32, 104, 97, 118, 101] _ (X.has 1 b) rfl hF.b (by assumption) (AH.Ha _ _ _) (fun i hi => AH.GS hi) hF.br (by decide) (Nat.zero_le _)) (fun v17 B hv => ?_)
  obtain ⟨y18, rfl, y19, rfl⟩ := hv
  refine AO (AB (.t2 6 9) ?_)
  refine AT (AA (Ap ?_))
  refine BD (N := 11) [0, 1, 3, 7, 0, 16, 48, 112, 15, 511, 1023] mix (by kernel_rfl) rfl ?_
  refine Pf 0 rfl (AE rfl) (Pf 1 rfl (BR rfl) (Pf 2 rfl (Ai A5 rfl) (Pf 3 rfl (AZ rfl BT .m0 Ac.l0 rfl) (Pf 4 rfl (AE rfl) (Pf 5 rfl (BR rfl) (Pf 6 rfl (Ai CB rfl) (Pf 7 rfl (AG rfl DT .m0 Ac.l2 rfl rfl) ?_)))))))
  refine An 8 rfl (by kernel_rfl) ?_
  refine AR (AJ (AS.id AH.fl.len AH.fl.one) rfl rfl rfl Dq rfl (.t (.t (.t .h)))) ?_
  refine BK rfl ⟨?_, ?_⟩
  · exact (Po rfl (AG rfl DT .m0 Ac.l2 rfl rfl) rfl rfl (Po rfl (Ai CB rfl) rfl rfl (Po rfl (BR rfl) rfl rfl (Po rfl (AE rfl) rfl rfl (Pk (Pk (Pk (Pk Ar))))))))
  refine Pf 9 rfl (Ay rfl) (Pf 10 rfl (Ay rfl) ?_)
  refine A1 (by kernel_rfl) ?_
  refine AB (.t3 6 7 8) ?_
  refine AA (Ab ?_)
  refine AY rfl (.cell rfl .m3 (.inl ⟨(by rw [AH.fl.len]; exact BT), rfl⟩) (.tmp rfl (.tmp rfl .n))) ?_
  intro w1 hS
  have hS := (hS.perm (Av.perm (.c (.t .h) .n))).Az
  have ha : AF.act (⟨X, b, []⟩ : AF) o = _ := ((AU c4).trans ((AU c5).trans (A9 c6)))
  have hq : AF.FY X b o = ((AF.act (⟨X, b, []⟩ : AF) o).w, (AF.act (⟨X, b, []⟩ : AF) o).out, 0) := ((AU c1).trans ((AU c2).trans (AU c3)))
  rw [ha] at hq
  refine ⟨_, ⟨?gq6, ?hv6, ?hl6, ?hB6⟩, hS⟩
  case hB6 => rw [hq]; (try rfl)
  case hv6 => rw [hq]; (try rfl)
  case hl6 => rw [hq]; (try dsimp only); exact y19
 have c6p := kz c6
 refine Gs (Gt (Ai Cw rfl) (Gt (AG rfl A2 .m2 Order.l0 rfl rfl) (Gt (Af rfl rfl) (Ga rfl (Gn (.t4 5 6 9 74) ?_)))))
 refine Gc (fun c7 => ?_) (fun c7 => ?_)
 ·
  refine AI (Gm rfl (Gt (Ai Pl rfl) (Gt (AG rfl CN .m2 Order.l5 rfl rfl) (Gt (BA MP Hk rfl (.cons Ing.Event.l0 rfl rfl rfl (.cons Ing.Event.l3 rfl rfl rfl (.cons Ing.Event.l9 rfl rfl rfl .nil)))) ?_))))
  refine C9 Ing.Event.enc 56 16 ?_
  refine Ah rfl Mk (.c rfl (.c rfl .n)) (.c (.t .h) (.c .h .n)) (CC _ (⟨X, b, []⟩ : AF) _ { AF.GA 7 with text := o.text } rfl hF.b (show (-1 : Int) < 6 by decide) (Nat.zero_le _)) (fun v21 B hv => ?_)
  obtain ⟨y22, rfl, y23, rfl⟩ := hv
  refine AO (AB (.t2 6 9) ?_)
  refine AT (AA (Ap ?_))
  refine BD (N := 11) [0, 1, 3, 7, 0, 16, 48, 112, 15, 511, 1023] mix (by kernel_rfl) rfl ?_
  refine Pf 0 rfl (AE rfl) (Pf 1 rfl (BR rfl) (Pf 2 rfl (Ai A5 rfl) (Pf 3 rfl (AZ rfl BT .m0 Ac.l0 rfl) (Pf 4 rfl (AE rfl) (Pf 5 rfl (BR rfl) (Pf 6 rfl (Ai CB rfl) (Pf 7 rfl (AG rfl DT .m0 Ac.l2 rfl rfl) ?_)))))))
  refine An 8 rfl (by kernel_rfl) ?_
  refine AR (AJ (AS.id AH.fl.len AH.fl.one) rfl rfl rfl Dq rfl (.t (.t .h))) ?_
  refine BK rfl ⟨?_, ?_⟩
  · exact (Po rfl (AG rfl DT .m0 Ac.l2 rfl rfl) rfl rfl (Po rfl (Ai CB rfl) rfl rfl (Po rfl (BR rfl) rfl rfl (Po rfl (AE rfl) rfl rfl (Pk (Pk (Pk (Pk Ar))))))))
  refine Pf 9 rfl (Ay rfl) (Pf 10 rfl (Ay rfl) ?_)
  refine A1 (by kernel_rfl) ?_
  refine AB (.t3 6 7 8) ?_
  refine AA (Ab ?_)
  refine AY rfl (.cell rfl .m2 (.inl ⟨(by rw [AH.fl.len]; exact BT), rfl⟩) (.tmp rfl (.tmp rfl .n))) ?_
  intro w1 hS
  have hS := (hS.perm (Av.perm (.c (.t .h) .n))).Az
  have ha : AF.act (⟨X, b, []⟩ : AF) o = _ := ((AU c4).trans ((AU c5).trans ((AU c6).trans (A9 c7))))
  have hq : AF.FY X b o = ((AF.act (⟨X, b, []⟩ : AF) o).w, (AF.act (⟨X, b, []⟩ : AF) o).out, 0) := ((AU c1).trans ((AU c2).trans (AU c3)))
  rw [ha] at hq
  refine ⟨_, ⟨?gq7, ?hv7, ?hl7, ?hB7⟩, hS⟩
  case hB7 => rw [hq]; (try rfl)
  case hv7 => rw [hq]; (try rfl)
  case hl7 => rw [hq]; (try dsimp only); exact y23
 have c7p := kz c7
 refine Gs (Gt (Ai Cw rfl) (Gt (AG rfl A2 .m2 Order.l0 rfl rfl) (Gt (Af rfl rfl) (Ga rfl (Gn (.t4 5 6 9 83) ?_)))))
 refine Gc (fun c8 => ?_) (fun c8 => ?_)
 ·
  refine AI (Gm rfl ?_)
  refine C9 Ing.Event.enc 56 16 ?_
  refine Ah rfl Ys (.c rfl .n) (.c (.t .h) (.c .h .n)) (P9 _ (⟨X, b, []⟩ : AF) _ rfl hF (Nat.zero_le _)) (fun v25 B hv => ?_)
  obtain ⟨y26, rfl, y27, rfl⟩ := hv
  refine AO (AB (.t2 6 9) ?_)
  refine AT (AA (Ap ?_))
  refine BD (N := 11) [0, 1, 3, 7, 0, 16, 48, 112, 15, 511, 1023] mix (by kernel_rfl) rfl ?_
  refine Pf 0 rfl (AE rfl) (Pf 1 rfl (BR rfl) (Pf 2 rfl (Ai A5 rfl) (Pf 3 rfl (AZ rfl BT .m0 Ac.l0 rfl) (Pf 4 rfl (AE rfl) (Pf 5 rfl (BR rfl) (Pf 6 rfl (Ai CB rfl) (Pf 7 rfl (AG rfl DT .m0 Ac.l2 rfl rfl) ?_)))))))
  refine An 8 rfl (by kernel_rfl) ?_
  refine AR (AJ (AS.id AH.fl.len AH.fl.one) rfl rfl rfl Dq rfl (.t (.t .h))) ?_
  refine BK rfl ⟨?_, ?_⟩
  · exact (Po rfl (AG rfl DT .m0 Ac.l2 rfl rfl) rfl rfl (Po rfl (Ai CB rfl) rfl rfl (Po rfl (BR rfl) rfl rfl (Po rfl (AE rfl) rfl rfl (Pk (Pk (Pk (Pk Ar))))))))
  refine Pf 9 rfl (Ay rfl) (Pf 10 rfl (Ay rfl) ?_)
  refine A1 (by kernel_rfl) ?_
  refine AB (.t3 6 7 8) ?_
  refine AA (Ab ?_)
  refine AY rfl (.cell rfl .m2 (.inl ⟨(by rw [AH.fl.len]; exact BT), rfl⟩) (.tmp rfl (.tmp rfl .n))) ?_
  intro w1 hS
  have hS := (hS.perm (Av.perm (.c (.t .h) .n))).Az
  have ha : AF.act (⟨X, b, []⟩ : AF) o = _ := ((AU c4).trans ((AU c5).trans ((AU c6).trans ((AU c7).trans (A9 c8)))))
  have hq : AF.FY X b o = ((AF.act (⟨X, b, []⟩ : AF) o).w, (AF.act (⟨X, b, []⟩ : AF) o).out, 0) := ((AU c1).trans ((AU c2).trans (AU c3)))
  rw [ha] at hq
  refine ⟨_, ⟨?gq8, ?hv8, ?hl8, ?hB8⟩, hS⟩
  case hB8 => rw [hq]; (try rfl)
  case hv8 => rw [hq]; (try rfl)
  case hl8 => rw [hq]; (try dsimp only); exact y27
 have c8p := kz c8
 refine Gs (Gt (Ai Cw rfl) (Gt (AG rfl A2 .m2 Order.l0 rfl rfl) (Gt (Af rfl rfl) (Ga rfl (Gn (.t4 5 6 9 89) ?_)))))
 refine Gc (fun c9 => ?_) (fun c9 => ?_)
 ·
  refine AI (Gm rfl (Gt (AZ rfl B2 .m2 (AS.id Order.fl.len Order.fl.one) rfl) ?_))
  refine C9 Ing.Event.enc 56 16 ?_
  refine BC rfl Zd (.c rfl (.c rfl .n)) (.c (.t .h) (.c .h .n)) (N7 _ (⟨X, b, []⟩ : AF) _ o rfl hF hm (Nat.zero_le _)) (fun w hS => ⟨gl1.pull gm1 hS (.c (.t .h) (.c .h .n)), gl2.pull gm2 hS (.c (.t .h) (.c .h .n))⟩) (fun v29 B hv => ?_)
  obtain ⟨y30, rfl, y31, rfl⟩ := hv
  refine AO (AB (.t2 6 9) ?_)
  refine AT (AA (Ap ?_))
  refine BD (N := 11) [0, 1, 3, 7, 0, 16, 48, 112, 15, 511, 1023] mix (by kernel_rfl) rfl ?_
  refine Pf 0 rfl (AE rfl) (Pf 1 rfl (BR rfl) (Pf 2 rfl (Ai A5 rfl) (Pf 3 rfl (AZ rfl BT .m0 Ac.l0 rfl) (Pf 4 rfl (AE rfl) (Pf 5 rfl (BR rfl) (Pf 6 rfl (Ai CB rfl) (Pf 7 rfl (AG rfl DT .m0 Ac.l2 rfl rfl) ?_)))))))
  refine An 8 rfl (by kernel_rfl) ?_
  refine AR (AJ (AS.id AH.fl.len AH.fl.one) rfl rfl rfl Dq rfl (.t (.t .h))) ?_
  refine BK rfl ⟨?_, ?_⟩
  · exact (Po rfl (AG rfl DT .m0 Ac.l2 rfl rfl) rfl rfl (Po rfl (Ai CB rfl) rfl rfl (Po rfl (BR rfl) rfl rfl (Po rfl (AE rfl) rfl rfl (Pk (Pk (Pk (Pk Ar))))))))
  refine Pf 9 rfl (Ay rfl) (Pf 10 rfl (Ay rfl) ?_)
  refine A1 (by kernel_rfl) ?_
  refine AB (.t3 6 7 8) ?_
  refine AA (Ab ?_)
  refine AY rfl (.cell rfl .m2 (.inl ⟨(by rw [AH.fl.len]; exact BT), rfl⟩) (.tmp rfl (.tmp rfl .n))) ?_
  intro w1 hS
  have hS := (hS.perm (Av.perm (.c (.t .h) .n))).Az
  have ha : AF.act (⟨X, b, []⟩ : AF) o = _ := ((AU c4).trans ((AU c5).trans ((AU c6).trans ((AU c7).trans ((AU c8).trans (A9 c9))))))
  have hq : AF.FY X b o = ((AF.act (⟨X, b, []⟩ : AF) o).w, (AF.act (⟨X, b, []⟩ : AF) o).out, 0) := ((AU c1).trans ((AU c2).trans (AU c3)))
  rw [ha] at hq
  refine ⟨_, ⟨?gq9, ?hv9, ?hl9, ?hB9⟩, hS⟩
  case hB9 => rw [hq]; (try rfl)
  case hv9 => rw [hq]; (try rfl)
  case hl9 => rw [hq]; (try dsimp only); exact y31
 have c9p := kz c9
 refine Gs (Gt (Ai Cw rfl) (Gt (AG rfl A2 .m2 Order.l0 rfl rfl) (Gt (Af rfl rfl) (Ga rfl (Gn (.t4 5 6 9 96) ?_)))))
 refine Gc (fun c10 => ?_) (fun c10 => ?_)
 ·
  refine AI (Gm rfl (Gt (AZ rfl B2 .m2 (AS.id Order.fl.len Order.fl.one) rfl) ?_))
  refine C9 Ing.Event.enc 56 16 ?_
  refine BC rfl Y3 (.c rfl (.c rfl .n)) (.c (.t .h) (.c .h .n)) (RA _ (⟨X, b, []⟩ : AF) _ o rfl hF hu (Nat.zero_le _)) (fun w hS => ⟨gl1.pull gm1 hS (.c (.t .h) (.c .h .n)), gl2.pull gm2 hS (.c (.t .h) (.c .h .n))⟩) (fun v33 B hv => ?_)
  obtain ⟨y34, rfl, y35, rfl⟩ := hv
  refine AO (AB (.t2 6 9) ?_)
  refine AT (AA (Ap ?_))
  refine BD (N := 11) [0, 1, 3, 7, 0, 16, 48, 112, 15, 511, 1023] mix (by kernel_rfl) rfl ?_
  refine Pf 0 rfl (AE rfl) (Pf 1 rfl (BR rfl) (Pf 2 rfl (Ai A5 rfl) (Pf 3 rfl (AZ rfl BT .m0 Ac.l0 rfl) (Pf 4 rfl (AE rfl) (Pf 5 rfl (BR rfl) (Pf 6 rfl (Ai CB rfl) (Pf 7 rfl (AG rfl DT .m0 Ac.l2 rfl rfl) ?_)))))))
  refine An 8 rfl (by kernel_rfl) ?_
  refine AR (AJ (AS.id AH.fl.len AH.fl.one) rfl rfl rfl Dq rfl (.t (.t .h))) ?_
  refine BK rfl ⟨?_, ?_⟩
  · exact (Po rfl (AG rfl DT .m0 Ac.l2 rfl rfl) rfl rfl (Po rfl (Ai CB rfl) rfl rfl (Po rfl (BR rfl) rfl rfl (Po rfl (AE rfl) rfl rfl (Pk (Pk (Pk (Pk Ar))))))))
  refine Pf 9 rfl (Ay rfl) (Pf 10 rfl (Ay rfl) ?_)
  refine A1 (by kernel_rfl) ?_
  refine AB (.t3 6 7 8) ?_
  refine AA (Ab ?_)
  refine AY rfl (.cell rfl .m2 (.inl ⟨(by rw [AH.fl.len]; exact BT), rfl⟩) (.tmp rfl (.tmp rfl .n))) ?_
  intro w1 hS
  have hS := (hS.perm (Av.perm (.c (.t .h) .n))).Az
  have ha : AF.act (⟨X, b, []⟩ : AF) o = _ := ((AU c4).trans ((AU c5).trans ((AU c6).trans ((AU c7).trans ((AU c8).trans ((AU c9).trans (A9 c10)))))))
  have hq : AF.FY X b o = ((AF.act (⟨X, b, []⟩ : AF) o).w, (AF.act (⟨X, b, []⟩ : AF) o).out, 0) := ((AU c1).trans ((AU c2).trans (AU c3)))
  rw [ha] at hq
  refine ⟨_, ⟨?gq10, ?hv10, ?hl10, ?hB10⟩, hS⟩
  case hB10 => rw [hq]; (try rfl)
  case hv10 => rw [hq]; (try rfl)
  case hl10 => rw [hq]; (try dsimp only); exact y35
 have c10p := kz c10
 refine Gs (Gt (Ai Cw rfl) (Gt (AG rfl A2 .m2 Order.l0 rfl rfl) (Gt (Af rfl rfl) (Gm rfl (BU 107 rfl rfl (fun q => Ai Cw rfl) (BU 107 rfl rfl (fun q => AG (cF rfl q) A2 .m2 Order.l0 rfl rfl) (BU 107 rfl rfl (fun q => Af (cF rfl q) rfl) ?_)))))))
 refine Gt (BP rfl rfl (fun h => by rw [h]; rfl)) ?_
 refine Gm rfl (BU 112 rfl rfl (fun q => Ai Cw rfl) (BU 112 rfl rfl (fun q => AG (cF rfl q) A2 .m2 Order.l0 rfl rfl) (BU 112 rfl rfl (fun q => Af (cF rfl q) rfl) ?_)))
 refine Gt (BP rfl rfl (fun h => by rw [h]; rfl)) ?_
 refine Ga rfl (Gn (.t4 5 6 9 103) ?_)
 refine Gc (fun c11 => ?_) (fun c11 => ?_)
 ·
  have c11p := kz c11
  refine AI (Gm rfl (Gt (AZ rfl B2 .m2 (AS.id Order.fl.len Order.fl.one) rfl) ?_))
  refine C9 Ing.Event.enc 56 16 ?_
  refine BC rfl ZN (.c rfl (.c rfl .n)) (.c (.t .h) (.c .h .n)) (QT _ (⟨X, b, []⟩ : AF) _ o rfl hF (by omega) hu (Nat.zero_le _)) (fun w hS => ⟨gl1.pull gm1 hS (.c (.t .h) (.c .h .n)), gl2.pull gm2 hS (.c (.t .h) (.c .h .n))⟩) (fun v37 B hv => ?_)
  obtain ⟨y38, rfl, y39, rfl⟩ := hv
  refine AO (AB (.t2 6 9) ?_)
  refine AT (AA (Ap ?_))
  refine BD (N := 11) [0, 1, 3, 7, 0, 16, 48, 112, 15, 511, 1023] mix (by kernel_rfl) rfl ?_
  refine Pf 0 rfl (AE rfl) (Pf 1 rfl (BR rfl) (Pf 2 rfl (Ai A5 rfl) (Pf 3 rfl (AZ rfl BT .m0 Ac.l0 rfl) (Pf 4 rfl (AE rfl) (Pf 5 rfl (BR rfl) (Pf 6 rfl (Ai CB rfl) (Pf 7 rfl (AG rfl DT .m0 Ac.l2 rfl rfl) ?_)))))))
  refine An 8 rfl (by kernel_rfl) ?_
  refine AR (AJ (AS.id AH.fl.len AH.fl.one) rfl rfl rfl Dq rfl (.t (.t .h))) ?_
  refine BK rfl ⟨?_, ?_⟩
  · exact (Po rfl (AG rfl DT .m0 Ac.l2 rfl rfl) rfl rfl (Po rfl (Ai CB rfl) rfl rfl (Po rfl (BR rfl) rfl rfl (Po rfl (AE rfl) rfl rfl (Pk (Pk (Pk (Pk Ar))))))))
  refine Pf 9 rfl (Ay rfl) (Pf 10 rfl (Ay rfl) ?_)
  refine A1 (by kernel_rfl) ?_
  refine AB (.t3 6 7 8) ?_
  refine AA (Ab ?_)
  refine AY rfl (.cell rfl .m2 (.inl ⟨(by rw [AH.fl.len]; exact BT), rfl⟩) (.tmp rfl (.tmp rfl .n))) ?_
  intro w1 hS
  have hS := (hS.perm (Av.perm (.c (.t .h) .n))).Az
  have ha : AF.act (⟨X, b, []⟩ : AF) o = _ := ((AU c4).trans ((AU c5).trans ((AU c6).trans ((AU c7).trans ((AU c8).trans ((AU c9).trans ((AU c10).trans (A9 c11))))))))
  have hq : AF.FY X b o = ((AF.act (⟨X, b, []⟩ : AF) o).w, (AF.act (⟨X, b, []⟩ : AF) o).out, 0) := ((AU c1).trans ((AU c2).trans (AU c3)))
  rw [ha] at hq
  refine ⟨_, ⟨?gq11, ?hv11, ?hl11, ?hB11⟩, hS⟩
  case hB11 => rw [hq]; (try rfl)
  case hv11 => rw [hq]; (try rfl)
  case hl11 => rw [hq]; (try dsimp only); exact y39
 have c11p := kz c11
 refine AI (Gm rfl (Gt (AZ rfl B2 .m2 (AS.id Order.fl.len Order.fl.one) rfl) ?_))
 refine C9 Ing.Event.enc 56 16 ?_
 refine BC rfl Z6 (.c rfl (.c rfl .n)) (.c (.t .h) (.c .h .n)) (RC _ (⟨X, b, []⟩ : AF) _ o rfl hF (by omega) (Nat.zero_le _)) (fun w hS => gl0.pull gm0 hS (.c (.t .h) (.c .h .n))) (fun v41 B hv => ?_)
 obtain ⟨y42, rfl, y43, rfl⟩ := hv
 refine AO (AB (.t2 6 9) ?_)
 refine AT (AA (Ap ?_))
 refine BD (N := 11) [0, 1, 3, 7, 0, 16, 48, 112, 15, 511, 1023] mix (by kernel_rfl) rfl ?_
 refine Pf 0 rfl (AE rfl) (Pf 1 rfl (BR rfl) (Pf 2 rfl (Ai A5 rfl) (Pf 3 rfl (AZ rfl BT .m0 Ac.l0 rfl) (Pf 4 rfl (AE rfl) (Pf 5 rfl (BR rfl) (Pf 6 rfl (Ai CB rfl) (Pf 7 rfl (AG rfl DT .m0 Ac.l2 rfl rfl) ?_)))))))
 refine An 8 rfl (by kernel_rfl) ?_
 refine AR (AJ (AS.id AH.fl.len AH.fl.one) rfl rfl rfl Dq rfl (.t (.t .h))) ?_
 refine BK rfl ⟨?_, ?_⟩
 · exact (Po rfl (AG rfl DT .m0 Ac.l2 rfl rfl) rfl rfl (Po rfl (Ai CB rfl) rfl rfl (Po rfl (BR rfl) rfl rfl (Po rfl (AE rfl) rfl rfl (Pk (Pk (Pk (Pk Ar))))))))
 refine Pf 9 rfl (Ay rfl) (Pf 10 rfl (Ay rfl) ?_)
 refine A1 (by kernel_rfl) ?_
 refine AB (.t3 6 7 8) ?_
 refine AA (Ab ?_)
 refine AY rfl (.cell rfl .m2 (.inl ⟨(by rw [AH.fl.len]; exact BT), rfl⟩) (.tmp rfl (.tmp rfl .n))) ?_
 intro w1 hS
 have hS := (hS.perm (Av.perm (.c (.t .h) .n))).Az
 have ha : AF.act (⟨X, b, []⟩ : AF) o = _ := ((AU c4).trans ((AU c5).trans ((AU c6).trans ((AU c7).trans ((AU c8).trans ((AU c9).trans ((AU c10).trans (AU c11))))))))
 have hq : AF.FY X b o = ((AF.act (⟨X, b, []⟩ : AF) o).w, (AF.act (⟨X, b, []⟩ : AF) o).out, 0) := ((AU c1).trans ((AU c2).trans (AU c3)))
 rw [ha] at hq
 refine ⟨_, ⟨?gq12, ?hv12, ?hl12, ?hB12⟩, hS⟩
 case hB12 => rw [hq]; (try rfl)
 case hv12 => rw [hq]; (try rfl)
 case hl12 => rw [hq]; (try dsimp only); exact y43
theorem HY (b : Nat) (V : AM) (ls : Vector BG 4) (ev : List Ing.Event) (k : Int) (n m : Nat) (hk : 0 ≤ k ∧ k < 4) (hF : AL.Fit (A3 V ls ev) n m) (hn : n ≤ 900000) (hm : m ≤ 900000) : Ew Tryz.prog 67 #[.pointer (some ⟨b, 0, none⟩), .pointer (some ⟨b, 165 + k.toNat * 22, none⟩)] [Ad.box b 101 (AM.enc V), Ad.Ds (CI 9 (AM.Ax V) ls), Ad.own (AM.last V) 56 16 ((ev).flatMap Ing.Event.enc)] (fun w => (GV 2 FL w ∧ 2 ∉ CW [Ad.box b 101 (AM.enc V), Ad.Ds (CI 9 (AM.Ax V) ls), Ad.own (AM.last V) 56 16 ((ev).flatMap Ing.Event.enc)]) ∧ (GV 0 AH.C0 w ∧ 0 ∉ CW [Ad.box b 101 (AM.enc V), Ad.Ds (CI 9 (AM.Ax V) ls), Ad.own (AM.last V) 56 16 ((ev).flatMap Ing.Event.enc)]) ∧ (F8 7 w ∧ 7 ∉ CW [Ad.box b 101 (AM.enc V), Ad.Ds (CI 9 (AM.Ax V) ls), Ad.own (AM.last V) 56 16 ((ev).flatMap Ing.Event.enc)]) ∧ (F8 8 w ∧ 8 ∉ CW [Ad.box b 101 (AM.enc V), Ad.Ds (CI 9 (AM.Ax V) ls), Ad.own (AM.last V) 56 16 ((ev).flatMap Ing.Event.enc)])) (fun v B => ∃ V' ls' ev', v = .tuple #[] ∧ A3 V' ls' ev' = AL.leave (A3 V ls ev) k ∧ B = [Ad.box b 101 (AM.enc V'), Ad.Ds (CI 9 (AM.Ax V') ls'), Ad.own (AM.last V') 56 16 ((ev').flatMap Ing.Event.enc)]) := by
 intro w hS0 hH
 obtain ⟨⟨gl0, gm0⟩, ⟨gl1, gm1⟩, ⟨gl2, gm2⟩, ⟨gl3, gm3⟩⟩ := hH
 have hbe := Tq hF hk.1 hk.2
 refine Am _ _ Tryz.func67 rfl rfl rfl (hS0) ?_
 refine Ap (Ap ?_)
 refine BD (N := 18) [0, 1, 3, 7, 15, 31, 63, 63, 191, 447, 959, 127, 2175, 6271, 16383, 32767, 65535, 131071] mix (by kernel_rfl) rfl ?_
 refine Pf 0 rfl (AE rfl) (Pf 1 rfl (BR rfl) (Pf 2 rfl (Ai H5 rfl) (Pf 3 rfl (AG rfl A2 .m0 ((AM.l1.comp (AS.arr (n := 4) A0.fl hk.1 hk.2)).comp A0.l0) rfl rfl) (Pf 4 rfl (Af rfl rfl) (Pf 5 rfl (AE rfl) (LR 6 12 rfl rfl rfl (fun q => AE rfl) (LR 7 12 rfl rfl rfl (fun q => AE rfl) ?_)))))))
 refine LR 8 12 rfl rfl rfl (fun q => BR (Bc rfl q)) (LR 9 12 rfl rfl rfl (fun q => Ai HU (Bc rfl q)) (LR 10 12 rfl rfl rfl (fun q => AG (Bc rfl q) A2 .m0 ((AM.l1.comp (AS.arr (n := 4) A0.fl hk.1 hk.2)).comp A0.l1) rfl rfl) (LR 11 12 rfl rfl rfl (fun q => BR (Bc rfl q)) (LR 12 12 rfl rfl rfl (fun q => Ai D2 (Bc rfl q)) (LR 13 12 rfl rfl rfl (fun q => Ai Bi (Bc rfl q)) ?_)))))
 refine BV 14 rfl rfl (by kernel_rfl) (QD (t := 12) rfl rfl (fun q => by have q1 := q; (try simp at q1); exact H3 (AQ Cr (Bc rfl q) (Bc rfl q) (by first | omega | exact hk.1 | exact hk.2) (by first | omega | exact hk.1 | exact hk.2)))) ?_
 refine LR 15 12 rfl rfl rfl (fun q => Ai HX (Bc rfl q)) ?_
 refine BV 16 rfl rfl (by kernel_rfl) (QD (t := 12) rfl rfl (fun q => by have q1 := q; (try simp at q1); exact H3 (AG (Bc rfl q) DV .m0 (((AM.l0.comp AH.l2).comp (AS.ar (n := 6) Al.fl (by first | omega | exact hk))).comp Al.l1) rfl rfl))) ?_
 refine Pf 17 rfl (BI rfl rfl (fun h => h)) ?_
 refine A1 (by kernel_rfl) ?_
 refine AB (.t3 0 1 24) ?_
 refine AA ?_
 refine Gc (fun c1 => ?_) (fun c1 => ?_)
 ·
  have c1p := kz c1
  have hdl := AF.MM V.w (V.Ax.at k).A8 AL.FM
  have hds := AF.MH (b := (V.Ax.at k).A8) (o := AL.FM) hF.Gz AL.OY
  refine Ap ?_
  refine BD (N := 18) [0, 1, 3, 7, 0, 16, 48, 112, 0, 511, 1023, 2047, 2047, 2047, 0, 20479, 57343, 131071] mix (by kernel_rfl) rfl ?_
  refine Pf 0 rfl (AE rfl) (Pf 1 rfl (BR rfl) (Pf 2 rfl (Ai D2 rfl) (Pf 3 rfl (AZ rfl BT .m0 AM.l0 rfl) (Pf 4 rfl (AE rfl) (Pf 5 rfl (BR rfl) (Pf 6 rfl (Ai HU rfl) (Pf 7 rfl (AG rfl A2 .m0 ((AM.l1.comp (AS.arr (n := 4) A0.fl hk.1 hk.2)).comp A0.l1) rfl rfl) ?_)))))))
  refine Pf 8 rfl (BA Qe K0 rfl (.cons Order.l0 rfl rfl rfl .nil)) ?_
  refine Io 9 14 rfl rfl (by kernel_rfl) ?_ ?_
  ·
   refine BC rfl XL (.c rfl (.c rfl (.c rfl .n))) .n (Fq V.w (V.Ax.at k).A8 AL.FM hF.Gz.Lr (Nat.zero_le _) (Nat.zero_le _)) (fun w hS => ⟨gl1.pull gm1 hS .n, gl2.pull gm2 hS .n, gl3.pull gm3 hS .n⟩) (fun v1 B hv => ?_)
   obtain ⟨y2, rfl, y3, rfl⟩ := hv
   refine Bo rfl ⟨?_, ?_⟩
   · exact (Pk (Pk (Pk (Pk (Pk (Pk (Pk (Pk (Pk Ar)))))))))
   refine Pf 10 rfl (AE rfl) (Pf 11 rfl (AK rfl rfl) (Pf 12 rfl (AK rfl rfl) (Pf 13 rfl (AK rfl rfl) ?_)))
   refine An 14 rfl (by kernel_rfl) ?_
   refine BF rfl L4 rfl (fun b1 => ?_)
   refine Bo rfl ⟨?_, ?_⟩
   · exact (Po rfl (AK rfl rfl) rfl rfl (Po rfl (AK rfl rfl) rfl rfl (Po rfl (AK rfl rfl) rfl rfl (Po rfl (AE rfl) rfl rfl (Po rfl (BA Qe K0 rfl (.cons Order.l0 rfl rfl rfl .nil)) rfl rfl (Po rfl (AG rfl A2 .m2 ((AM.l1.comp (AS.arr (n := 4) A0.fl hk.1 hk.2)).comp A0.l1) rfl rfl) rfl rfl (Po rfl (Ai HU rfl) rfl rfl (Po rfl (BR rfl) rfl rfl (Po rfl (AE rfl) rfl rfl (Po rfl (AZ rfl BT .m2 AM.l0 rfl) rfl rfl (Po rfl (Ai D2 rfl) rfl rfl (Po rfl (BR rfl) rfl rfl (Po rfl (AE rfl) rfl rfl Ar)))))))))))))
   refine An 15 rfl (by kernel_rfl) ?_
   refine AR (AJ (AS.id AH.fl.len AH.fl.one) rfl rfl rfl Dq rfl .h) ?_
   refine BK rfl ⟨?_, ?_⟩
   · exact (Po rfl (AK rfl rfl) rfl rfl (Po rfl (AK rfl rfl) rfl rfl (Pk (Pk (Pk (Pk (Pk (Pk (Pk (Pk (Pk (Pk (Pk Ar)))))))))))))
   refine Pf 16 rfl (Ay rfl) (Pf 17 rfl (Ay rfl) ?_)
   refine A1 (by kernel_rfl) ?_
   refine AB (.t4 0 1 4 5) ?_
   refine AA (Gs (Gm rfl (Gt (AZ rfl BT .m0 (AS.id AH.fl.len AH.fl.one) rfl) (Gt (BR rfl) (Gt (Ai D2 rfl) ?_)))))
   refine AR (AJ AM.l0 rfl rfl rfl Dq rfl (.t (.t .h))) ?_
   refine Gn (.t3 0 1 5) (Ap ?_)
   refine Eb (.c (.t (.t .h)) (.c (.t (.t .h)) .n)) ?_
   refine FK (k := k) hk.1 hk.2 (fun sv sl hsv hlv hln => ?_)
   refine AI (Gm rfl (Gt (BA US To rfl .nil) (Gt (BR rfl) ?_)))
   refine AR (AJ (AS.BM { V with w := (AF.FY V.w (V.Ax.at k).A8 AL.FM).1 } hk.1 hk.2) rfl rfl rfl Ra rfl (.t (.t (.t .h)))) ?_
   refine Gn (.t3 0 1 5) ?_
   refine EM A4 9 1 ?_
   refine EM A4 9 1 ?_
   refine EM A4 9 1 ?_
   refine Eb (.c (.t (.t .h)) (.c (.t .h) (.c .h (.c (.t (.t (.t .h))) (.c (.t (.t (.t .h))) .n))))) ?_
   refine GP hk.1 hk.2 (by rfl) (by rfl) (by rfl) ?_
   refine AI (Gm rfl (Gm rfl ?_))
   refine BC rfl UT (.c rfl (.c rfl .n)) (.c .h (.c .h (.c (.t (.t (.t (.t (.t .h))))) (.c (.t (.t (.t (.t .h)))) .n)))) (Ea _ (AM.BM { V with w := (AF.FY V.w (V.Ax.at k).A8 AL.FM).1 } k default) (ls.put k ⟨[], [], []⟩) ev _ (AF.FY V.w (V.Ax.at k).A8 AL.FM).2.1 n (by assumption) (F6 (((hF.land hds.1).free hk.1 hk.2) |> fun h => by rw [← Np, ← Hj hk.1 hk.2] at h; exact h)) (by omega) (Nat.le_trans hF.last (by omega)) (fun e he c _ => hds.2 e he)) (fun w hS => ⟨gl0.pull gm0 hS (.c .h (.c .h (.c (.t (.t (.t (.t (.t .h))))) (.c (.t (.t (.t (.t .h)))) .n)))), gl1.pull gm1 hS (.c .h (.c .h (.c (.t (.t (.t (.t (.t .h))))) (.c (.t (.t (.t (.t .h)))) .n))))⟩) (fun v8 B hv => ?_)
   obtain ⟨y9, y10, y11, rfl, y12, rfl⟩ := hv
   refine Gn (.t1 1) ?_
   refine FK (k := k) hk.1 hk.2 (fun sv sl hsv hlv hln => ?_)
   refine AI (Gm rfl (Gt (BA US To rfl .nil) (Gt (BR rfl) ?_)))
   refine AR (AJ (AS.BM y9 hk.1 hk.2) rfl rfl rfl Ra rfl (.t (.t (.t .h)))) ?_
   refine AO ?_
   refine Be rfl .n ?_
   intro w1 hS
   have hS := hS.Cd 9 1
   have hS := hS.Cd 9 1
   have hS := hS.Cd 9 1
   have hS := (hS.perm (Av.perm (.c (.t (.t .h)) (.c (.t .h) (.c .h (.c (.t (.t (.t .h))) (.c (.t (.t (.t .h))) (.c (.t (.t (.t .h))) .n)))))))).Az
   have hS := St.close' (s := default) (qs := []) (ws := []) (ts := []) hk.1 hk.2 rfl rfl rfl hS
   refine ⟨_, ⟨_, _, _, rfl, ?ga1, rfl⟩, hS⟩
   case ga1 => exact PV hk.1 hk.2 c1 y12
  ·
   refine BF rfl L4 rfl (fun b2 => ?_)
   refine Bo rfl ⟨?_, ?_⟩
   · exact (Po rfl (BA Qe K0 rfl (.cons Order.l0 rfl rfl rfl .nil)) rfl rfl (Po rfl (AG rfl A2 .m1 ((AM.l1.comp (AS.arr (n := 4) A0.fl hk.1 hk.2)).comp A0.l1) rfl rfl) rfl rfl (Po rfl (Ai HU rfl) rfl rfl (Po rfl (BR rfl) rfl rfl (Po rfl (AE rfl) rfl rfl (Po rfl (AZ rfl BT .m1 AM.l0 rfl) rfl rfl (Po rfl (Ai D2 rfl) rfl rfl (Po rfl (BR rfl) rfl rfl (Po rfl (AE rfl) rfl rfl Ar)))))))))
   refine An 9 rfl (by kernel_rfl) ?_
   refine BC rfl XL (.c rfl (.c rfl (.c rfl .n))) .n (Fq V.w (V.Ax.at k).A8 AL.FM hF.Gz.Lr (Nat.zero_le _) (Nat.zero_le _)) (fun w hS => ⟨gl1.pull gm1 hS .n, gl2.pull gm2 hS .n, gl3.pull gm3 hS .n⟩) (fun v16 B hv => ?_)
   obtain ⟨y17, rfl, y18, rfl⟩ := hv
   refine Bo rfl ⟨?_, ?_⟩
   · exact (Pk (Pk (Pk (Pk (Pk (Pk (Pk (Pk (Pk Ar)))))))))
   refine Pf 10 rfl (AE rfl) (Pf 11 rfl (AK rfl rfl) (Pf 12 rfl (AK rfl rfl) (Pf 13 rfl (AK rfl rfl) ?_)))
   refine An 15 rfl (by kernel_rfl) ?_
   refine AR (AJ (AS.id AH.fl.len AH.fl.one) rfl rfl rfl Dq rfl (.t .h)) ?_
   refine BK rfl ⟨?_, ?_⟩
   · exact (Po rfl (AK rfl rfl) rfl rfl (Po rfl (AK rfl rfl) rfl rfl (Pk (Pk (Pk (Pk (Pk (Pk (Pk (Pk (Pk (Pk (Pk Ar)))))))))))))
   refine Pf 16 rfl (Ay rfl) (Pf 17 rfl (Ay rfl) ?_)
   refine A1 (by kernel_rfl) ?_
   refine AB (.t4 0 1 4 5) ?_
   refine AA (Gs (Gm rfl (Gt (AZ rfl BT .m1 (AS.id AH.fl.len AH.fl.one) rfl) (Gt (BR rfl) (Gt (Ai D2 rfl) ?_)))))
   refine AR (AJ AM.l0 rfl rfl rfl Dq rfl (.t (.t .h))) ?_
   refine Gn (.t3 0 1 5) (Ap ?_)
   refine Eb (.c (.t (.t .h)) (.c (.t (.t .h)) .n)) ?_
   refine FK (k := k) hk.1 hk.2 (fun sv sl hsv hlv hln => ?_)
   refine AI (Gm rfl (Gt (BA US To rfl .nil) (Gt (BR rfl) ?_)))
   refine AR (AJ (AS.BM { V with w := (AF.FY V.w (V.Ax.at k).A8 AL.FM).1 } hk.1 hk.2) rfl rfl rfl Ra rfl (.t (.t (.t .h)))) ?_
   refine Gn (.t3 0 1 5) ?_
   refine EM A4 9 1 ?_
   refine EM A4 9 1 ?_
   refine EM A4 9 1 ?_
   refine Eb (.c (.t (.t .h)) (.c (.t .h) (.c .h (.c (.t (.t (.t .h))) (.c (.t (.t (.t .h))) .n))))) ?_
   refine GP hk.1 hk.2 (by rfl) (by rfl) (by rfl) ?_
   refine AI (Gm rfl (Gm rfl ?_))
   refine BC rfl UT (.c rfl (.c rfl .n)) (.c .h (.c .h (.c (.t (.t (.t (.t (.t .h))))) (.c (.t (.t (.t .h))) .n)))) (Ea _ (AM.BM { V with w := (AF.FY V.w (V.Ax.at k).A8 AL.FM).1 } k default) (ls.put k ⟨[], [], []⟩) ev _ (AF.FY V.w (V.Ax.at k).A8 AL.FM).2.1 n (by assumption) (F6 (((hF.land hds.1).free hk.1 hk.2) |> fun h => by rw [← Np, ← Hj hk.1 hk.2] at h; exact h)) (by omega) (Nat.le_trans hF.last (by omega)) (fun e he c _ => hds.2 e he)) (fun w hS => ⟨gl0.pull gm0 hS (.c .h (.c .h (.c (.t (.t (.t (.t (.t .h))))) (.c (.t (.t (.t .h))) .n)))), gl1.pull gm1 hS (.c .h (.c .h (.c (.t (.t (.t (.t (.t .h))))) (.c (.t (.t (.t .h))) .n))))⟩) (fun v23 B hv => ?_)
   obtain ⟨y24, y25, y26, rfl, y27, rfl⟩ := hv
   refine Gn (.t1 1) ?_
   refine FK (k := k) hk.1 hk.2 (fun sv sl hsv hlv hln => ?_)
   refine AI (Gm rfl (Gt (BA US To rfl .nil) (Gt (BR rfl) ?_)))
   refine AR (AJ (AS.BM y24 hk.1 hk.2) rfl rfl rfl Ra rfl (.t (.t (.t .h)))) ?_
   refine AO ?_
   refine Be rfl .n ?_
   intro w1 hS
   have hS := hS.Cd 9 1
   have hS := hS.Cd 9 1
   have hS := hS.Cd 9 1
   have hS := (hS.perm (Av.perm (.c (.t (.t .h)) (.c (.t .h) (.c .h (.c (.t (.t (.t .h))) (.c (.t (.t (.t .h))) (.c (.t (.t (.t .h))) .n)))))))).Az
   have hS := St.close' (s := default) (qs := []) (ws := []) (ts := []) hk.1 hk.2 rfl rfl rfl hS
   refine ⟨_, ⟨_, _, _, rfl, ?ga2, rfl⟩, hS⟩
   case ga2 => exact PV hk.1 hk.2 c1 y27
 refine Aa ?_
 refine AB (.t1 1) ?_
 refine AA ?_
 refine FK (k := k) hk.1 hk.2 (fun sv sl hsv hlv hln => ?_)
 refine AI (Gm rfl (Gt (BA US To rfl .nil) (Gt (BR rfl) ?_)))
 refine AR (AJ (AS.BM V hk.1 hk.2) rfl rfl rfl Ra rfl (.t (.t (.t .h)))) ?_
 refine AO ?_
 refine Be rfl .n ?_
 intro w1 hS
 have hS := hS.Cd 9 1
 have hS := hS.Cd 9 1
 have hS := hS.Cd 9 1
 have hS := (hS.perm (Av.perm (.c (.t (.t .h)) (.c (.t .h) (.c .h (.c (.t (.t (.t .h))) (.c (.t (.t (.t .h))) (.c (.t (.t (.t .h))) .n)))))))).Az
 have hS := St.close' (s := default) (qs := []) (ws := []) (ts := []) hk.1 hk.2 rfl rfl rfl hS
 refine ⟨_, ⟨_, _, _, rfl, ?ga3, rfl⟩, hS⟩
 case ga3 => exact TB hk.1 hk.2 c1
theorem OA (b : Nat) (V : AM) (ls : Vector BG 4) (ev : List Ing.Event) (k : Int) (u : Aq) (n m : Nat) (hk : 0 ≤ k ∧ k < 4) (hF : AL.Fit (A3 V ls ev) n m) (hn : n ≤ 900000) (hm : m ≤ 900000) (hu : u.length ≤ 1000) : Ew Tryz.prog 95 #[.pointer (some ⟨b, 0, none⟩), .pointer (some ⟨b, 165 + k.toNat * 22, none⟩), BQ u] [Ad.box b 101 (AM.enc V), Ad.Ds (CI 9 (AM.Ax V) ls), Ad.own (AM.last V) 56 16 ((ev).flatMap Ing.Event.enc)] (fun w => (GV 2 FL w ∧ 2 ∉ CW [Ad.box b 101 (AM.enc V), Ad.Ds (CI 9 (AM.Ax V) ls), Ad.own (AM.last V) 56 16 ((ev).flatMap Ing.Event.enc)]) ∧ (GV 0 AH.C0 w ∧ 0 ∉ CW [Ad.box b 101 (AM.enc V), Ad.Ds (CI 9 (AM.Ax V) ls), Ad.own (AM.last V) 56 16 ((ev).flatMap Ing.Event.enc)]) ∧ (F8 7 w ∧ 7 ∉ CW [Ad.box b 101 (AM.enc V), Ad.Ds (CI 9 (AM.Ax V) ls), Ad.own (AM.last V) 56 16 ((ev).flatMap Ing.Event.enc)]) ∧ (F8 8 w ∧ 8 ∉ CW [Ad.box b 101 (AM.enc V), Ad.Ds (CI 9 (AM.Ax V) ls), Ad.own (AM.last V) 56 16 ((ev).flatMap Ing.Event.enc)])) (fun v B => ∃ V' ls' ev', v = .tuple #[] ∧ A3 V' ls' ev' = AL.order (A3 V ls ev) k u ∧ B = [Ad.box b 101 (AM.enc V'), Ad.Ds (CI 9 (AM.Ax V') ls'), Ad.own (AM.last V') 56 16 ((ev').flatMap Ing.Event.enc)]) := by
 intro w hS0 hH
 obtain ⟨⟨gl0, gm0⟩, ⟨gl1, gm1⟩, ⟨gl2, gm2⟩, ⟨gl3, gm3⟩⟩ := hH
 have hps := Words.Li u
 have hdl := AF.MM V.w (V.Ax.at k).A8 (Words.parse u).1
 have hds := AF.MH (b := (V.Ax.at k).A8) (o := (Words.parse u).1) hF.Gz (by have := hps.2.2; omega)
 have htn := F6 hF
 refine Am _ _ Tryz.func95 rfl rfl rfl (hS0) ?_
 refine Gs (Gm rfl ?_)
 refine A7 rfl Zj (.c rfl .n) (fun w hS => LL u (by omega) w (gl1.stM gm1 hS) (gl2.stM gm2 hS) (gl3.stM gm3 hS)) ?_
 refine Gm rfl (Gt (AK rfl rfl) (Gt (AK rfl rfl) ?_))
 refine BF rfl K0 rfl (fun b1 => ?_)
 refine AR (AJ (AS.id Order.fl.len Order.fl.one) rfl rfl rfl Dl rfl .h) ?_
 refine Ga rfl (Gn (.t4 0 1 6 7) (B7 (Gm rfl (Gt (CK rfl rfl) (Gn (.t4 0 1 6 17) ?_)))))
 refine Gc (fun c1 => ?_) (fun c1 => ?_)
 ·
  have c1p := kz c1
  refine Gs (Gm rfl (Gm rfl ?_))
  refine Ah rfl SM (.c rfl (.c rfl (.c rfl .n))) (.c (.t .h) (.c (.t .h) (.c (.t .h) .n))) (D0 _ V ls ev k _ hk (Nat.le_trans (htn k hk.1 hk.2) (by omega))) (fun v1 B hv => ?_)
  obtain ⟨y2, y3, y4, rfl, y5, rfl⟩ := hv
  refine Gn (.nil _) (Ab (AD ?_))
  refine AY rfl .n ?_
  intro w1 hS
  have hS := (hS.perm (Av.perm (.c .h (.c .h (.c .h .n))))).Az
  refine ⟨_, ⟨y2, y3, y4, rfl, ?ga1, rfl⟩, hS⟩
  case ga1 => exact y5.trans (if_pos c1).symm
 have c1p := kz c1
 refine Aa ?_
 refine AB (.t3 0 1 6) ?_
 refine AA (B7 (Gt (Ai Cw rfl) (Gt (AG rfl A2 .m0 Order.l0 rfl rfl) (Gt (Af rfl rfl) (Gn (.t4 0 1 6 23) ?_)))))
 refine Gc (fun c2 => ?_) (fun c2 => ?_)
 ·
  refine Gs (Gm rfl (Gm rfl ?_))
  refine BC rfl YI (.c rfl (.c rfl .n)) (.c (.t .h) (.c (.t .h) (.c (.t .h) .n))) (HY _ V ls ev k n m hk hF hn hm) (fun w hS => ⟨gl0.pull gm0 hS (.c (.t .h) (.c (.t .h) (.c (.t .h) .n))), gl1.pull gm1 hS (.c (.t .h) (.c (.t .h) (.c (.t .h) .n))), gl2.pull gm2 hS (.c (.t .h) (.c (.t .h) (.c (.t .h) .n))), gl3.pull gm3 hS (.c (.t .h) (.c (.t .h) (.c (.t .h) .n)))⟩) (fun v6 B hv => ?_)
  obtain ⟨y7, y8, y9, rfl, y10, rfl⟩ := hv
  refine Gn (.nil _) (Ab (AD ?_))
  refine AY rfl .n ?_
  intro w1 hS
  have hS := (hS.perm (Av.perm (.c .h (.c .h (.c .h .n))))).Az
  refine ⟨_, ⟨y7, y8, y9, rfl, ?ga2, rfl⟩, hS⟩
  case ga2 => exact y10.trans ((AU c1).trans (A9 c2)).symm
 have c2p := kz c2
 refine Aa ?_
 refine AB (.t3 0 1 6) ?_
 refine AA (Ap ?_)
 refine BD (N := 18) [0, 1, 3, 7, 0, 16, 48, 112, 0, 511, 1023, 2047, 2047, 2047, 0, 20479, 57343, 131071] mix (by kernel_rfl) rfl ?_
 refine Pf 0 rfl (AE rfl) (Pf 1 rfl (BR rfl) (Pf 2 rfl (Ai D2 rfl) (Pf 3 rfl (AZ rfl BT .m1 AM.l0 rfl) (Pf 4 rfl (AE rfl) (Pf 5 rfl (BR rfl) (Pf 6 rfl (Ai HU rfl) (Pf 7 rfl (AG rfl A2 .m1 ((AM.l1.comp (AS.arr (n := 4) A0.fl hk.1 hk.2)).comp A0.l1) rfl rfl) ?_)))))))
 refine Pf 8 rfl (AZ rfl B2 .m0 (AS.id Order.fl.len Order.fl.one) rfl) ?_
 refine Io 9 14 rfl rfl (by kernel_rfl) ?_ ?_
 ·
  refine BC rfl XL (.c rfl (.c rfl (.c rfl .n))) .n (Fq V.w (V.Ax.at k).A8 (Words.parse u).1 hF.Gz.Lr (by have := hps.2.1; omega) (by have := hps.1; omega)) (fun w hS => ⟨gl1.pull gm1 hS .n, gl2.pull gm2 hS .n, gl3.pull gm3 hS .n⟩) (fun v11 B hv => ?_)
  obtain ⟨y12, rfl, y13, rfl⟩ := hv
  refine Bo rfl ⟨?_, ?_⟩
  · exact (Pk (Pk (Pk (Pk (Pk (Pk (Pk (Pk (Pk Ar)))))))))
  refine Pf 10 rfl (AE rfl) (Pf 11 rfl (AK rfl rfl) (Pf 12 rfl (AK rfl rfl) (Pf 13 rfl (AK rfl rfl) ?_)))
  refine An 14 rfl (by kernel_rfl) ?_
  refine BF rfl L4 rfl (fun b2 => ?_)
  refine Bo rfl ⟨?_, ?_⟩
  · exact (Po rfl (AK rfl rfl) rfl rfl (Po rfl (AK rfl rfl) rfl rfl (Po rfl (AK rfl rfl) rfl rfl (Po rfl (AE rfl) rfl rfl (Po rfl (AZ rfl B2 .m2 (AS.id Order.fl.len Order.fl.one) rfl) rfl rfl (Po rfl (AG rfl A2 .m3 ((AM.l1.comp (AS.arr (n := 4) A0.fl hk.1 hk.2)).comp A0.l1) rfl rfl) rfl rfl (Po rfl (Ai HU rfl) rfl rfl (Po rfl (BR rfl) rfl rfl (Po rfl (AE rfl) rfl rfl (Po rfl (AZ rfl BT .m3 AM.l0 rfl) rfl rfl (Po rfl (Ai D2 rfl) rfl rfl (Po rfl (BR rfl) rfl rfl (Po rfl (AE rfl) rfl rfl Ar)))))))))))))
  refine An 15 rfl (by kernel_rfl) ?_
  refine AR (AJ (AS.id AH.fl.len AH.fl.one) rfl rfl rfl Dq rfl .h) ?_
  refine BK rfl ⟨?_, ?_⟩
  · exact (Po rfl (AK rfl rfl) rfl rfl (Po rfl (AK rfl rfl) rfl rfl (Pk (Pk (Pk (Pk (Pk (Pk (Pk (Pk (Pk (Pk (Pk Ar)))))))))))))
  refine Pf 16 rfl (Ay rfl) (Pf 17 rfl (Ay rfl) ?_)
  refine A1 (by kernel_rfl) ?_
  refine AB (.t3 0 8 9) ?_
  refine AA (Gs (Gm rfl (Gt (AZ rfl BT .m0 (AS.id AH.fl.len AH.fl.one) rfl) (Gt (BR rfl) (Gt (Ai D2 rfl) ?_)))))
  refine AR (AJ AM.l0 rfl rfl rfl Dq rfl (.t (.t (.t .h)))) ?_
  refine Gn (.t2 0 9) (AI (Gm rfl (Gm rfl ?_)))
  refine BC rfl UT (.c rfl (.c rfl .n)) (.c (.t (.t (.t .h))) (.c (.t (.t (.t .h))) (.c (.t (.t (.t .h))) (.c (.t .h) .n)))) (Ea _ { V with w := (AF.FY V.w (V.Ax.at k).A8 (Words.parse u).1).1 } ls ev _ (AF.FY V.w (V.Ax.at k).A8 (Words.parse u).1).2.1 n (by assumption) htn (by omega) (Nat.le_trans hF.last (by omega)) (fun e he c _ => hds.2 e he)) (fun w hS => ⟨gl0.pull gm0 hS (.c (.t (.t (.t .h))) (.c (.t (.t (.t .h))) (.c (.t (.t (.t .h))) (.c (.t .h) .n)))), gl1.pull gm1 hS (.c (.t (.t (.t .h))) (.c (.t (.t (.t .h))) (.c (.t (.t (.t .h))) (.c (.t .h) .n))))⟩) (fun v15 B hv => ?_)
  obtain ⟨y16, y17, y18, rfl, y19, rfl⟩ := hv
  refine AO ?_
  refine Be rfl .n ?_
  intro w1 hS
  have hS := (hS.perm (Av.perm (.c .h (.c .h (.c .h .n))))).Az
  refine ⟨_, ⟨y16, y17, y18, rfl, ?ga3, rfl⟩, hS⟩
  case ga3 => exact Sr hk.1 hk.2 c1 c2 y19
 ·
  refine BF rfl L4 rfl (fun b3 => ?_)
  refine Bo rfl ⟨?_, ?_⟩
  · exact (Po rfl (AZ rfl B2 .m1 (AS.id Order.fl.len Order.fl.one) rfl) rfl rfl (Po rfl (AG rfl A2 .m2 ((AM.l1.comp (AS.arr (n := 4) A0.fl hk.1 hk.2)).comp A0.l1) rfl rfl) rfl rfl (Po rfl (Ai HU rfl) rfl rfl (Po rfl (BR rfl) rfl rfl (Po rfl (AE rfl) rfl rfl (Po rfl (AZ rfl BT .m2 AM.l0 rfl) rfl rfl (Po rfl (Ai D2 rfl) rfl rfl (Po rfl (BR rfl) rfl rfl (Po rfl (AE rfl) rfl rfl Ar)))))))))
  refine An 9 rfl (by kernel_rfl) ?_
  refine BC rfl XL (.c rfl (.c rfl (.c rfl .n))) .n (Fq V.w (V.Ax.at k).A8 (Words.parse u).1 hF.Gz.Lr (by have := hps.2.1; omega) (by have := hps.1; omega)) (fun w hS => ⟨gl1.pull gm1 hS .n, gl2.pull gm2 hS .n, gl3.pull gm3 hS .n⟩) (fun v20 B hv => ?_)
  obtain ⟨y21, rfl, y22, rfl⟩ := hv
  refine Bo rfl ⟨?_, ?_⟩
  · exact (Pk (Pk (Pk (Pk (Pk (Pk (Pk (Pk (Pk Ar)))))))))
  refine Pf 10 rfl (AE rfl) (Pf 11 rfl (AK rfl rfl) (Pf 12 rfl (AK rfl rfl) (Pf 13 rfl (AK rfl rfl) ?_)))
  refine An 15 rfl (by kernel_rfl) ?_
  refine AR (AJ (AS.id AH.fl.len AH.fl.one) rfl rfl rfl Dq rfl (.t .h)) ?_
  refine BK rfl ⟨?_, ?_⟩
  · exact (Po rfl (AK rfl rfl) rfl rfl (Po rfl (AK rfl rfl) rfl rfl (Pk (Pk (Pk (Pk (Pk (Pk (Pk (Pk (Pk (Pk (Pk Ar)))))))))))))
  refine Pf 16 rfl (Ay rfl) (Pf 17 rfl (Ay rfl) ?_)
  refine A1 (by kernel_rfl) ?_
  refine AB (.t3 0 8 9) ?_
  refine AA (Gs (Gm rfl (Gt (AZ rfl BT .m1 (AS.id AH.fl.len AH.fl.one) rfl) (Gt (BR rfl) (Gt (Ai D2 rfl) ?_)))))
  refine AR (AJ AM.l0 rfl rfl rfl Dq rfl (.t (.t (.t .h)))) ?_
  refine Gn (.t2 0 9) (AI (Gm rfl (Gm rfl ?_)))
  refine BC rfl UT (.c rfl (.c rfl .n)) (.c (.t (.t (.t .h))) (.c (.t (.t (.t .h))) (.c (.t (.t (.t .h))) (.c .h .n)))) (Ea _ { V with w := (AF.FY V.w (V.Ax.at k).A8 (Words.parse u).1).1 } ls ev _ (AF.FY V.w (V.Ax.at k).A8 (Words.parse u).1).2.1 n (by assumption) htn (by omega) (Nat.le_trans hF.last (by omega)) (fun e he c _ => hds.2 e he)) (fun w hS => ⟨gl0.pull gm0 hS (.c (.t (.t (.t .h))) (.c (.t (.t (.t .h))) (.c (.t (.t (.t .h))) (.c .h .n)))), gl1.pull gm1 hS (.c (.t (.t (.t .h))) (.c (.t (.t (.t .h))) (.c (.t (.t (.t .h))) (.c .h .n))))⟩) (fun v24 B hv => ?_)
  obtain ⟨y25, y26, y27, rfl, y28, rfl⟩ := hv
  refine AO ?_
  refine Be rfl .n ?_
  intro w1 hS
  have hS := (hS.perm (Av.perm (.c .h (.c .h (.c .h .n))))).Az
  refine ⟨_, ⟨y25, y26, y27, rfl, ?ga4, rfl⟩, hS⟩
  case ga4 => exact Sr hk.1 hk.2 c1 c2 y28
theorem O2 (b : Nat) (V : AM) (ls : Vector BG 4) (ev : List Ing.Event) (k : Int) (n m : Nat) (hk : 0 ≤ k ∧ k < 4) (hF : AL.Fit (A3 V ls ev) n m) (hn : n ≤ 900000) (hm : m ≤ 900000) : Ew Tryz.prog 77 #[.pointer (some ⟨b, 0, none⟩), .pointer (some ⟨b, 165 + k.toNat * 22, none⟩)] [Ad.box b 101 (AM.enc V), Ad.Ds (CI 9 (AM.Ax V) ls), Ad.own (AM.last V) 56 16 ((ev).flatMap Ing.Event.enc)] (fun w => (GV 2 FL w ∧ 2 ∉ CW [Ad.box b 101 (AM.enc V), Ad.Ds (CI 9 (AM.Ax V) ls), Ad.own (AM.last V) 56 16 ((ev).flatMap Ing.Event.enc)]) ∧ (GV 0 AH.C0 w ∧ 0 ∉ CW [Ad.box b 101 (AM.enc V), Ad.Ds (CI 9 (AM.Ax V) ls), Ad.own (AM.last V) 56 16 ((ev).flatMap Ing.Event.enc)]) ∧ (F8 7 w ∧ 7 ∉ CW [Ad.box b 101 (AM.enc V), Ad.Ds (CI 9 (AM.Ax V) ls), Ad.own (AM.last V) 56 16 ((ev).flatMap Ing.Event.enc)]) ∧ (F8 8 w ∧ 8 ∉ CW [Ad.box b 101 (AM.enc V), Ad.Ds (CI 9 (AM.Ax V) ls), Ad.own (AM.last V) 56 16 ((ev).flatMap Ing.Event.enc)])) (fun v B => ∃ V' ls' ev', v = .tuple #[] ∧ A3 V' ls' ev' = AL.EO (A3 V ls ev) k ∧ B = [Ad.box b 101 (AM.enc V'), Ad.Ds (CI 9 (AM.Ax V') ls'), Ad.own (AM.last V') 56 16 ((ev').flatMap Ing.Event.enc)]) := by
 intro w hS0 hH
 obtain ⟨⟨gl0, gm0⟩, ⟨gl1, gm1⟩, ⟨gl2, gm2⟩, ⟨gl3, gm3⟩⟩ := hH
 refine Am _ _ Tryz.func77 rfl rfl rfl (hS0) ?_
 refine B7 (Gm rfl (Gt (BR rfl) (Gt (Ai H5 rfl) (Gt (AG rfl A2 .m0 ((AM.l1.comp (AS.arr (n := 4) A0.fl hk.1 hk.2)).comp A0.l0) rfl rfl) (Gt (Af rfl rfl) (Gn (.t3 0 1 11) ?_))))))
 refine Gc (fun c1 => ?_) (fun c1 => ?_)
 ·
  refine Ab (AD ?_)
  refine AY rfl .n ?_
  intro w1 hS
  have hS := (hS.perm (Av.perm (.c .h (.c .h (.c .h .n))))).Az
  exact ⟨_, ⟨V, ls, ev, rfl, TL hk.1 hk.2 c1, rfl⟩, hS⟩
 have c1p := kz c1
 refine Aa ?_
 refine AB (.t2 0 1) ?_
 refine AA (Gs (Ga rfl (Gn (.t2 0 1) (Gs (Ga rfl (Gn (.t2 0 1) (Ap ?_)))))))
 refine Ap ?_
 refine FK (k := k) hk.1 hk.2 (fun sv sl hsv hlv hln => ?_)
 refine AI (Gm rfl (Gm rfl (Gt (BR rfl) (Gt (Ai K9 rfl) (Gt (AZ rfl I9 .m3 ((AS.BM V hk.1 hk.2).comp A0.l3) rfl) ?_)))))
 refine BC rfl aQ (.c rfl .n) .n (Mw _ _ (by have h := (Tz hF hk.1 hk.2).1; rw [hlv] at h; omega)) (fun w hS => ⟨(Kn.own .m0) w hS, (S4.own .m0) w hS⟩) (fun v1 B hv => ?_)
 rcases hv with ⟨y2, rfl, rfl⟩ | ⟨y3, y4, y5, y6, rfl, y7, rfl⟩
 ·
  refine Gm rfl (Gt (AK rfl rfl) (Gt (AK rfl rfl) (Gt (AK rfl rfl) (Gt (BR rfl) (Gt (Ai K9 rfl) ?_)))))
  refine AR (AJ ((AS.BM V hk.1 hk.2).comp A0.l3) rfl rfl rfl Mu rfl (.t (.t (.t .h)))) ?_
  refine Ga rfl (Ga rfl (Gn (.t4 0 1 4 5) (Gs (Gm rfl (Gt (BS rfl) (Gn (.t4 0 1 4 25) ?_))))))
  refine GJ rfl rfl ?_
  refine Ab (AD ?_)
  refine AY rfl .n ?_
  intro w1 hS
  have hS := (hS.perm (Av.perm (.c .h (.c .h (.c .h (.c .h (.c .h (.c .h .n)))))))).Az
  have hS := hS.close' hk.1 hk.2 (by rfl) (by rfl) (by rfl)
  refine ⟨_, ⟨V.BM k sv, ls.put k ⟨sl.queue, sl.wait, sl.told⟩, ev, rfl, ?ga2, rfl⟩, hS⟩
  case ga2 => exact UB hk.1 hk.2 hsv hlv y2 c1
 refine Gm rfl (Gt (AK rfl rfl) (Gt (AK rfl rfl) (Gt (AK rfl rfl) (Gt (BR rfl) (Gt (Ai K9 rfl) ?_)))))
 refine AR (AJ ((AS.BM V hk.1 hk.2).comp A0.l3) rfl rfl rfl Mu rfl (.t (.t (.t (.t .h))))) ?_
 refine Ga rfl (Ga rfl (Gn (.t4 0 1 4 5) (Gs (Gm rfl (Gt (BS rfl) (Gn (.t4 0 1 4 25) ?_))))))
 refine EE rfl rfl ?_
 refine Aa ?_
 refine AB (.t3 0 1 4) ?_
 refine AA (Gs (Gm rfl (Gt (BR rfl) (Gt (Ai Df rfl) (Gt (Ai P2 rfl) (Gt (AG rfl DV .m4 (((AS.BM V hk.1 hk.2).comp A0.l4).comp Aw.l2) rfl rfl) (Ga rfl ?_)))))))
 refine Gn (.t4 0 1 4 6) (Gs (Gm rfl (Gm rfl (Gt (BR rfl) (Gt (Ai Df rfl) (Gt (AZ rfl Cn .m4 ((AS.BM V hk.1 hk.2).comp A0.l4) rfl) ?_))))))
 refine A7 rfl aw (.c rfl .n) (fun w hS => Lw _ w) ?_
 refine Gt (BR rfl) (Gt (Ai Df rfl) ?_)
 refine AR (AJ ((AS.BM V hk.1 hk.2).comp A0.l4) rfl rfl rfl FC rfl (.t (.t (.t (.t .h))))) ?_
 refine Gn (.t4 0 1 4 6) (Ae (Ap ?_))
 refine Eb (.c .h (.c (.t .h) (.c (.t .h) (.c (.t .h) (.c (.t .h) .n))))) ?_
 refine GP hk.1 hk.2 (by rfl) (by rfl) (by rfl) ?_
 refine AI (Gm rfl (Ga rfl (Gn (.t4 0 1 4 43) ?_)))
 refine Gc (fun c2 => ?_) (fun c2 => ?_)
 ·
  refine Aa ?_
  refine AB (.nil _) ?_
  refine AT ?_
  refine Be rfl .n ?_
  intro w1 hS
  have hS := (hS.perm (Av.perm (.c .h (.c .h (.c (.t .h) .n))))).Az
  exact ⟨_, ⟨(AM.BM V k { sv with ED := ⟨sv.ED.now, sv.ED.Cj, sv.ED.ret, y6⟩, out := ⟨sv.out.wait, 0, false, sv.out.ring, sv.out.cut⟩ }), (ls.put k ⟨y4, sl.wait, sl.told⟩), ev, rfl, (DJ (ev := ev) hk.1 hk.2 hsv hlv y5 c1 y6).1.trans ((DJ (ev := ev) hk.1 hk.2 hsv hlv y5 c1 y6).2.2.trans (if_pos c2)).symm, rfl⟩, hS⟩
 have c2p := kz c2
 refine Gs (Gm rfl (Gt (BR rfl) (Gt (Ai H5 rfl) (Gt (AG rfl A2 .m0 ((AM.l1.comp (AS.arr (n := 4) A0.fl hk.1 hk.2)).comp A0.l0) rfl rfl) (Gt (Af rfl rfl) (Ga rfl (Gn (.t4 0 1 4 45) ?_)))))))
 refine Gc (fun c3 => ?_) (fun c3 => ?_)
 ·
  have c3p := kz c3
  refine AI (Gm rfl (Gm rfl (Gm rfl ?_)))
  refine A7 rfl Zy (.c rfl (.c rfl .n)) (fun w hS => HL y3 (by have h : y3.length ≤ 1000 := (by have h := (hF.queue k hk.1 hk.2).2 y3 (by rw [(DJ (ev := ev) hk.1 hk.2 hsv hlv y5 c1 y6).2.1]; exact List.mem_cons_self ..); omega); omega) w) ?_
  refine BC rfl bO (.c rfl (.c rfl (.c rfl .n))) (.c .h (.c .h (.c (.t .h) .n))) (P1 _ (AM.BM V k { sv with ED := ⟨sv.ED.now, sv.ED.Cj, sv.ED.ret, y6⟩, out := ⟨sv.out.wait, 0, false, sv.out.ring, sv.out.cut⟩ }) (ls.put k ⟨y4, sl.wait, sl.told⟩) ev k _ n m hk (by rw [(DJ (ev := ev) hk.1 hk.2 hsv hlv y5 c1 y6).1]; exact hF.FB hk.1 hk.2 (DJ (ev := ev) hk.1 hk.2 hsv hlv y5 c1 y6).2.1) hn hm (by have h : y3.length ≤ 1000 := (by have h := (hF.queue k hk.1 hk.2).2 y3 (by rw [(DJ (ev := ev) hk.1 hk.2 hsv hlv y5 c1 y6).2.1]; exact List.mem_cons_self ..); omega); have h1 := Words.Kq 32 (Words.QW 32 y3); have h2 := Words.PN 32 y3; omega)) (fun w hS => ⟨gl0.pull gm0 hS (.c .h (.c .h (.c (.t .h) .n))), gl1.pull gm1 hS (.c .h (.c .h (.c (.t .h) .n)))⟩) (fun v9 B hv => ?_)
  obtain ⟨y10, y11, y12, rfl, y13, rfl⟩ := hv
  refine AO (AB (.nil _) ?_)
  refine AT ?_
  refine Be rfl .n ?_
  intro w1 hS
  have hS := (hS.perm (Av.perm (.c .h (.c .h (.c .h .n))))).Az
  have c9 : decide (sv.state = 1) = true := by
    have h := c3
    rw [show (AM.Ax (AM.BM V k { sv with ED := ⟨sv.ED.now, sv.ED.Cj, sv.ED.ret, y6⟩, out := ⟨sv.out.wait, 0, false, sv.out.ring, sv.out.cut⟩ })).at k = _ from Vector.CG hk.1 hk.2] at h
    exact h
  refine ⟨_, ⟨y10, y11, y12, rfl, ?ga4, rfl⟩, hS⟩
  case ga4 => exact y13.trans ((congrArg (fun X => AL.named X k _) (DJ (ev := ev) hk.1 hk.2 hsv hlv y5 c1 y6).1).trans ((DJ (ev := ev) hk.1 hk.2 hsv hlv y5 c1 y6).2.2.trans ((AU c2).trans (A9 c9))).symm)
 have c3p := kz c3
 refine AI (Gm rfl (Gm rfl (Gm rfl ?_)))
 refine BC rfl aK (.c rfl (.c rfl (.c rfl .n))) (.c .h (.c .h (.c (.t .h) .n))) (OA _ (AM.BM V k { sv with ED := ⟨sv.ED.now, sv.ED.Cj, sv.ED.ret, y6⟩, out := ⟨sv.out.wait, 0, false, sv.out.ring, sv.out.cut⟩ }) (ls.put k ⟨y4, sl.wait, sl.told⟩) ev k _ n m hk (by rw [(DJ (ev := ev) hk.1 hk.2 hsv hlv y5 c1 y6).1]; exact hF.FB hk.1 hk.2 (DJ (ev := ev) hk.1 hk.2 hsv hlv y5 c1 y6).2.1) hn hm (by have h := (hF.queue k hk.1 hk.2).2 y3 (by rw [(DJ (ev := ev) hk.1 hk.2 hsv hlv y5 c1 y6).2.1]; exact List.mem_cons_self ..); omega)) (fun w hS => ⟨gl0.pull gm0 hS (.c .h (.c .h (.c (.t .h) .n))), gl1.pull gm1 hS (.c .h (.c .h (.c (.t .h) .n))), gl2.pull gm2 hS (.c .h (.c .h (.c (.t .h) .n))), gl3.pull gm3 hS (.c .h (.c .h (.c (.t .h) .n)))⟩) (fun v14 B hv => ?_)
 obtain ⟨y15, y16, y17, rfl, y18, rfl⟩ := hv
 refine AO (AB (.nil _) ?_)
 refine AT ?_
 refine Be rfl .n ?_
 intro w1 hS
 have hS := (hS.perm (Av.perm (.c .h (.c .h (.c .h .n))))).Az
 have c9 : decide (sv.state = 1) = false := by
   have h := c3
   rw [show (AM.Ax (AM.BM V k { sv with ED := ⟨sv.ED.now, sv.ED.Cj, sv.ED.ret, y6⟩, out := ⟨sv.out.wait, 0, false, sv.out.ring, sv.out.cut⟩ })).at k = _ from Vector.CG hk.1 hk.2] at h
   exact h
 refine ⟨_, ⟨y15, y16, y17, rfl, ?ga5, rfl⟩, hS⟩
 case ga5 => exact y18.trans ((congrArg (fun X => AL.order X k _) (DJ (ev := ev) hk.1 hk.2 hsv hlv y5 c1 y6).1).trans ((DJ (ev := ev) hk.1 hk.2 hsv hlv y5 c1 y6).2.2.trans ((AU c2).trans (AU c9))).symm)
theorem Nj (X : AH) (b : Int) (hF : (AF.FN X b).Fit) : Ew Tryz.prog 97 #[.agg X.enc.toArray, .int .i64 b] [] (fun w => (GV 0 AH.C0 w ∧ 0 ∉ CW [])) (fun v B => ∃ h : Hd, v = .tuple #[.agg ((AF.IC X b).w.enc).toArray, h.val] ∧ h.len = (AF.IC X b).out.length ∧ B = [Ad.own h 56 16 ((AF.IC X b).out.flatMap Ing.Event.enc)]) := by
 intro w hS0 hH
 obtain ⟨gl0, gm0⟩ := hH
 have hb : 0 ≤ b ∧ b < 6 := hF.b
 refine Am _ _ Tryz.func97 rfl rfl rfl (hS0) ?_
 refine Gs ?_
 refine B3 rfl rfl rfl (fun b1 => ?_)
 refine BF rfl L4 rfl (fun b2 => ?_)
 refine Ga rfl (Gn (.t3 1 2 4) (Gs (Gt (AZ rfl BT .m1 (AS.id AH.fl.len AH.fl.one) rfl) (Gm rfl (Gt (BA Su Sk rfl (.cons Ac.l0 rfl rfl rfl (.cons Ac.l1 rfl rfl rfl .nil))) ?_)))))
 refine B3 rfl rfl rfl (fun b3 => ?_)
 refine Ga rfl (Gn (.t3 1 4 6) (Gs (Gm rfl (Gm rfl (Gt (BR rfl) (Gt (Ai A5 rfl) (Gt (Ai Bi rfl) ?_)))))))
 refine Gt (AQ Cr rfl rfl (by first | omega | exact hb.1 | exact hb.2 | (dsimp only; omega)) (by first | omega | exact hb.1 | exact hb.2 | (dsimp only; omega))) ?_
 refine Gt (Ai JA rfl) ?_
 refine AR (AJ (((Ac.l0.comp AH.l2).comp (AS.ar (n := 6) Al.fl (by first | omega | exact hb | (dsimp only; omega)))).comp Al.l4) rfl rfl rfl Cy rfl .h) ?_
 refine Gn (.t3 1 4 6) (Gs (Gm rfl ?_))
 refine C9 Ing.Event.enc 56 16 ?_
 refine Ah rfl S7 (.c rfl (.c rfl .n)) (.c (.t .h) (.c .h .n)) (Fo _ (AF.FN X b) _ 15 rfl hb (Nat.zero_le _)) (fun v2 B hv => ?_)
 obtain ⟨y3, rfl, y4, rfl⟩ := hv
 refine Gn (.t3 1 4 6) (Gs (Gm rfl ?_))
 refine Ah rfl XY (.c rfl .n) (.c .h .n) (Kw _ ((AF.FN X b).kind 15) _ (hF.O1 rfl rfl)) (fun v5 B hv => ?_)
 obtain ⟨y6, y7, rfl, rfl⟩ := hv
 refine Gn (.t3 1 4 6) (B7 (Gm rfl (Gt (A6 rfl rfl) (Gn (.t4 1 4 6 24) ?_))))
 refine Gc (fun c1 => ?_) (fun c1 => ?_)
 ·
  have c1p := kz c1
  refine Gs (Gm rfl (Gm rfl (Gt (BA Um Kv rfl .nil) (Gt (BR rfl) (Gt (Ai A5 rfl) (Gt (Ai Bi rfl) ?_))))))
  refine Gt (AQ Cr rfl rfl (by first | omega | exact hb.1 | exact hb.2 | (dsimp only; omega)) (by first | omega | exact hb.1 | exact hb.2 | (dsimp only; omega))) ?_
  refine AR (AJ ((Ac.l0.comp AH.l2).comp (AS.ar (n := 6) Al.fl (by first | omega | exact hb | (dsimp only; omega)))) rfl rfl rfl Jg rfl .h) ?_
  refine Gn (.t2 4 6) (Ap ?_)
  refine BD (N := 10) [0, 1, 3, 7, 0, 16, 48, 112, 15, 511] mix (by kernel_rfl) rfl ?_
  refine Pf 0 rfl (AE rfl) (Pf 1 rfl (BR rfl) (Pf 2 rfl (Ai A5 rfl) (Pf 3 rfl (AZ rfl BT .m0 Ac.l0 rfl) (Pf 4 rfl (AE rfl) (Pf 5 rfl (BR rfl) (Pf 6 rfl (Ai CB rfl) (Pf 7 rfl (AG rfl DT .m0 Ac.l2 rfl rfl) ?_)))))))
  refine An 8 rfl (by kernel_rfl) ?_
  refine AR (AJ (AS.id AH.fl.len AH.fl.one) rfl rfl rfl Dq rfl (.t (.t .h))) ?_
  refine BK rfl ⟨?_, ?_⟩
  · exact (Po rfl (AG rfl DT .m0 Ac.l2 rfl rfl) rfl rfl (Po rfl (Ai CB rfl) rfl rfl (Po rfl (BR rfl) rfl rfl (Po rfl (AE rfl) rfl rfl (Pk (Pk (Pk (Pk Ar))))))))
  refine Pf 9 rfl (Ay rfl) ?_
  refine A1 (by kernel_rfl) ?_
  refine AB (.t2 4 5) ?_
  refine AA (Ab (AD ?_))
  refine AY rfl (.cell rfl .m2 (.inl ⟨(by rw [AH.fl.len]; exact BT), rfl⟩) (.tmp rfl .n)) ?_
  intro w1 hS
  have hS := (hS.perm (Av.perm (.c (.t .h) .n))).Az
  have hq : AF.IC X b = _ := A9 c1
  rw [AF.Ss y7] at hq
  refine ⟨_, ⟨y3, ?hv, ?hl, ?hB⟩, hS⟩
  case hv => rw [hq]; rfl
  case hl => rw [hq]; exact y4
  case hB => rw [hq]
 have c1p := kz c1
 refine Aa ?_
 refine AB (.t3 1 4 6) ?_
 refine AA (Gs (Gm rfl (Gm rfl (Gt (BR rfl) (Gt (Ai A5 rfl) (Gt (Ai Bi rfl) ?_))))))
 refine Gt (AQ Cr rfl rfl (by first | omega | exact hb.1 | exact hb.2 | (dsimp only; omega)) (by first | omega | exact hb.1 | exact hb.2 | (dsimp only; omega))) ?_
 refine Ga rfl (Gn (.t3 4 6 7) (Gs (Gm rfl (Gm rfl (Gt (BR rfl) (Gt (Ai Cq rfl) ?_))))))
 refine AR (AJ (((Ac.l0.comp AH.l2).comp (AS.ar (n := 6) Al.fl (by first | omega | exact hb | (dsimp only; omega)))).comp Al.l3) rfl rfl rfl Cy rfl .h) ?_
 refine Gt (BR rfl) (Gt (Ai JA rfl) ?_)
 refine AR (AJ (((Ac.l0.comp AH.l2).comp (AS.ar (n := 6) Al.fl (by first | omega | exact hb | (dsimp only; omega)))).comp Al.l4) rfl rfl rfl Cy rfl .h) ?_
 refine Gn (.t2 4 6) (Ap ?_)
 refine FW (fun _ => .h) (congrArg (fun q => Ac.enc ⟨q, b, y3⟩) (AF.We y6 hb)) ?_
 have hT2 := AF.Ws y7
 have hf2 := AF.Qr hF
 rw [hT2] at hf2
 refine AI (Gm rfl ?_)
 refine Ah rfl S7 (.c rfl (.c rfl .n)) (.c .h (.c .h .n)) (Fo _ (⟨y6.Cv b { y6.AV.at b with room := 0, BL := 10 }, b, ((AF.FN X b).kind 15).out⟩ : AF) _ 17 y4 hb (by decide : (0 : Nat) + 1 ≤ 100000)) (fun v8 B hv => ?_)
 obtain ⟨y9, rfl, y10, rfl⟩ := hv
 refine Gn (.t2 4 6) (Gs (Gm rfl ?_))
 refine BC rfl Sm (.c rfl .n) (.c .h (.c .h .n)) (GR _ ((⟨y6.Cv b { y6.AV.at b with room := 0, BL := 10 }, b, ((AF.FN X b).kind 15).out⟩ : AF).kind 17) _ y10 hb hf2.br (by decide : (0 : Nat) + 1 + 1 ≤ 90000)) (fun w hS => gl0.pull gm0 hS (.c .h (.c .h .n))) (fun v11 B hv => ?_)
 obtain ⟨y12, rfl, y13, rfl⟩ := hv
 refine Gn (.t2 4 6) (Ap ?_)
 refine BD (N := 10) [0, 1, 3, 7, 0, 16, 48, 112, 15, 511] mix (by kernel_rfl) rfl ?_
 refine Pf 0 rfl (AE rfl) (Pf 1 rfl (BR rfl) (Pf 2 rfl (Ai A5 rfl) (Pf 3 rfl (AZ rfl BT .m0 Ac.l0 rfl) (Pf 4 rfl (AE rfl) (Pf 5 rfl (BR rfl) (Pf 6 rfl (Ai CB rfl) (Pf 7 rfl (AG rfl DT .m0 Ac.l2 rfl rfl) ?_)))))))
 refine An 8 rfl (by kernel_rfl) ?_
 refine AR (AJ (AS.id AH.fl.len AH.fl.one) rfl rfl rfl Dq rfl (.t (.t .h))) ?_
 refine BK rfl ⟨?_, ?_⟩
 · exact (Po rfl (AG rfl DT .m0 Ac.l2 rfl rfl) rfl rfl (Po rfl (Ai CB rfl) rfl rfl (Po rfl (BR rfl) rfl rfl (Po rfl (AE rfl) rfl rfl (Pk (Pk (Pk (Pk Ar))))))))
 refine Pf 9 rfl (Ay rfl) ?_
 refine A1 (by kernel_rfl) ?_
 refine AB (.t2 4 5) ?_
 refine AA (Ab ?_)
 refine AY rfl (.cell rfl .m2 (.inl ⟨(by rw [AH.fl.len]; exact BT), rfl⟩) (.tmp rfl .n)) ?_
 intro w1 hS
 have hS := (hS.perm (Av.perm (.c (.t .h) .n))).Az
 have hq : AF.IC X b = _ := AU c1
 rw [hT2] at hq
 refine ⟨_, ⟨y12, ?hv, ?hl, ?hB⟩, hS⟩
 case hv => rw [hq]; rfl
 case hl => rw [hq]; exact y13
 case hB => rw [hq]
end Go.Proofs.YtoidpggbbfncpaaGreatDoor
