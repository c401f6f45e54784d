/- What the functions that the law TopThings reaches compute: walks, part 5. No condition. -/
import Derived.Test.YtoidpggbbfncpaaGreatDoorCards
import Derived.Test.YtoidpggbbfncpaaGreatDoorTie
import Derived.Deep.DeepHandedRow
import Derived.Test.YtoidpggbbfncpaaGreatDoorRows
import Derived.Test.YtoidpggbbfncpaaGreatDoorTopThingsEc3
import Derived.Test.YtoidpggbbfncpaaGreatDoorTopThingsRa1
import Derived.Test.YtoidpggbbfncpaaGreatDoorTopThingsRb1
import Derived.Test.YtoidpggbbfncpaaGreatDoorTopThingsRc1
import Derived.Test.YtoidpggbbfncpaaGreatDoorTopThingsWalks
import Derived.Test.YtoidpggbbfncpaaGreatDoorTopThingsWalks2
import Derived.Test.YtoidpggbbfncpaaGreatDoorTopThingsWalks3
import Derived.Test.YtoidpggbbfncpaaGreatDoorTopThingsWalks4
set_option linter.unusedSimpArgs false
set_option linter.unusedVariables false
set_option maxRecDepth 100000
set_option maxHeartbeats 1000000
namespace Go.Proofs.YtoidpggbbfncpaaGreatDoor
open Go Go.Ing Go.RowKit Go.ChangeShapes Go.WideShapes Go.ChangeAt
theorem MF (X : AG) (d : Int) (hw : X.DE) : FJ Tryz.prog 78 #[.agg X.enc.toArray, .int .i64 d] [] (fun w => (GV 0 AG.DD w ∧ 0 ∉ Cb [])) (fun v B => ∃ h : Hd, v = .tuple #[.agg ((AE.CS X d).1.enc).toArray, h.val, .int .i64 (AE.CS X d).2.2] ∧ h.len = (AE.CS X d).2.1.length ∧ B = [Ad.own h 56 16 ((AE.CS X d).2.1.flatMap Ing.Event.enc)]) := by
 intro w hS0 hH
 obtain ⟨gl0, gm0⟩ := hH
 have hm := Cp d
 refine Al _ _ Tryz.func78 rfl rfl rfl (hS0) ?_
 refine Gs ?_
 refine B3 rfl rfl rfl (fun b1 => ?_)
 refine BF rfl K1 rfl (fun b2 => ?_)
 refine Ga rfl (Ga rfl (Gn (.t3 1 2 4) (CD (Gt (AZ rfl BU .m1 (AU.id AG.fl.len AG.fl.one) rfl) ?_))))
 refine BA rfl Zb (.c rfl .n) (fun w hS => Hb _ w) ?_
 refine Gt (BX rfl) (Gn (.t4 1 2 4 16) ?_)
 refine Gc (fun c1 => ?_) (fun c1 => ?_)
 ·
  refine Gs (Gt (AZ rfl BU .m1 (AU.id AG.fl.len AG.fl.one) rfl) ?_)
  refine AT (AK (AU.id AG.fl.len AG.fl.one) rfl rfl rfl Dm rfl .h) ?_
  refine Ga rfl (Ga rfl (Gn (.t3 4 5 6) (Ab (AD ?_))))
  refine AY rfl (.cell rfl .m0 (.inl ⟨(by rw [AG.fl.len]; exact BU), rfl⟩) (.tmp rfl (.tmp rfl .n))) ?_
  intro w1 hS
  have hS := hS.Cl 56 16
  have hS := (hS.perm (As.perm (.c .h .n))).A1
  have hq : AE.CS X d = _ := BB c1
  refine ⟨_, ⟨⟨none, 0, 0⟩, ?hv, ?hl, ?hB⟩, hS⟩
  case hv => rw [hq]; rfl
  case hl => rw [hq]; rfl
  case hB => rw [hq]; rfl
 have c1p := kz c1
 refine Aa ?_
 refine AB (.t3 1 2 4) ?_
 refine AA (Gs (Ga rfl (AQ (AA (CD (Gm rfl (AQ ?_)))))))
 refine AA (Ae ?_)
 refine Bo (.t5 7 18 1 2 4) ?_
 refine Ez Ing.Event.enc 56 16 ?_
 refine Bg (.t (.t .h)) ?_
 refine Bg (.t .h) ?_
 refine Dq (fun (k : Int) (s : AG × List Ing.Event) (h : Hd) => 0 ≤ k ∧ k ≤ 6 ∧ s = AE.DR X d k.toNat ∧ s.1.BZ = true ∧ s.1.DE ∧ (s.2.length : Int) ≤ 13 * k ∧ h.len = s.2.length) (fun (k : Int) (s : AG × List Ing.Event) (h : Hd) => (6 - k).toNat) (fun (k : Int) (s : AG × List Ing.Event) (h : Hd) => [(7, h.val), (18, .int .i64 k)]) (fun (k : Int) (s : AG × List Ing.Event) (h : Hd) => [Ad.own h 56 16 (s.2.flatMap Ing.Event.enc), Ad.box b1 35 (AG.enc s.1)]) (0) ((X, [])) (_) ?_ rfl rfl (fun k s h hI1 => ?_)
 · exact ⟨by omega, by omega, rfl, by simpa using c1, hw, by simp, rfl⟩
 obtain ⟨hI11, hI12, hI13, hI14, hI15, hI16, hI17⟩ := hI1
 refine Gs (Gt (A9 rfl rfl) (AQ (AA (Ao ?_))))
 refine Gc (fun c2 => ?_) (fun c2 => ?_)
 ·
  have c2p := kz c2
  have hbe := AE.HA hI14 hI11 (show k < 6 by omega)
  have hfo := hbe.Bx
  refine Aa ?_
  refine AB (.t5 1 2 4 7 18) ?_
  refine AA (Ao (Ae (Gs (Gm rfl (Ga rfl (Gn (.t6 1 2 4 7 8 18) (Gs ?_)))))))
  refine Gm rfl (Gt (Ah Bn rfl) ?_)
  refine Gt (AR C4 rfl rfl (by first | omega | (dsimp only; omega) | (have := Cp (d.tmod 3 + 3 + k); omega)) (by first | omega | (dsimp only; omega) | (have := Cp (d.tmod 3 + 3 + k); omega))) ?_
  refine Gt (AZ rfl Fi .m1 (AG.l2.comp (AU.arr (n := 6) Ak.fl (by first | omega | (dsimp only; omega) | (have := Cp (d.tmod 3 + 3 + k); omega)) (by first | omega | (dsimp only; omega) | (have := Cp (d.tmod 3 + 3 + k); omega)))) rfl) ?_
  refine BF rfl LZ rfl (fun b3 => ?_)
  refine AT (AK (AU.id Ak.fl.len Ak.fl.one) rfl rfl rfl KR rfl .h) ?_
  refine Gn (.t7 1 2 4 7 8 9 18) (CD (Gt (Ah H5 rfl) (Gt (AH rfl Dh .m0 Ak.l1 rfl rfl) (Gt (BX rfl) (Gm rfl (Bc 28 rfl rfl (fun q => Ah GD rfl) (Bc 28 rfl rfl (fun q => AH (cF rfl q) A4 .m0 Ak.l5 rfl rfl) ?_)))))))
  refine Bc 28 rfl rfl (fun q => Af (cF rfl q) rfl) ?_
  refine Gt (BS rfl rfl (fun h => by rw [h]; rfl)) ?_
  refine Gn (.t8 1 2 4 7 8 9 18 32) ?_
  refine Gc (fun c3 => ?_) (fun c3 => ?_)
  ·
   have c3p := kz c3
   refine Be (AX (Aj ?_))
   refine AB (.t5 1 2 4 7 18) ?_
   refine AA (AJ ?_)
   refine Gt (Au rfl rfl (IntWalk.i64_in _ (by first | omega | (dsimp only; omega) | (have := Cp (d.tmod 3 + 3 + k); omega)))) ?_
   refine Gm rfl ?_
   refine AQ (AB (.t5 1 2 4 7 18) ?_)
   refine Bw (k + 1) (s) _ ?_ ?_ (.t5 7 18 1 2 4) (.cons _ (.refl _))
   · have hrs : AE.EH d k s = _ := (BB c3)
     have hrg := AE.FR (draw := d) hI14 hI15 hI11 (by omega)
     rw [hrs] at hrg
     exact ⟨by omega, by omega, by rw [AE.Hy hI11, ← hI13, hrs], hrg.1, hrg.2.1, (by have := hrg.2.2; omega), (by first | assumption | (have hso : (AE.B9 s.1 k ((s.1.AN.at k).Bx - 1) (AE.Lp d k)).out.length = 1 := rfl; (try dsimp only at *); simp only [List.length_append] at *; omega))⟩
   · omega
  have c3p := kz c3
  have hf0 : 0 ≤ ((s.1.AN.at k).Bx - 1) ∧ ((s.1.AN.at k).Bx - 1) < 6 := by omega
  have hbf := (AE.HA hI14 hf0.1 hf0.2).BH
  refine Aa ?_
  refine AB (.t7 1 2 4 7 8 9 18) ?_
  refine AA (Gs (Gt (Ah GD rfl) (Gt (AH rfl A4 .m0 Ak.l5 rfl rfl) ?_)))
  refine Gt (FK rfl rfl (IntWalk.i64_in _ (by first | omega | (dsimp only; omega) | (have := Cp (d.tmod 3 + 3 + k); omega)))) ?_
  refine Ga rfl (Gn (.t8 1 2 4 7 8 9 10 18) (Ao (Ao ?_)))
  refine BD (N := 16) [0, 0, 3, 7, 15, 31, 63, 127, 127, 511, 1023, 2047, 127, 4223, 16383, 32767] mix (by kernel_rfl) rfl ?_
  refine Pf 0 rfl (AF rfl) (Pf 1 rfl (Ah Bn rfl) ?_)
  refine Pf 2 rfl (AR C4 rfl rfl (by first | omega | (dsimp only; omega) | (have := Cp (d.tmod 3 + 3 + k); omega)) (by first | omega | (dsimp only; omega) | (have := Cp (d.tmod 3 + 3 + k); omega))) ?_
  refine Pf 3 rfl (Ah H5 rfl) ?_
  refine Pf 4 rfl (AH rfl Dh .m2 ((AG.l2.comp (AU.arr (n := 6) Ak.fl (by first | omega | (dsimp only; omega) | (have := Cp (d.tmod 3 + 3 + k); omega)) (by first | omega | (dsimp only; omega) | (have := Cp (d.tmod 3 + 3 + k); omega)))).comp Ak.l1) rfl rfl) ?_
  refine Pf 5 rfl (BX rfl) (Pf 6 rfl (AF rfl) (Gd 7 42 rfl rfl rfl (fun q => AF rfl) (Gd 8 42 rfl rfl rfl (fun q => Ah Bn rfl) ?_)))
  refine BQ 9 rfl rfl (by kernel_rfl) (FO (t := 42) rfl rfl (fun q => by have q1 := q; (try simp at q1); exact G3 (AR C4 (cF rfl q) (cF rfl q) (by first | omega | (dsimp only; omega) | (have := Cp (d.tmod 3 + 3 + k); omega)) (by first | omega | (dsimp only; omega) | (have := Cp (d.tmod 3 + 3 + k); omega))))) ?_
  refine Gd 10 42 rfl rfl rfl (fun q => Ah Cy (cF rfl q)) ?_
  refine BQ 11 rfl rfl (by kernel_rfl) (FO (t := 42) rfl rfl (fun q => by have q1 := q; (try simp at q1); exact G3 (AH (cF rfl q) A4 .m2 ((AG.l2.comp (AU.arr (n := 6) Ak.fl (by first | omega | (dsimp only; omega) | (have := Cp (d.tmod 3 + 3 + k); omega)) (by first | omega | (dsimp only; omega) | (have := Cp (d.tmod 3 + 3 + k); omega)))).comp Ak.l3) rfl rfl))) ?_
  refine Gd 12 42 rfl rfl rfl (fun q => Ah Cy rfl) (Gd 13 42 rfl rfl rfl (fun q => AH (cF rfl q) A4 .m0 Ak.l3 rfl rfl) (Gd 14 42 rfl rfl rfl (fun q => Cg (cF rfl q) (cF rfl q)) ?_))
  refine Pf 15 rfl (BS rfl rfl (fun h => by rw [h]; rfl)) ?_
  refine A3 (by kernel_rfl) ?_
  refine AB (.t8 1 2 4 7 8 10 18 51) ?_
  refine AA ?_
  refine Gc (fun c4 => ?_) (fun c4 => ?_)
  ·
   have c4p := kz c4
   refine Gs (Gm rfl (Gt (Ah Bn rfl) ?_))
   refine Gt (AR C4 rfl rfl (by first | omega | (dsimp only; omega) | (have := Cp (d.tmod 3 + 3 + k); omega)) (by first | omega | (dsimp only; omega) | (have := Cp (d.tmod 3 + 3 + k); omega))) ?_
   refine Gt (Ah GD rfl) ?_
   refine AT (AK ((AG.l2.comp (AU.arr (n := 6) Ak.fl (by first | omega | (dsimp only; omega) | (have := Cp (d.tmod 3 + 3 + k); omega)) (by first | omega | (dsimp only; omega) | (have := Cp (d.tmod 3 + 3 + k); omega)))).comp Ak.l5) rfl rfl rfl C9 rfl (.t (.t .h))) ?_
   refine Gn (.t5 1 2 4 7 18) (Be (AX (Aj (AA (AJ ?_)))))
   refine Gt (Au rfl rfl (IntWalk.i64_in _ (by first | omega | (dsimp only; omega) | (have := Cp (d.tmod 3 + 3 + k); omega)))) ?_
   refine Gm rfl ?_
   refine AQ (AB (.t5 1 2 4 7 18) ?_)
   refine Bw (k + 1) ((s.1.Cz k { s.1.AN.at k with Bx := 0 }, s.2)) _ ?_ ?_ (.t5 7 18 1 2 4) (.cons _ (.refl _))
   · have hrs : AE.EH d k s = _ := ((AW c3).trans (BB c4))
     have hrg := AE.FR (draw := d) hI14 hI15 hI11 (by omega)
     rw [hrs] at hrg
     exact ⟨by omega, by omega, by rw [AE.Hy hI11, ← hI13, hrs], hrg.1, hrg.2.1, (by have := hrg.2.2; omega), (by first | assumption | (have hso : (AE.B9 s.1 k ((s.1.AN.at k).Bx - 1) (AE.Lp d k)).out.length = 1 := rfl; (try dsimp only at *); simp only [List.length_append] at *; omega))⟩
   · omega
  have c4p := kz c4
  have hsf := AE.Kr (b := k) (n := AE.Lp d k) hI14 hI15 (Bx := ((s.1.AN.at k).Bx - 1)) hf0.1 hf0.2 c4p.1
  have hht := AE.LJ (draw := d) hI11
  refine Aa ?_
  refine AB (.t7 1 2 4 7 8 10 18) ?_
  refine AA (Gs (Gm rfl ?_))
  refine Gt (Sw rfl rfl (by first | omega | (dsimp only; omega) | (have := Cp (d.tmod 3 + 3 + k); omega))) ?_
  refine Gt (Au rfl rfl (IntWalk.i64_in _ (by first | omega | (dsimp only; omega) | (have := Cp (d.tmod 3 + 3 + k); omega)))) ?_
  refine Gm rfl ?_
  refine Gt (Au rfl rfl (IntWalk.i64_in _ (by first | omega | (dsimp only; omega) | (have := Cp (d.tmod 3 + 3 + k); omega)))) ?_
  refine Gt (Sw rfl rfl (by first | omega | (dsimp only; omega) | (have := Cp (d.tmod 3 + 3 + k); omega))) ?_
  refine Gt (Au rfl rfl (IntWalk.i64_in _ (by first | omega | (dsimp only; omega) | (have := Cp (d.tmod 3 + 3 + k); omega)))) ?_
  refine Ga rfl (Gn (.t8 1 2 4 7 8 10 11 18) (Gs (Gt (AZ rfl BU .m2 (AU.id AG.fl.len AG.fl.one) rfl) (Gm rfl (Gt (BC US UD rfl (.cons Ac.l0 rfl rfl rfl (.cons Ac.l1 rfl rfl rfl .nil))) ?_)))))
  refine B3 rfl rfl rfl (fun b4 => ?_)
  refine Ga rfl (Gn (.t8 1 2 4 7 10 11 12 18) (Gs (Gm rfl (Gm rfl (Gm rfl (Gt (BC Nf Ib rfl (.cons Ing.Event.l0 rfl rfl rfl (.cons Ing.Event.l3 rfl rfl rfl (.cons Ing.Event.l5 rfl rfl rfl .nil)))) ?_))))))
  refine Dn Ing.Event.enc 56 16 ?_
  refine Ai rfl OZ (.c rfl (.c rfl .n)) (.c (.t .h) (.c .h .n)) (CL _ ⟨s.1, k, []⟩ _ { AE.Fj 14 with other := ((s.1.AN.at k).Bx - 1), n := AE.Lp d k } rfl (show 0 ≤ k ∧ k < 6 by omega) (show ((s.1.AN.at k).Bx - 1) < 6 by omega) (Nat.zero_le _)) (fun v3 B hv => ?_)
  obtain ⟨y4, rfl, y5, rfl⟩ := hv
  refine Gn (.t8 1 2 4 7 10 11 12 18) (Ao ?_)
  refine BD (N := 16) [0, 0, 0, 0, 12, 28, 60, 0, 252, 508, 1, 1025, 3073, 8191, 16383, 32767] mix (by kernel_rfl) rfl ?_
  refine Pf 0 rfl (AF rfl) (Pf 1 rfl (AF rfl) (Pf 2 rfl (AF rfl) (Pf 3 rfl (Ah Bn rfl) ?_)))
  refine Pf 4 rfl (AR C4 rfl rfl (by first | omega | (dsimp only; omega) | (have := Cp (d.tmod 3 + 3 + k); omega)) (by first | omega | (dsimp only; omega) | (have := Cp (d.tmod 3 + 3 + k); omega))) ?_
  refine Pf 5 rfl (Ah Jm rfl) ?_
  refine Pf 6 rfl (AH rfl A4 .m4 ((AG.l2.comp (AU.arr (n := 6) Ak.fl (by first | omega | (dsimp only; omega) | (have := Cp (d.tmod 3 + 3 + k); omega)) (by first | omega | (dsimp only; omega) | (have := Cp (d.tmod 3 + 3 + k); omega)))).comp Ak.l4) rfl rfl) ?_
  refine Pf 7 rfl (AF rfl) ?_
  refine Pf 8 rfl (FK rfl rfl (IntWalk.i64_in _ (by first | omega | (dsimp only; omega) | (have := Cp (d.tmod 3 + 3 + k); omega)))) ?_
  refine Pf 9 rfl (Lg rfl rfl) (Pf 10 rfl (BV rfl) (Pf 11 rfl (Ah A8 rfl) (Pf 12 rfl (Ah Bn rfl) ?_)))
  refine Pf 13 rfl (AR C4 rfl rfl (by first | omega | (dsimp only; omega) | (have := Cp (d.tmod 3 + 3 + k); omega)) (by first | omega | (dsimp only; omega) | (have := Cp (d.tmod 3 + 3 + k); omega))) ?_
  refine Pf 14 rfl (Ah Jm rfl) ?_
  refine An 15 rfl (by kernel_rfl) ?_
  refine AT (AK (((Ac.l0.comp AG.l2).comp (AU.arr (n := 6) Ak.fl (by first | omega | (dsimp only; omega) | (have := Cp (d.tmod 3 + 3 + k); omega)) (by first | omega | (dsimp only; omega) | (have := Cp (d.tmod 3 + 3 + k); omega)))).comp Ak.l4) rfl rfl rfl C9 rfl .h) ?_
  refine BM rfl ⟨?_, ?_⟩
  · exact (Pk (Pk (Pk (Pk (Pk (Pk (Pk (Pk (Pk (Pk (Pk (Pk (Pk (Pk (Pk Aq)))))))))))))))
  refine A3 (by kernel_rfl) ?_
  refine AB (.t7 1 2 4 7 10 12 18) ?_
  refine AA (Ao ?_)
  have hl1 : y4.len = 1 := y5
  refine AJ (Gm rfl (Gm rfl (Gt (BV rfl) (Gt (Ah CG rfl) (Gt (AH rfl Dg .m0 Ac.l2 rfl rfl) ?_)))))
  refine Ca Ing.Event.fl rfl Tryz.underlying53 N8 Ib rfl Wf (by decide) (by decide) rfl rfl (fun w hS => Src.EG Tryz.underlying53 ((Kn.own .m1) w hS)) (by (try dsimp only at *); omega) (fun _ => (.t (.t (.t .h)))) (fun h6 h6l h6z => ?_)
  refine Ga rfl (Gn (.t7 1 2 4 7 10 12 18) (Gs (Gm rfl (Gt (BV rfl) (Gt (Ah A8 rfl) (Gt (AZ rfl BU .m0 Ac.l0 rfl) ?_))))))
  refine AT (AK (AU.id AG.fl.len AG.fl.one) rfl rfl rfl Dm rfl (.t (.t (.t (.t .h))))) ?_
  refine Gn (.t6 1 2 4 7 10 18) (Gs (Gm rfl (Gt (Ah Bn rfl) ?_)))
  refine Gt (AR C4 rfl rfl (by first | omega | (dsimp only; omega) | (have := Cp (d.tmod 3 + 3 + k); omega)) (by first | omega | (dsimp only; omega) | (have := Cp (d.tmod 3 + 3 + k); omega))) ?_
  refine Gt (Ah Jm rfl) ?_
  refine Gt (AH rfl A4 .m4 ((AG.l2.comp (AU.arr (n := 6) Ak.fl (by first | omega | (dsimp only; omega) | (have := Cp (d.tmod 3 + 3 + k); omega)) (by first | omega | (dsimp only; omega) | (have := Cp (d.tmod 3 + 3 + k); omega)))).comp Ak.l4) rfl rfl) ?_
  refine Gt (Af rfl rfl) (Gn (.t7 1 2 4 7 10 18 102) ?_)
  refine Gc (fun c5 => ?_) (fun c5 => ?_)
  ·
   have c5p := kz c5
   refine Gs (Ga rfl (Gn (.t6 1 2 4 7 10 18) (Gs (Gt (AZ rfl BU .m4 (AU.id AG.fl.len AG.fl.one) rfl) (Gm rfl ?_)))))
   refine BE rfl cL (.c rfl (.c rfl .n)) .n (OG (AE.B9 s.1 k ((s.1.AN.at k).Bx - 1) (AE.Lp d k)).w ((s.1.AN.at k).Bx - 1) hsf) (fun w hS => gl0.pull gm0 hS .n) (fun v7 B hv => ?_)
   obtain ⟨y8, rfl, y9, rfl⟩ := hv
   refine Gm rfl (Gt (AM rfl rfl) (Gt (AM rfl rfl) ?_))
   refine AT (AK (AU.id AG.fl.len AG.fl.one) rfl rfl rfl Dm rfl (.t (.t (.t (.t (.t .h)))))) ?_
   refine Ga rfl (Gn (.t6 1 2 4 7 13 18) ?_)
   have hl2 : y8.len ≤ 12 := by rw [y9]; exact (AE.P8 hsf).2.2
   refine AJ (Gm rfl (Gm rfl ?_))
   refine Ca Ing.Event.fl rfl Tryz.underlying53 N8 Ib rfl Wf (by decide) (by decide) rfl rfl (fun w hS => Src.EG Tryz.underlying53 ((Kn.own .m0) w hS)) (by (try dsimp only at *); omega) (fun _ => (.t (.t (.t (.t .h))))) (fun h11 h11l h11z => ?_)
   refine Ga rfl ?_
   refine AQ (AB (.t5 1 2 4 7 18) ?_)
   refine AV (AA (AJ ?_))
   refine Gt (Au rfl rfl (IntWalk.i64_in _ (by first | omega | (dsimp only; omega) | (have := Cp (d.tmod 3 + 3 + k); omega)))) ?_
   refine Gm rfl ?_
   refine AQ (AB (.t5 1 2 4 7 18) ?_)
   refine Bw (k + 1) (((AE.Hm (AE.B9 s.1 k ((s.1.AN.at k).Bx - 1) (AE.Lp d k)).w ((s.1.AN.at k).Bx - 1)).w, (s.2 ++ (AE.B9 s.1 k ((s.1.AN.at k).Bx - 1) (AE.Lp d k)).out) ++ (AE.Hm (AE.B9 s.1 k ((s.1.AN.at k).Bx - 1) (AE.Lp d k)).w ((s.1.AN.at k).Bx - 1)).out)) _ ?_ ?_ (.t5 7 18 1 2 4) (.cons _ (.cons _ (.cons _ (.cons _ (.refl _)))))
   · have hrs : AE.EH d k s = _ := ((AW c3).trans ((AW c4).trans (BB c5)))
     have hrg := AE.FR (draw := d) hI14 hI15 hI11 (by omega)
     rw [hrs] at hrg
     exact ⟨by omega, by omega, by rw [AE.Hy hI11, ← hI13, hrs], hrg.1, hrg.2.1, (by have := hrg.2.2; omega), (by first | assumption | (have hso : (AE.B9 s.1 k ((s.1.AN.at k).Bx - 1) (AE.Lp d k)).out.length = 1 := rfl; (try dsimp only at *); simp only [List.length_append] at *; omega))⟩
   · omega
  have c5p := kz c5
  refine Aa ?_
  refine AB (.t5 1 2 4 7 18) ?_
  refine AV (AA (AJ ?_))
  refine Gt (Au rfl rfl (IntWalk.i64_in _ (by first | omega | (dsimp only; omega) | (have := Cp (d.tmod 3 + 3 + k); omega)))) ?_
  refine Gm rfl ?_
  refine AQ (AB (.t5 1 2 4 7 18) ?_)
  refine Bw (k + 1) (((AE.B9 s.1 k ((s.1.AN.at k).Bx - 1) (AE.Lp d k)).w, s.2 ++ (AE.B9 s.1 k ((s.1.AN.at k).Bx - 1) (AE.Lp d k)).out)) _ ?_ ?_ (.t5 7 18 1 2 4) (.cons _ (.cons _ (.cons _ (.refl _))))
  · have hrs : AE.EH d k s = _ := ((AW c3).trans ((AW c4).trans (AW c5)))
    have hrg := AE.FR (draw := d) hI14 hI15 hI11 (by omega)
    rw [hrs] at hrg
    exact ⟨by omega, by omega, by rw [AE.Hy hI11, ← hI13, hrs], hrg.1, hrg.2.1, (by have := hrg.2.2; omega), (by first | assumption | (have hso : (AE.B9 s.1 k ((s.1.AN.at k).Bx - 1) (AE.Lp d k)).out.length = 1 := rfl; (try dsimp only at *); simp only [List.length_append] at *; omega))⟩
  · omega
 have c2p := kz c2
 obtain rfl : k = 6 := by omega
 refine Be (AX (AX (Aj ?_)))
 refine AB (.t3 2 4 7) ?_
 refine AA (Gs (Gt (AZ rfl BU .m1 (AU.id AG.fl.len AG.fl.one) rfl) (Gm rfl ?_)))
 refine AT (AK (AU.id AG.fl.len AG.fl.one) rfl rfl rfl Dm rfl (.t (.t .h))) ?_
 refine Ga rfl (Ga rfl (Gn (.t3 4 5 6) (Ab ?_)))
 refine AY rfl (.cell rfl .m2 (.inl ⟨(by rw [AG.fl.len]; exact BU), rfl⟩) (.tmp rfl (.tmp rfl .n))) ?_
 intro w1 hS
 have hS := (hS.perm (As.perm (.c .h .n))).A1
 have hq : AE.CS X d = ((AE.DR X d 6).1, (AE.DR X d 6).2, 0) := AW c1
 have hs6 : s = AE.DR X d 6 := hI13
 rw [← hs6] at hq
 refine ⟨_, ⟨h, ?hv, ?hl, ?hB⟩, hS⟩
 case hv => rw [hq]; (try rfl)
 case hl => rw [hq]; exact hI17
 case hB => rw [hq]; (try rfl)
theorem EK (p : Aw) (s : Ap) (hs : s.length ≤ 9000000000000000000) (w : World) : Ef Tryz.prog 62 #[.agg p.enc.toArray, BT s] w fun v w' => v = .tuple #[.agg (Aw.enc ⟨p.wait, (Page.send p s).1.shown, (Page.send p s).1.B7, (Page.send p s).1.ring, (Page.send p s).1.cut⟩).toArray, .int .i64 (Page.send p s).2] ∧ CA w w' := by
 refine Al [] [] Tryz.func62 rfl rfl rfl (St.start w []) ?_
 refine Gs ?_
 refine B3 rfl rfl rfl (fun b1 => ?_)
 refine BF rfl W5 rfl (fun b2 => ?_)
 refine Ga rfl (Gn (.t3 1 2 4) (Ao (Ae (Gs (Gt (AZ rfl Cw .m1 (AU.id Aw.fl.len Aw.fl.one) rfl) ?_)))))
 refine BA rfl Zl (.c rfl .n) (fun w hS => Gr _ w) ?_
 refine Gt (BX rfl) (Ga rfl (Gn (.t4 1 2 4 6) ?_))
 refine Gc (fun c1 => ?_) (fun c1 => ?_)
 ·
  refine Gs (Gt (AZ rfl Cw .m1 (AU.id Aw.fl.len Aw.fl.one) rfl) ?_)
  refine AT (AK (AU.id Aw.fl.len Aw.fl.one) rfl rfl rfl Fc rfl .h) ?_
  refine Ga rfl (Gn (.t2 4 5) (Ab (AS (AD ?_))))
  refine AY rfl (.cell rfl .m0 (.inl ⟨(by rw [Aw.fl.len]; exact Cw), rfl⟩) (.tmp rfl .n)) ?_
  intro w1 hS; refine ⟨?_, hS.Am⟩; simp only [Page.send, Page.put, Page.of, c1, ↓reduceIte, Bool.false_eq_true]; rfl
 have c1p := kz c1
 have hg := (Page.HI p).1 (by simpa using c1)
 refine Gs (Gt (Ah LC rfl) (Gt (AH rfl Dh .m1 Aw.l4 rfl rfl) (Ga rfl (Gn (.t4 1 2 4 11) ?_))))
 refine Gc (fun c2 => ?_) (fun c2 => ?_)
 ·
  refine Gs (Gt (AZ rfl Cw .m1 (AU.id Aw.fl.len Aw.fl.one) rfl) ?_)
  refine AT (AK (AU.id Aw.fl.len Aw.fl.one) rfl rfl rfl Fc rfl .h) ?_
  refine Ga rfl (Gn (.t2 4 5) (Ab (AS (AD ?_))))
  refine AY rfl (.cell rfl .m0 (.inl ⟨(by rw [Aw.fl.len]; exact Cw), rfl⟩) (.tmp rfl .n)) ?_
  intro w1 hS; refine ⟨?_, hS.Am⟩; rw [show Page.send p s = (Page.of p, 6) from by simp only [Page.send, c1, c2, ↓reduceIte, Bool.false_eq_true]]; rfl
 have c2p := kz c2
 refine Gs (Gm rfl (Gt (BG rfl Tryz.underlying9 rfl) (Gt (Ah Jj rfl) (Gt (AH rfl CO .m1 Aw.l3 rfl rfl) (Gt (BG rfl Tryz.underlying9 rfl) ?_)))))
 refine Gt (FK rfl rfl (IntWalk.i64_in _ (by first | omega | (simp at *; omega)))) ?_
 refine Gt (Ci rfl rfl) (Ga rfl (Gn (.t4 1 2 4 15) ?_))
 refine Gc (fun c3 => ?_) (fun c3 => ?_)
 ·
  refine Gs (Gt (Ah LC rfl) ?_)
  refine AT (AK Aw.l4 rfl rfl rfl KX rfl (.t .h)) ?_
  refine Gn (.t2 2 4) (Gs (Gt (AZ rfl Cw .m1 (AU.id Aw.fl.len Aw.fl.one) rfl) ?_))
  refine AT (AK (AU.id Aw.fl.len Aw.fl.one) rfl rfl rfl Fc rfl .h) ?_
  refine Ga rfl (Gn (.t2 4 5) (Ab (AS (AD ?_))))
  refine AY rfl (.cell rfl .m0 (.inl ⟨(by rw [Aw.fl.len]; exact Cw), rfl⟩) (.tmp rfl .n)) ?_
  intro w1 hS; refine ⟨?_, hS.Am⟩; simp only [Page.send, Page.put, Page.of, c1, c2, c3, ↓reduceIte, Bool.false_eq_true]; rfl
 have c3p := kz c3
 refine Aa ?_
 refine AB (.t3 1 2 4) ?_
 refine AV (AA (Gs (Gt (Ah Jj rfl) (Gt (AH rfl CO .m1 Aw.l3 rfl rfl) (Gm rfl ?_)))))
 refine Gt (CT rfl rfl (by first | omega | (simp at *; omega))) ?_
 refine Gt (Ah Jj rfl) ?_
 refine AT (AK Aw.l3 rfl rfl rfl Ey rfl (.t .h)) ?_
 refine Gn (.t2 2 4) (Gs (Gt (AZ rfl Cw .m1 (AU.id Aw.fl.len Aw.fl.one) rfl) ?_))
 refine AT (AK (AU.id Aw.fl.len Aw.fl.one) rfl rfl rfl Fc rfl .h) ?_
 refine Ga rfl (Gn (.t2 4 5) (Ab ?_))
 refine AY rfl (.cell rfl .m0 (.inl ⟨(by rw [Aw.fl.len]; exact Cw), rfl⟩) (.tmp rfl .n)) ?_
 intro w1 hS; refine ⟨?_, hS.Am⟩; simp only [Page.send, Page.put, Page.of, c1, c2, c3, ↓reduceIte, Bool.false_eq_true]; rfl
theorem Hg (b : Nat) (m : Int) (h0 : 0 < m) (h1 : m ≤ 281474976710656) : JL Tryz.prog 186 #[.pointer (some ⟨b, 0, none⟩), .int .i64 m] [Ad.box b 107 (DQ.enc ⟨some ⟨b, 0, none⟩, ⟨none, 0, 0⟩⟩)] (fun v B => ∃ h', v = .tuple #[] ∧ h'.Z ∧ h'.len = 0 ∧ B = [Ad.box b 107 (DQ.enc ⟨some ⟨b, 0, none⟩, h'⟩), Ad.own h' 5 1 (([] : Ap).flatMap DO)]) := by
 intro w hS0
 refine Al _ _ Tryz.func186 rfl rfl rfl (hS0) ?_
 refine Ao ?_
 refine BD (N := 16) [0, 1, 3, 7, 15, 31, 0, 127, 255, 0, 512, 1536, 3584, 7680, 16383, 32767] mix (by kernel_rfl) rfl ?_
 refine Pf 0 rfl (AF rfl) (Pf 1 rfl (BV rfl) (Pf 2 rfl (Ah Eo rfl) (Pf 3 rfl (AH rfl H8 .m0 DQ.l1 rfl rfl) (Pf 4 rfl (Lj rfl Tryz.underlying105 rfl) ?_))))
 refine Pf 5 rfl (Wj rfl rfl (IntWalk.i64_in _ (by first | omega | (dsimp only; omega)))) ?_
 refine Pf 6 rfl (AF rfl) ?_
 refine Pf 7 rfl (Au rfl rfl (IntWalk.i64_in _ (by first | omega | (dsimp only; omega)))) ?_
 refine Pf 9 rfl (AF rfl) (Pf 10 rfl (BV rfl) (Pf 11 rfl (Ah Eo rfl) (Pf 12 rfl (AH rfl H8 .m0 DQ.l1 rfl rfl) (Pf 13 rfl (Ar rfl Tryz.underlying105 rfl) ?_))))
 refine An 8 rfl (by kernel_rfl) ?_
 refine Ry (ps := #[3]) rfl Tryz.func193 (by kernel_rfl) (by kernel_rfl) (by kernel_rfl) (by kernel_rfl) Tryz.underlying105 Vk rfl (by first | omega | (dsimp only; omega)) (by first | omega | (dsimp only; omega)) (fun b1 b1c b1x b1l b1k => ?_)
 refine Bp rfl ⟨?_, ?_⟩
 · exact (Po rfl (Ar rfl Tryz.underlying105 rfl) rfl rfl (Po rfl (AH rfl H8 .m1 DQ.l1 rfl rfl) rfl rfl (Po rfl (Ah Eo rfl) rfl rfl (Po rfl (BV rfl) rfl rfl (Po rfl (AF rfl) rfl rfl (Pk (Pk (Pk (Pk (Pk (Pk (Pk (Pk Aq)))))))))))))
 refine An 14 rfl (by kernel_rfl) ?_
 refine KM V7 rfl Tryz.underlying105 Vk rfl rfl (by first | omega | (dsimp only; omega)) (by first | omega | (dsimp only; omega)) (fun _ => .h) ?_
 refine Bp rfl ⟨?_, ?_⟩
 · exact (Pk (Pk (Pk (Pk (Pk (Pk (Pk (Pk (Pk (Pk (Pk (Pk (Pk Aq)))))))))))))
 refine Pf 15 rfl (A0 rfl) ?_
 refine A3 (by kernel_rfl) ?_
 refine AB (.t2 0 4) ?_
 refine AA (Gs (Gm rfl (Gm rfl (Gt (BV rfl) (Gt (Ah Eo rfl) (Gt (AH rfl H8 .m1 DQ.l1 rfl rfl) (Gt (Wd rfl Tryz.underlying105 Vk rfl rfl) ?_)))))))
 refine Gn (.t2 0 4) (AJ (Gm rfl (Gm rfl (Gt (BV rfl) (Gt (Ah Eo rfl) ?_)))))
 refine AT (AK DQ.l1 rfl rfl rfl UJ rfl (.t .h)) ?_
 refine AQ ?_
 refine Bj rfl .n ?_
 intro w1 hS
 have hS := (hS.perm (As.perm (.c (.t .h) (.c .h .n)))).A1
 exact ⟨_, ⟨_, rfl, ⟨by intro a h; cases h; rfl, fun _ => by dsimp only at b1k ⊢; omega⟩, rfl, rfl⟩, hS⟩
theorem Hl (b : Nat) (m : Int) (h0 : 0 ≤ m) (h1 : m ≤ 281474976710656) : JL Tryz.prog 175 #[.pointer (some ⟨b, 0, none⟩), .int .i64 m] [Ad.box b 107 (DQ.enc ⟨none, ⟨none, 0, 0⟩⟩)] (fun v B => ∃ h', v = .tuple #[] ∧ h'.Z ∧ h'.len = 0 ∧ B = [Ad.box b 107 (DQ.enc ⟨some ⟨b, 0, none⟩, h'⟩), Ad.own h' 5 1 (([] : Ap).flatMap DO)]) := by
 intro w hS0
 refine Al _ _ Tryz.func175 rfl rfl rfl (hS0) ?_
 refine Gs (Gm rfl ?_)
 refine Ai rfl ZW (.c rfl .n) (.c .h .n) (C6 _ _ _ (.inl rfl)) (fun v1 B hv => ?_)
 obtain ⟨rfl, rfl⟩ := hv
 refine Gn (.t2 0 1) (CD (Gm rfl (Gt (A9 rfl rfl) (Gn (.t3 0 1 7) ?_))))
 refine D3 rfl (by simp; omega) ?_
 refine Aa ?_
 refine AB (.t2 0 1) ?_
 refine AA (Ao ?_)
 refine BD (N := 13) [0, 1, 3, 7, 15, 0, 32, 96, 224, 480, 1023, 0, 4095] mix (by kernel_rfl) rfl ?_
 refine Pf 0 rfl (AF rfl) (Pf 1 rfl (BV rfl) (Pf 2 rfl (Ah Eo rfl) (Pf 3 rfl (AH rfl H8 .m0 DQ.l1 rfl rfl) (Pf 4 rfl (Lj rfl Tryz.underlying105 rfl) (Pf 5 rfl (AF rfl) (Pf 6 rfl (BV rfl) (Pf 7 rfl (Ah Eo rfl) ?_)))))))
 refine Pf 8 rfl (AH rfl H8 .m0 DQ.l1 rfl rfl) (Pf 9 rfl (Ar rfl Tryz.underlying105 rfl) ?_)
 refine Pf 10 rfl (FK rfl rfl (IntWalk.i64_in _ (by first | omega | (dsimp only; omega)))) ?_
 refine Pf 11 rfl (AF rfl) (Pf 12 rfl (A9 rfl rfl) ?_)
 refine A3 (by kernel_rfl) ?_
 refine AB (.t3 0 1 21) ?_
 refine AA ?_
 refine Gc (fun c1 => ?_) (fun c1 => ?_)
 ·
  have c1p := kz c1
  refine AJ (Gm rfl (Gm rfl ?_))
  refine Ai rfl bW (.c rfl (.c rfl .n)) (.c .h .n) (Hg _ _ (by dsimp only at *; omega) h1) (fun v2 B hv => ?_)
  obtain ⟨y3, rfl, y4, y5, rfl⟩ := hv
  refine AQ ?_
  refine Bj rfl .n ?_
  intro w1 hS
  have hS := (hS.perm (As.perm (.c .h (.c .h .n)))).A1
  exact ⟨_, ⟨_, rfl, by assumption, by assumption, rfl⟩, hS⟩
 refine Aa ?_
 refine Bj rfl .n ?_
 intro w1 hS
 have hS := hS.Cl 5 1
 have hS := (hS.perm (As.perm (.c (.t .h) (.c .h .n)))).A1
 exact ⟨_, ⟨_, rfl, Hd.Ul, rfl, rfl⟩, hS⟩
theorem Je (s : Ap) (hs : s.length ≤ 70368744000000) (w : World) : Ef Tryz.prog 158 #[BT s, BT [255], BT [255, 255], .int .i64 (-1)] w fun v w' => v = BT (Page.escape s) ∧ CA w w' := by
 have hcl := List.count_le_length (a := (255 : UInt8)) (l := s)
 refine Al [] [] Tryz.func158 rfl rfl rfl (St.start w []) ?_
 refine Gs (Ga rfl (Gn (.t4 0 1 2 3) (CD (Gm rfl (Gm rfl (Gt (Bu rfl rfl) (Gm rfl ?_)))))))
 refine Bc 19 rfl rfl (fun q => AF rfl) (Bc 19 rfl rfl (fun q => Af (cF rfl q) rfl) ?_)
 refine Gt (BS rfl rfl (fun h => by rw [h]; rfl)) ?_
 refine Gn (.t5 0 1 2 3 22) ?_
 refine D3 rfl (by simp) ?_
 refine Aa ?_
 refine AB (.t4 0 1 2 3) ?_
 refine AA (CD (Gm rfl (Gm rfl ?_)))
 refine BA rfl Yo (.c rfl (.c rfl .n)) (fun w hS => HQ _ 255 w) ?_
 refine Ga rfl (Gn (.t5 0 1 2 3 9) (Gs (Gm rfl (Gt (Af rfl rfl) (Gn (.t6 0 1 2 3 9 28) ?_)))))
 refine Gc (fun c1 => ?_) (fun c1 => ?_)
 ·
  have c1p := kz c1
  refine Gs (Gm rfl (Ga rfl (Gn (.t1 8) (Ab (AD ?_)))))
  refine AY rfl (.tmp rfl .n) ?_
  intro w1 hS; refine ⟨?_, hS.Am⟩; have e : s.count 255 = 0 := by simp at c1; omega
  rw [Page.Mb _ e]; rfl
 have c1p := kz c1
 refine Gs (Gm rfl (Gt (A9 rfl rfl) (Gm rfl (Bc 32 rfl rfl (fun q => AF rfl) (Bc 32 rfl rfl (fun q => AF rfl) (Bc 32 rfl rfl (fun q => A9 (cF rfl q) (cF rfl q)) ?_))))))
 refine Gt (BS rfl rfl (fun h => by rw [h]; rfl)) ?_
 refine Gn (.t6 0 1 2 3 9 36) ?_
 refine Gw rfl rfl ?_
 refine AJ (Gm rfl (Ga rfl (Gn (.t4 0 1 2 3) (Gs ?_))))
 refine BF rfl Uj rfl (fun b1 => ?_)
 refine Dn DO 5 1 ?_
 refine AQ (AA (Gs (Gm rfl (Gt (BG rfl Tryz.underlying9 rfl) (Gm rfl (Gm rfl (Gt (BG rfl Tryz.underlying9 rfl) ?_)))))))
 refine Gm rfl (Gt (BG rfl Tryz.underlying9 rfl) ?_)
 refine Gt (FK rfl rfl (IntWalk.i64_in _ (by (try simp only [List.length_cons, List.length_nil]); omega))) ?_
 refine Gt (Wj rfl rfl (IntWalk.i64_in _ (by (try simp only [List.length_cons, List.length_nil]); omega))) ?_
 refine Gt (Au rfl rfl (IntWalk.i64_in _ (by (try simp only [List.length_cons, List.length_nil]); omega))) ?_
 refine Ai rfl ab (.c rfl (.c rfl .n)) (.c (.t .h) .n) (Hl _ _ (by simp only [List.length_cons, List.length_nil]; omega) (by simp only [List.length_cons, List.length_nil]; omega)) (fun v1 B hv => ?_)
 obtain ⟨y2, rfl, y3, y4, rfl⟩ := hv
 refine Gn (.t5 0 1 2 3 10) (Gs (Ga rfl (AQ (AA (CD (Gm rfl (Gt (BG rfl Tryz.underlying9 rfl) ?_)))))))
 refine Gt (Ci rfl rfl) (Gn (.t7 0 1 2 3 10 11 51) ?_)
 refine Gw rfl (by simp) ?_
 refine Gs (Gm rfl (Gm rfl (Gn (.t7 0 1 2 10 11 52 53) (Ae ?_))))
 refine Bo (.t7 11 53 0 1 2 10 52) ?_
 refine Bg (.t .h) ?_
 refine Bg (.t .h) ?_
 refine Rk (fun (k : Int) (start : Int) (x : Ap) (p : Option Addr) (h : Hd) => Page.Qf s (s.count 255) k start x ∧ (p = none ∨ p = some ⟨b1, 0, none⟩) ∧ h.Z ∧ h.len = x.length) (fun (k : Int) (start : Int) (x : Ap) (p : Option Addr) (h : Hd) => ((s.count 255 : Int) - k).toNat) (fun (k : Int) (start : Int) (x : Ap) (p : Option Addr) (h : Hd) => [(11, .int .i64 start), (53, .int .i64 k)]) (fun (k : Int) (start : Int) (x : Ap) (p : Option Addr) (h : Hd) => [Ad.box b1 107 (DQ.enc ⟨p, h⟩), Ad.own h 5 1 (x.flatMap DO)]) (0) (0) ([]) (_) (_) ?_ rfl rfl (fun k start x p h hI1 => ?_)
 · exact ⟨Page.Qf.start rfl, .inr rfl, by assumption, by assumption⟩
 obtain ⟨hI11, hp, hz, hl⟩ := hI1; have hk0 := hI11.k0; have hs0 := hI11.s0; have hs1 := hI11.s1; have hxl := hI11.xl
 refine Gs (Gt (A9 rfl rfl) (AQ (AA (Ao ?_))))
 refine Gc (fun c2 => ?_) (fun c2 => ?_)
 ·
  have c2p := kz c2
  obtain ⟨i, hi, hlt, hR⟩ := hI11.idx (by omega)
  rw [← hi] at hR hlt
  refine Aa ?_
  refine AB (.t7 0 1 2 10 11 52 53) ?_
  refine AA (Ao (Ae (Gs (Gm rfl (Gm rfl (Gm rfl ?_))))))
  refine Gt (GY Tryz.underlying9 rfl rfl (by (try simp only [List.length_cons, List.length_nil]); omega) (by (try simp only [List.length_cons, List.length_nil]); omega)) ?_
  refine Gm rfl ?_
  refine BA rfl WA (.c rfl (.c rfl .n)) (fun w hS => FH _ 255 w) ?_
  refine Gt (Au rfl rfl (IntWalk.i64_in _ (by (try simp only [List.length_cons, List.length_nil]); omega))) ?_
  refine Ga rfl (Gn (.t8 0 1 2 10 11 12 52 53) (Gs (Gm rfl (Gm rfl (Gm rfl ?_)))))
  refine Gt (YY Tryz.underlying9 rfl rfl rfl (by (try simp only [List.length_cons, List.length_nil]); omega) (by (try simp only [List.length_cons, List.length_nil]); omega) (by (try simp only [List.length_cons, List.length_nil]); omega)) ?_
  refine Ai rfl PD (.c rfl (.c rfl .n)) (.c .h (.c .h .n)) (BK _ _ _ _ (by assumption) (by assumption) (by assumption) _ (by (try simp only [List.length_drop, List.length_take, List.length_append, List.length_cons, List.length_nil]); omega)) (fun v6 B hv => ?_)
  obtain ⟨y7, y8, rfl, y9, y10, y11, rfl⟩ := hv
  refine Gn (.t7 0 1 2 10 12 52 53) (Gs (Gm rfl ?_))
  refine Ai rfl PD (.c rfl (.c rfl .n)) (.c .h (.c .h .n)) (BK _ _ _ _ (by assumption) (by assumption) (by assumption) _ (by (try simp only [List.length_drop, List.length_take, List.length_append, List.length_cons, List.length_nil]); omega)) (fun v12 B hv => ?_)
  obtain ⟨y13, y14, rfl, y15, y16, y17, rfl⟩ := hv
  refine Gn (.t7 0 1 2 10 12 52 53) (AJ (Gm rfl (Gm rfl (Gt (BG rfl Tryz.underlying9 rfl) ?_))))
  refine Gt (Au rfl rfl (IntWalk.i64_in _ (by (try simp only [List.length_cons, List.length_nil]); omega))) ?_
  refine Ga rfl ?_
  refine AQ (AB (.t7 0 1 2 10 11 52 53) ?_)
  refine AV (AA (AJ ?_))
  refine Gt (Au rfl rfl (IntWalk.i64_in _ (by (try simp only [List.length_cons, List.length_nil]); omega))) ?_
  refine Gm rfl ?_
  refine AQ (AB (.t7 0 1 2 10 11 52 53) ?_)
  refine J9 (k + 1) _ _ _ _ ?_ ?_ (.t7 11 53 0 1 2 10 52) (.refl _)
  · exact ⟨hR, by assumption, by assumption, by assumption⟩
  · omega
 have c2p := kz c2
 refine Be (AX (AX (Aj ?_)))
 refine AB (.t3 0 10 11) ?_
 refine AA (Gs (Gm rfl (Gm rfl ?_)))
 refine Gt (GY Tryz.underlying9 rfl rfl (by (try simp only [List.length_cons, List.length_nil]); omega) (by (try simp only [List.length_cons, List.length_nil]); omega)) ?_
 refine Ai rfl PD (.c rfl (.c rfl .n)) (.c .h (.c .h .n)) (BK _ _ _ _ (by assumption) (by assumption) (by assumption) _ (by (try simp only [List.length_drop, List.length_take, List.length_append, List.length_cons, List.length_nil]); omega)) (fun v18 B hv => ?_)
 obtain ⟨y19, y20, rfl, y21, y22, y23, rfl⟩ := hv
 refine Gn (.t1 10) (Gs ?_)
 refine Ai rfl X4 (.c rfl .n) (.c .h (.c .h .n)) (Cr _ _ _ _ (by assumption) (by assumption) (by (try simp only [List.length_append, List.length_drop]); omega)) (fun v24 B hv => ?_)
 obtain ⟨rfl, rfl⟩ := hv
 refine Ga rfl (Gn (.t1 8) (Ab ?_))
 refine AY rfl (.tmp rfl .n) ?_
 intro w1 hS; refine ⟨?_, hS.Am⟩; rw [← hI11.done (by omega)]; rfl
theorem IQ (s : Ap) (hs : s.length ≤ 70368744000000) (w : World) : Ef Tryz.prog 126 #[BT s, BT [255], BT [255, 255]] w fun v w' => v = BT (Page.escape s) ∧ CA w w' := by
 refine Al [] [] Tryz.func126 rfl rfl rfl (St.start w []) ?_
 refine Gs (Ga rfl (Gn (.t3 0 1 2) (Gs (Gm rfl (Gm rfl (Gm rfl ?_))))))
 refine BA rfl aZ (.c rfl (.c rfl (.c rfl (.c rfl .n)))) (fun w hS => Je _ (by first | assumption | omega) w) ?_
 refine Ga rfl (Gn (.t1 6) (Ab ?_))
 refine AY rfl (.tmp rfl .n) ?_
 intro w1 hS; refine ⟨?_, hS.Am⟩; rfl
theorem LG (s : Ap) (hs : s.length ≤ 70368744000000) (w : World) : Ef Tryz.prog 98 #[BT s] w fun v w' => v = BT (Page.escape s) ∧ CA w w' := by
 refine Al [] [] Tryz.func98 rfl rfl rfl (St.start w []) ?_
 refine Gs (Ga rfl (Gn (.t1 0) (Gs (Gm rfl ?_))))
 refine BA rfl ax (.c rfl (.c rfl (.c rfl .n))) (fun w hS => IQ _ (by first | assumption | omega) w) ?_
 refine Ga rfl (Gn (.t1 2) (Ab ?_))
 refine AY rfl (.tmp rfl .n) ?_
 intro w1 hS; refine ⟨?_, hS.Am⟩; rfl
theorem M3 {t0 : Nat} (p : Aw) (qs : List Ap) (top : Int) (hs : ∀ s ∈ qs, s.length ≤ 70368744000000) : FJ Tryz.prog 83 #[.agg p.enc.toArray, .int .i64 top] [] (fun w => Rd w p.wait t0 1 (qs.flatMap A7) ∧ p.wait.len ≤ p.wait.cap) (fun v B => ((!Page.BZ p || decide (top < 0) || decide (200 < top)) = true ∧ v = .tuple #[.agg p.enc.toArray, .int .i64 2] ∧ B = []) ∨ ((!Page.BZ p || decide (top < 0) || decide (200 < top)) = false ∧ ∃ (T : Nat) (h' g : Hd) (zs : List Ap), v = .tuple #[.agg (Aw.enc ⟨h', (Page.Bb top qs (Page.of p)).1.shown, (Page.Bb top qs (Page.of p)).1.B7, (Page.Bb top qs (Page.of p)).1.ring, (Page.Bb top qs (Page.of p)).1.cut⟩).toArray, .int .i64 0] ∧ h'.len = (Page.Bb top qs (Page.of p)).2.length ∧ Z8 T h' (Page.Bb top qs (Page.of p)).2 t0 p.wait qs 9 g zs ∧ B = [Ad.own g 9 1 (zs.flatMap A7)])) := by
 intro w hS0 hH
 obtain ⟨r0, k0⟩ := hH
 have hl0 := r0.My DS (by decide)
 refine Al _ _ Tryz.func83 rfl rfl rfl (hS0) ?_
 refine Gs ?_
 refine B3 rfl rfl rfl (fun b1 => ?_)
 refine BF rfl W5 rfl (fun b2 => ?_)
 refine Ga rfl (Gn (.t3 1 2 4) (CD (Gt (AZ rfl Cw .m1 (AU.id Aw.fl.len Aw.fl.one) rfl) ?_)))
 refine BA rfl Zl (.c rfl .n) (fun w hS => Gr _ w) ?_
 refine Gt (BX rfl) (Gm rfl (Bc 10 rfl rfl (fun q => AF rfl) (Bc 10 rfl rfl (fun q => A9 (cF rfl q) rfl) ?_)))
 refine Gt (BS rfl rfl (fun h => by rw [h]; rfl)) ?_
 refine Gm rfl (Bc 14 rfl rfl (fun q => AF rfl) (Bc 14 rfl rfl (fun q => Ci (cF rfl q) rfl) ?_))
 refine Gt (BS rfl rfl (fun h => by rw [h]; rfl)) ?_
 refine Gn (.t4 1 2 4 17) ?_
 refine Gc (fun c1 => ?_) (fun c1 => ?_)
 ·
  refine Gs (Gt (AZ rfl Cw .m1 (AU.id Aw.fl.len Aw.fl.one) rfl) ?_)
  refine AT (AK (AU.id Aw.fl.len Aw.fl.one) rfl rfl rfl Fc rfl .h) ?_
  refine Ga rfl (Gn (.t2 4 5) (Ab (AD ?_)))
  refine AY rfl (.cell rfl .m0 (.inl ⟨(by rw [Aw.fl.len]; exact Cw), rfl⟩) (.tmp rfl .n)) ?_
  intro w1 hS
  have hS := (hS.perm (As.perm .n)).A1
  exact ⟨_, .inl ⟨c1, rfl, rfl⟩, hS⟩
 have c1p := kz c1
 have hgd : Page.BZ p = true ∧ 0 ≤ top ∧ top ≤ 200 := by simp at c1; exact ⟨c1.1.1, by omega, by omega⟩
 refine Aa ?_
 refine AB (.t3 1 2 4) ?_
 refine AA (Ao (Ae ?_))
 refine Bo (.t3 1 2 4) ?_
 refine Ez A7 9 1 ?_
 refine Bg (.t (.t .h)) ?_
 refine Bg (.t .h) ?_
 refine Xn (fun (rest : List Ap) (sh : Int) (ak : Bool) (ring : Ap) (ct : Bool) (T : Nat) (hx : Hd) (g : Hd) (zs : List Ap) => Page.FI top qs (Page.of p) rest hx ⟨sh, ak, ring, ct⟩ ∧ Z8 T hx rest t0 p.wait qs 9 g zs) (fun (rest : List Ap) (sh : Int) (ak : Bool) (ring : Ap) (ct : Bool) (T : Nat) (hx : Hd) (g : Hd) (zs : List Ap) => rest.length) (fun (rest : List Ap) (sh : Int) (ak : Bool) (ring : Ap) (ct : Bool) (T : Nat) (hx : Hd) (g : Hd) (zs : List Ap) => []) (fun (rest : List Ap) (sh : Int) (ak : Bool) (ring : Ap) (ct : Bool) (T : Nat) (hx : Hd) (g : Hd) (zs : List Ap) => [Ad.own g 9 1 (zs.flatMap A7), Ad.box b1 65 (Aw.enc ⟨hx, sh, ak, ring, ct⟩)]) (qs) (p.shown) (p.B7) (p.ring) (p.cut) (t0) (p.wait) (_) (_) ?_ rfl rfl (fun rest sh ak ring ct T hx g zs hI1 => ?_)
 · exact ⟨Page.FI.start hgd.1 hl0 hs, .inl ⟨rfl, rfl, rfl, rfl, rfl⟩⟩
 obtain ⟨hI11, hor⟩ := hI1; have hl := hI11.hl; have hn := hI11.n; have hr := hI11.ring; have hs0 := hI11.s0; have hs1 := hI11.s1; dsimp only at hr hs0 hs1
 refine CD (Gt (Ah Jl rfl) (Gt (AH rfl Fz .m1 Aw.l0 rfl rfl) (Gt (Ar rfl Tryz.underlying52 rfl) (Gt (Ci rfl rfl) (Gm rfl (Bm 23 rfl rfl (fun q => Ah QY rfl) (Bm 23 rfl rfl (fun q => AH (Bh rfl q) Dh .m1 Aw.l2 rfl rfl) ?_)))))))
 refine Bm 23 rfl rfl (fun q => BX (Bh rfl q)) (Gt (BJ rfl rfl (fun h => h)) (Gm rfl (Bm 28 rfl rfl (fun q => Ah LC rfl) (Bm 28 rfl rfl (fun q => AH (Bh rfl q) Dh .m1 Aw.l4 rfl rfl) (Bm 28 rfl rfl (fun q => BX (Bh rfl q)) (Gt (BJ rfl rfl (fun h => h)) (Gn (.t4 1 2 4 32) ?_)))))))
 refine Gc (fun c2 => ?_) (fun c2 => ?_)
 ·
  have c2p := kz c2
  have hc3 : 0 < rest.length ∧ ak = false ∧ ct = false := by simp at c2; exact ⟨by omega, c2.1.2, c2.2⟩
  obtain ⟨hc0, hak, hct⟩ := hc3
  obtain ⟨q, r, rfl⟩ := Bf.Tq (qs := rest) (by omega)
  refine Aa ?_
  refine AB (.t3 1 2 4) ?_
  refine AA (Ae (CD (Gm rfl (Gt (Ci rfl rfl) (Gm rfl (Bm 35 rfl rfl (fun q => Ah MB rfl) (Bm 35 rfl rfl (fun q => AH (Bh rfl q) A4 .m1 Aw.l1 rfl rfl) ?_)))))))
  refine Bm 35 rfl rfl (fun q => AF rfl) (Bm 35 rfl rfl (fun q => CM (Bh rfl q) (Bh rfl q)) (Gt (BJ rfl rfl (fun h => h)) (Gn (.t4 1 2 4 40) ?_)))
  refine Gc (fun c3 => ?_) (fun c3 => ?_)
  ·
   have c3p := kz c3
   refine Gs (Gt (Ah QY rfl) ?_)
   refine AT (AK Aw.l2 rfl rfl rfl KX rfl (.t .h)) ?_
   refine Gn (.t2 2 4) (Gs (Gt (AZ rfl Cw .m1 (AU.id Aw.fl.len Aw.fl.one) rfl) ?_))
   refine BA rfl Wl (.c rfl (.c rfl .n)) (fun w hS => EK _ _ (by first | omega | (have h1 := Page.HX ((q :: r).getD (0 : Int).toNat []); have h2 := hI11.len ((q :: r).getD (0 : Int).toNat []) (by simp); simp only [List.length_append, List.length_cons, List.length_nil] at *; omega)) w) ?_
   refine Gm rfl (Gt (AM rfl rfl) (Gt (AM rfl rfl) ?_))
   refine AT (AK (AU.id Aw.fl.len Aw.fl.one) rfl rfl rfl Fc rfl (.t .h)) ?_
   refine Gn (.t2 2 4) (Be (AX ?_))
   refine J1 rfl ?_
   refine AX (Aj (AA (Gs (Gt (AZ rfl Cw .m1 (AU.id Aw.fl.len Aw.fl.one) rfl) ?_))))
   refine AT (AK (AU.id Aw.fl.len Aw.fl.one) rfl rfl rfl Fc rfl (.t (.t .h))) ?_
   refine Ga rfl (Gn (.t2 4 5) (Ab ?_))
   refine AY rfl (.cell rfl .m2 (.inl ⟨(by rw [Aw.fl.len]; exact Cw), rfl⟩) (.tmp rfl .n)) ?_
   intro w1 hS
   have hS := (hS.perm (As.perm (.c .h .n))).A1
   have e := hI11.asks hak hct c3
   exact ⟨_, .inr ⟨c1, T, hx, g, zs, (by first | (rw [e]; done) | (rw [e]; rfl)), (by rw [e]; exact hI11.hl), (by rw [e]; exact hor), rfl⟩, hS⟩
  have c3p := kz c3
  refine Aa ?_
  refine AB (.t3 1 2 4) ?_
  refine AA (Gs (Gt (Ah Jl rfl) (Gt (AH rfl Fz .m1 Aw.l0 rfl rfl) ?_)))
  refine Gt (Br JH (by decide) (Zt hor (Kn.I7 r0) (Kn.own .m0)) rfl rfl (by omega) (by omega)) ?_
  refine Gt (Dd rfl CO (Zt hor (Kn.I7 r0) (Kn.own .m0)) (by simp)) ?_
  refine Ga rfl (Gn (.t4 1 2 4 6) (Gs (Gt (Ah Jl rfl) (Gt (AH rfl Fz .m1 Aw.l0 rfl rfl) ?_))))
  refine Gt (SY Tryz.underlying52 Ey rfl rfl (by decide) (by first | omega | (have h1 := Page.HX ((q :: r).getD (0 : Int).toNat []); have h2 := hI11.len ((q :: r).getD (0 : Int).toNat []) (by simp); simp only [List.length_append, List.length_cons, List.length_nil] at *; omega))) ?_
  refine BE rfl Vd (.c rfl .n) .n (Bv _ r (by simp only [List.length_cons] at *; omega)) (fun w hS => by have h := (Kn.cut (l := 1) (r := hx.len) DS (Zt hor (Kn.I7 r0) (Kn.own .m0)) (by omega) (Nat.le_refl _) (ba hor (VU.of k0) (VU.own .m0))) w hS; rw [show (((q :: r).take hx.len).drop 1) = r from by rw [List.take_of_length_le (by simp only [List.length_cons] at *; omega)]; rfl] at h; exact h) (fun v2 B hv => ?_)
  obtain ⟨y3, rfl, y4, rfl⟩ := hv
  refine Gt (Ah Jl rfl) ?_
  refine AT (AK Aw.l0 rfl rfl rfl No rfl (.t (.t .h))) ?_
  refine Gn (.t4 1 2 4 6) (Gs (Gt (Ah MB rfl) (Gt (AH rfl A4 .m2 Aw.l1 rfl rfl) ?_)))
  refine Gt (Au rfl rfl (IntWalk.i64_in _ (by first | omega | (have h1 := Page.HX ((q :: r).getD (0 : Int).toNat []); have h2 := hI11.len ((q :: r).getD (0 : Int).toNat []) (by simp); simp only [List.length_append, List.length_cons, List.length_nil] at *; omega)))) ?_
  refine Gt (LW rfl rfl) (Gt (Ah MB rfl) ?_)
  refine AT (AK Aw.l1 rfl rfl rfl C9 rfl (.t (.t .h))) ?_
  refine Gn (.t4 1 2 4 6) ?_
  refine BD (N := 9) [0, 0, 2, 6, 15, 31, 63, 63, 127] mix (by kernel_rfl) rfl ?_
  refine Pf 0 rfl (AZ rfl Cw .m2 (AU.id Aw.fl.len Aw.fl.one) rfl) (Pf 1 rfl (AF rfl) ?_)
  refine BQ 2 rfl rfl (by kernel_rfl) (L1 (LD (D5 cj (.c rfl .n) (fun w hS => LG _ (hI11.len _ (by simp)) w)))) ?_
  refine Pf 3 rfl (CT rfl rfl (by first | omega | (have h1 := Page.HX ((q :: r).getD (0 : Int).toNat []); have h2 := hI11.len ((q :: r).getD (0 : Int).toNat []) (by simp); simp only [List.length_append, List.length_cons, List.length_nil] at *; omega))) ?_
  refine BQ 4 rfl rfl (by kernel_rfl) (L1 (LD (D5 Wl (.c rfl (.c rfl .n)) (fun w hS => EK _ _ (by first | omega | (have h1 := Page.HX ((q :: r).getD (0 : Int).toNat []); have h2 := hI11.len ((q :: r).getD (0 : Int).toNat []) (by simp); simp only [List.length_append, List.length_cons, List.length_nil] at *; omega)) w)))) ?_
  refine Pf 5 rfl (AF rfl) (Pf 6 rfl (AM rfl rfl) (Pf 7 rfl (AM rfl rfl) ?_))
  refine An 8 rfl (by kernel_rfl) ?_
  refine AT (AK (AU.id Aw.fl.len Aw.fl.one) rfl rfl rfl Fc rfl (.t (.t .h))) ?_
  refine BM rfl ⟨?_, ?_⟩
  · exact (Po rfl (AM rfl rfl) rfl rfl (Pk (Pk (Pk (Pk (Pk (Pk (Pk Aq))))))))
  refine A3 (by kernel_rfl) ?_
  refine AB (.t3 1 2 4) ?_
  refine AV ?_
  refine CU (.c .h (.c (.t .h) (.c (.t .h) .n))) ?_
  refine Cj ?_
  refine Uq (r) _ _ _ _ (9) _ _ (r) ?_ ?_ (.t3 1 2 4) (.refl _)
  · exact ⟨hI11.next hak hct c3 (by assumption) rfl, .inr ⟨rfl, rfl, rfl⟩⟩
  · simp only [List.length_cons]; omega
 refine Be (AX (AX (Aj ?_)))
 refine AB (.t2 2 4) ?_
 refine AA (Gs (Gt (AZ rfl Cw .m1 (AU.id Aw.fl.len Aw.fl.one) rfl) ?_))
 refine AT (AK (AU.id Aw.fl.len Aw.fl.one) rfl rfl rfl Fc rfl (.t (.t .h))) ?_
 refine Ga rfl (Gn (.t2 4 5) (Ab ?_))
 refine AY rfl (.cell rfl .m2 (.inl ⟨(by rw [Aw.fl.len]; exact Cw), rfl⟩) (.tmp rfl .n)) ?_
 intro w1 hS
 have hS := (hS.perm (As.perm (.c .h .n))).A1
 have e := hI11.aj c2
 exact ⟨_, .inr ⟨c1, T, hx, g, zs, (by first | (rw [e]; done) | (rw [e]; rfl)), (by rw [e]; exact hI11.hl), (by rw [e]; exact hor), rfl⟩, hS⟩
theorem Dl (b : Nat) (V : AO) (ls : Vector BI 4) (ev : List Ing.Event) (n m : Nat) (hF : AI.Fit (A5 V ls ev) n m) (hn : n ≤ 600000) (hm : m ≤ 600000) : FJ Tryz.prog 65 #[.pointer (some ⟨b, 0, none⟩)] [Ad.box b 101 (AO.enc V), Ad.D6 (CR 9 (AO.Az V) ls), Ad.own (AO.last V) 56 16 ((ev).flatMap Ing.Event.enc)] (fun w => (GV 2 Fl w ∧ 2 ∉ Cb [Ad.box b 101 (AO.enc V), Ad.D6 (CR 9 (AO.Az V) ls), Ad.own (AO.last V) 56 16 ((ev).flatMap Ing.Event.enc)]) ∧ (GV 0 AG.DD w ∧ 0 ∉ Cb [Ad.box b 101 (AO.enc V), Ad.D6 (CR 9 (AO.Az V) ls), Ad.own (AO.last V) 56 16 ((ev).flatMap Ing.Event.enc)]) ∧ (Gk 7 w ∧ 7 ∉ Cb [Ad.box b 101 (AO.enc V), Ad.D6 (CR 9 (AO.Az V) ls), Ad.own (AO.last V) 56 16 ((ev).flatMap Ing.Event.enc)]) ∧ (Gk 8 w ∧ 8 ∉ Cb [Ad.box b 101 (AO.enc V), Ad.D6 (CR 9 (AO.Az V) ls), Ad.own (AO.last V) 56 16 ((ev).flatMap Ing.Event.enc)])) (fun v B => ∃ V' ls' ev', v = .tuple #[] ∧ A5 V' ls' ev' = AI.Bb (A5 V ls ev) ∧ B = [Ad.box b 101 (AO.enc V'), Ad.D6 (CR 9 (AO.Az V') ls'), Ad.own (AO.last V') 56 16 ((ev').flatMap Ing.Event.enc)]) := by
 intro w hS0 hH
 obtain ⟨⟨gl0, gm0⟩, ⟨gl1, gm1⟩, ⟨gl2, gm2⟩, ⟨gl3, gm3⟩⟩ := hH
 refine Al _ _ Tryz.func65 rfl rfl rfl (hS0) ?_
 refine Gs (Gm rfl (AQ (AA (Ae ?_))))
 refine Bo (.t2 5 0) ?_
 refine Bg (.t (.t .h)) ?_
 refine Bg (.t (.t .h)) ?_
 refine Bg (.t (.t .h)) ?_
 refine HH (fun (k : Int) (V1 : AO) (ls1 : Vector BI 4) (ev1 : List Ing.Event) => 0 ≤ k ∧ k ≤ 5 ∧ (A5 V ls ev).Bb = (A5 V1 ls1 ev1).HW (5 - k).toNat ∧ AI.Fit (A5 V1 ls1 ev1) (n + 44 * k.toNat) (m + 44 * k.toNat)) (fun (k : Int) (V1 : AO) (ls1 : Vector BI 4) (ev1 : List Ing.Event) => (5 - k).toNat) (fun (k : Int) (V1 : AO) (ls1 : Vector BI 4) (ev1 : List Ing.Event) => [(5, .int .i64 k)]) (fun (k : Int) (V1 : AO) (ls1 : Vector BI 4) (ev1 : List Ing.Event) => [Ad.box b 101 (AO.enc V1), Ad.D6 (CR 9 (AO.Az V1) ls1), Ad.own (AO.last V1) 56 16 (ev1.flatMap Ing.Event.enc)]) (0) (V) (ls) (ev) ?_ rfl rfl (fun k V1 ls1 ev1 hI1 => ?_)
 · exact ⟨by omega, by omega, rfl, hF⟩
 obtain ⟨hI11, hI12, hI13, hI14⟩ := hI1
 refine Gs (Gt (A9 rfl rfl) (AQ (AA (Ao ?_))))
 refine Gc (fun c1 => ?_) (fun c1 => ?_)
 ·
  have c1p := kz c1
  refine Aa ?_
  refine AB (.t2 0 5) ?_
  refine AA (Ao (Ae (Gs (Ga rfl (AQ (AA (CD ?_)))))))
  refine Gm rfl (AQ (AA (Ae ?_)))
  refine Bo (.t4 2 7 0 5) ?_
  refine Bg (.t (.t .h)) ?_
  refine Bg (.t (.t .h)) ?_
  refine Bg (.t (.t .h)) ?_
  refine Rk (fun (i : Int) (V2 : AO) (ls2 : Vector BI 4) (ev2 : List Ing.Event) (c : Bool) => 0 ≤ i ∧ i ≤ 4 ∧ ((A5 V2 ls2 ev2), c) = (A5 V1 ls1 ev1).Cc i.toNat) (fun (i : Int) (V2 : AO) (ls2 : Vector BI 4) (ev2 : List Ing.Event) (c : Bool) => (4 - i).toNat) (fun (i : Int) (V2 : AO) (ls2 : Vector BI 4) (ev2 : List Ing.Event) (c : Bool) => [(2, .bool c), (7, .int .i64 i)]) (fun (i : Int) (V2 : AO) (ls2 : Vector BI 4) (ev2 : List Ing.Event) (c : Bool) => [Ad.box b 101 (AO.enc V2), Ad.D6 (CR 9 (AO.Az V2) ls2), Ad.own (AO.last V2) 56 16 (ev2.flatMap Ing.Event.enc)]) (0) (V1) (ls1) (ev1) (false) ?_ rfl rfl (fun i V2 ls2 ev2 c hI2 => ?_)
  · exact ⟨by omega, by omega, rfl⟩
  obtain ⟨hI21, hI22, hI23⟩ := hI2
  refine Gs (Gt (A9 rfl rfl) (AQ (AA (Ao ?_))))
  refine Gc (fun c2 => ?_) (fun c2 => ?_)
  ·
   have c2p := kz c2
   have hi : 0 ≤ i ∧ i < 4 := ⟨by omega, by omega⟩
   have hF2 := P7 hI14 hi.1 (by omega) hI23
   refine Aa ?_
   refine AB (.t4 0 2 5 7) ?_
   refine AA (Ao (Ae (Gs (Gm rfl (Ga rfl (Gn (.t5 0 2 3 5 7) (Gs ?_)))))))
   refine Gm rfl (Gm rfl (Gt (BV rfl) (Gt (Ah G2 rfl) ?_)))
   refine Gt (AR RG rfl rfl (by first | omega | exact hi.1 | exact hi.2) (by first | omega | exact hi.1 | exact hi.2)) ?_
   refine Ga rfl (Gn (.t5 0 2 4 5 7) (CD (Gm rfl (Gt (BV rfl) (Gt (Ah I0 rfl) ?_)))))
   refine Gt (AH rfl A4 .m0 ((AO.l1.comp (AU.ar (n := 4) A2.fl (by first | omega | exact hi))).comp A2.l0) rfl rfl) ?_
   refine Gt (Af rfl rfl) (Gn (.t6 0 2 4 5 7 19) ?_)
   refine Gc (fun c3 => ?_) (fun c3 => ?_)
   ·
    have c3p := kz c3
    refine Be (AX (Aj ?_))
    refine AB (.t4 0 2 5 7) ?_
    refine AA (AJ ?_)
    refine Gt (Au rfl rfl (IntWalk.i64_in _ (by first | omega | exact hi.1 | exact hi.2))) ?_
    refine Gm rfl ?_
    refine AQ (AB (.t4 0 2 5 7) ?_)
    refine J9 (i + 1) _ _ _ _ ?_ ?_ (.t4 2 7 0 5) (.refl _)
    · exact ⟨by omega, by omega, ((Kl hi.1 hi.2 hI23).trans (BB c3)).symm⟩
    · omega
   have c3p := kz c3
   refine Aa ?_
   refine AB (.t5 0 2 4 5 7) ?_
   refine AA ?_
   refine Bg (.t (.t .h)) ?_
   refine Bg (.t (.t .h)) ?_
   refine Bg (.t (.t .h)) ?_
   refine RD (Lm := [_, _, _]) (fun (V3 : AO) (ls3 : Vector BI 4) => (A5 V3 ls3 ev2) = (A5 V2 ls2 ev2).set i ((A5 V2 ls2 ev2).at_ i).Bb) (fun (V3 : AO) (ls3 : Vector BI 4) => []) (fun (V3 : AO) (ls3 : Vector BI 4) => [Ad.box b 101 (AO.enc V3), Ad.D6 (CR 9 (AO.Az V3) ls3), Ad.own (AO.last V3) 56 16 (ev2.flatMap Ing.Event.enc)]) (.t5 0 2 4 5 7) rfl ?_ (fun V3 ls3 hC => ?_)
   ·
    refine Ft (k := i) hi.1 hi.2 (fun sv sl hsv hlv hln => ?_)
    refine BD (N := 17) [0, 0, 2, 6, 14, 0, 32, 96, 224, 480, 1022, 2046, 4094, 4094, 8191, 24575, 57343] mix (by kernel_rfl) rfl ?_
    refine Pf 0 rfl (AF rfl) (Pf 1 rfl (AF rfl) (Pf 2 rfl (BV rfl) (Pf 3 rfl (Ah Dw rfl) (Pf 4 rfl (AZ rfl Cw .m3 ((AU.BL V2 hi.1 hi.2).comp A2.l4) rfl) (Pf 5 rfl (AF rfl) (Pf 6 rfl (BV rfl) (Pf 7 rfl (Ah Kg rfl) ?_)))))))
    refine Pf 8 rfl (Ah RA rfl) (Pf 9 rfl (AH rfl A4 .m3 (((AU.BL V2 hi.1 hi.2).comp A2.l2).comp AP.l5) rfl rfl) ?_)
    refine An 10 rfl (by kernel_rfl) ?_
    refine BE rfl dS (.c rfl (.c rfl .n)) .n (M3 _ _ _ (by rw [← hlv]; exact Xq hF2 hi.1 hi.2)) (fun w hS => ⟨(Kn.own .m1) w hS, (VU.own .m1) w hS⟩) (fun v1 B hv => ?_)
    rcases hv with ⟨y2, rfl, rfl⟩ | ⟨y3, y4, y5, y6, y7, rfl, y8, y9, rfl⟩
    ·
     refine Bp rfl ⟨?_, ?_⟩
     · exact (Pk (Pk (Pk (Pk (Pk (Pk (Pk (Pk (Pk (Po rfl (AF rfl) rfl rfl Aq))))))))))
     refine Pf 11 rfl (AF rfl) (Pf 12 rfl (AM rfl rfl) (Pf 13 rfl (AM rfl rfl) (Pf 14 rfl (BV rfl) (Pf 15 rfl (Ah Dw rfl) ?_))))
     refine An 16 rfl (by kernel_rfl) ?_
     refine AT (AK ((AU.BL V2 hi.1 hi.2).comp A2.l4) rfl rfl rfl Fc rfl (.t (.t (.t .h)))) ?_
     refine BM rfl ⟨?_, ?_⟩
     · exact (Pk (Pk (Po rfl (AM rfl rfl) rfl rfl (Pk (Pk (Pk (Pk (Pk (Pk (Pk (Pk (Pk (Pk (Pk (Pk Aq)))))))))))))))
     refine A3 (by kernel_rfl) ?_
     refine AB (.t5 0 2 4 5 7) ?_
     refine CU (.c .h (.c .h (.c .h (.c .h (.c .h .n))))) ?_
     refine Ra hi.1 hi.2 (by rfl) (by rfl) (by rfl) ?_
     refine EU _ _ ?_ (.t5 0 2 4 5 7) (.refl _)
     · exact Ec hi.1 hi.2 hsv hlv (f := Ax.Bb) (Lr hln.2.1 y2)
    refine Bp rfl ⟨?_, ?_⟩
    · exact (Pk (Pk (Pk (Pk (Pk (Pk (Pk (Pk (Pk (Po rfl (AF rfl) rfl rfl Aq))))))))))
    refine Pf 11 rfl (AF rfl) (Pf 12 rfl (AM rfl rfl) (Pf 13 rfl (AM rfl rfl) (Pf 14 rfl (BV rfl) (Pf 15 rfl (Ah Dw rfl) ?_))))
    refine An 16 rfl (by kernel_rfl) ?_
    refine AT (AK ((AU.BL V2 hi.1 hi.2).comp A2.l4) rfl rfl rfl Fc rfl (.t (.t (.t (.t .h))))) ?_
    refine BM rfl ⟨?_, ?_⟩
    · exact (Pk (Pk (Po rfl (AM rfl rfl) rfl rfl (Pk (Pk (Pk (Pk (Pk (Pk (Pk (Pk (Pk (Pk (Pk (Pk Aq)))))))))))))))
    refine A3 (by kernel_rfl) ?_
    refine AB (.t5 0 2 4 5 7) ?_
    refine CU (.c .h (.c (.t .h) .n)) ?_
    refine bq y9 ?_
    refine CU (.c (.t .h) (.c .h (.c .h (.c .h (.c .h .n))))) ?_
    refine Ra hi.1 hi.2 (by rfl) (by rfl) (by rfl) ?_
    refine EU _ _ ?_ (.t5 0 2 4 5 7) (.refl _)
    · exact Ec hi.1 hi.2 hsv hlv (f := Ax.Bb) (X2 hln.2.1 y3 _)
   refine Gs (Gm rfl (Gt (BV rfl) (Gt (Ah Dw rfl) (Gt (Ah LC rfl) ?_))))
   refine Gt (AH rfl Dh .m0 (((AO.l1.comp (AU.ar (n := 4) A2.fl (by first | omega | exact hi))).comp A2.l4).comp Aw.l4) rfl rfl) ?_
   refine Gn (.t6 0 2 4 5 7 40) ?_
   refine Gc (fun c4 => ?_) (fun c4 => ?_)
   ·
    have c4p := kz c4
    refine Gs (Gm rfl (Gm rfl ?_))
    refine BE rfl ZR (.c rfl (.c rfl .n)) (.c .h (.c .h (.c .h .n))) (IC _ V3 ls3 ev2 i _ _ hi (by rw [hC]; exact hF2.WQ hi.1 hi.2) (by omega) (by omega)) (fun w hS => ⟨gl0.pull gm0 hS (.c .h (.c .h (.c .h .n))), gl1.pull gm1 hS (.c .h (.c .h (.c .h .n))), gl2.pull gm2 hS (.c .h (.c .h (.c .h .n))), gl3.pull gm3 hS (.c .h (.c .h (.c .h .n)))⟩) (fun v13 B hv => ?_)
    obtain ⟨y14, y15, y16, rfl, y17, rfl⟩ := hv
    refine Gn (.t3 0 5 7) (AJ (Ga rfl (AQ (AV (AA (AJ ?_))))))
    refine Gt (Au rfl rfl (IntWalk.i64_in _ (by first | omega | exact hi.1 | exact hi.2))) ?_
    refine Gm rfl ?_
    refine AQ (AB (.t4 0 2 5 7) ?_)
    refine J9 (i + 1) _ _ _ _ ?_ ?_ (.t4 2 7 0 5) (.refl _)
    · exact ⟨by omega, by omega, (((Kl hi.1 hi.2 hI23).trans ((AW c3).trans (BB (show _ = true from (UO hi.1 hi.2 hC).symm.trans c4)))).trans (by rw [← hC, ← y17])).symm⟩
    · omega
   have c4p := kz c4
   refine Aa ?_
   refine AB (.t4 0 2 5 7) ?_
   refine AV (AA (AJ ?_))
   refine Gt (Au rfl rfl (IntWalk.i64_in _ (by first | omega | exact hi.1 | exact hi.2))) ?_
   refine Gm rfl ?_
   refine AQ (AB (.t4 0 2 5 7) ?_)
   refine J9 (i + 1) _ _ _ _ ?_ ?_ (.t4 2 7 0 5) (.refl _)
   · exact ⟨by omega, by omega, (((Kl hi.1 hi.2 hI23).trans ((AW c3).trans (AW (show _ = false from (UO hi.1 hi.2 hC).symm.trans c4)))).trans (by rw [← hC])).symm⟩
   · omega
  have c2p := kz c2
  obtain rfl : i = 4 := by omega
  have hE : (A5 V1 ls1 ev1).Cc 4 = ((A5 V2 ls2 ev2), c) := hI23.symm
  refine Be (AX (AX (Aj ?_)))
  refine AB (.t3 0 2 5) ?_
  refine AA (Gs (Gm rfl (Gt (BX rfl) (Gn (.t3 0 5 46) ?_))))
  refine Gc (fun c5 => ?_) (fun c5 => ?_)
  ·
   have c5p := kz c5
   refine Ab (AS (AD (AD (AS ?_))))
   refine AY rfl .n ?_
   intro w1 hS
   have hS := (hS.perm (As.perm (.c .h (.c .h (.c .h .n))))).A1
   refine ⟨_, ⟨V2, ls2, ev2, rfl, ?ga1, rfl⟩, hS⟩
   case ga1 => exact (hI13.trans ((Nj hI11 (by omega)).trans ((BB (show (!((A5 V1 ls1 ev1).Cc 4).2) = true by rw [hE]; exact c5)).trans (by rw [hE])))).symm
  have c5p := kz c5
  refine Aa ?_
  refine AB (.t2 0 5) ?_
  refine AV (AA (AJ ?_))
  refine Gt (Au rfl rfl (IntWalk.i64_in _ (by first | omega | exact hi.1 | exact hi.2))) ?_
  refine Gm rfl ?_
  refine AQ (AB (.t2 0 5) ?_)
  refine Cu (k + 1) _ _ _ ?_ ?_ (.t2 5 0) (.refl _)
  · exact ⟨by omega, by omega, hI13.trans ((Nj hI11 (by omega)).trans ((AW (show (!((A5 V1 ls1 ev1).Cc 4).2) = false by rw [hE]; exact c5)).trans (by rw [hE]))), (P7 hI14 (by omega) (by omega) hI23).mono (by omega) (by omega)⟩
  · omega
 have c1p := kz c1
 refine Be (AX (AX (Aj ?_)))
 refine Bj rfl .n ?_
 intro w1 hS
 have hS := (hS.perm (As.perm (.c .h (.c .h (.c .h .n))))).A1
 refine ⟨_, ⟨V1, ls1, ev1, rfl, ?ga2, rfl⟩, hS⟩
 case ga2 => exact (hI13.trans (by rw [show (5 - k).toNat = 0 by omega]; rfl)).symm
theorem PM (b : Nat) (V : AO) (ls : Vector BI 4) (ev : List Ing.Event) (d : Int) (n m : Nat) (hF : AI.Fit (A5 V ls ev) n m) (hn : n ≤ 500000) (hm : m ≤ 500000) : FJ Tryz.prog 60 #[.pointer (some ⟨b, 0, none⟩), .int .i64 d] [Ad.box b 101 (AO.enc V), Ad.D6 (CR 9 (AO.Az V) ls), Ad.own (AO.last V) 56 16 ((ev).flatMap Ing.Event.enc)] (fun w => (GV 2 Fl w ∧ 2 ∉ Cb [Ad.box b 101 (AO.enc V), Ad.D6 (CR 9 (AO.Az V) ls), Ad.own (AO.last V) 56 16 ((ev).flatMap Ing.Event.enc)]) ∧ (GV 0 AG.DD w ∧ 0 ∉ Cb [Ad.box b 101 (AO.enc V), Ad.D6 (CR 9 (AO.Az V) ls), Ad.own (AO.last V) 56 16 ((ev).flatMap Ing.Event.enc)]) ∧ (Gk 7 w ∧ 7 ∉ Cb [Ad.box b 101 (AO.enc V), Ad.D6 (CR 9 (AO.Az V) ls), Ad.own (AO.last V) 56 16 ((ev).flatMap Ing.Event.enc)]) ∧ (Gk 8 w ∧ 8 ∉ Cb [Ad.box b 101 (AO.enc V), Ad.D6 (CR 9 (AO.Az V) ls), Ad.own (AO.last V) 56 16 ((ev).flatMap Ing.Event.enc)])) (fun v B => ∃ V' ls' ev', v = .tuple #[] ∧ A5 V' ls' ev' = AI.N1 (A5 V ls ev) d ∧ B = [Ad.box b 101 (AO.enc V'), Ad.D6 (CR 9 (AO.Az V') ls'), Ad.own (AO.last V') 56 16 ((ev').flatMap Ing.Event.enc)]) := by
 intro w hS0 hH
 obtain ⟨⟨gl0, gm0⟩, ⟨gl1, gm1⟩, ⟨gl2, gm2⟩, ⟨gl3, gm3⟩⟩ := hH
 refine Al _ _ Tryz.func60 rfl rfl rfl (hS0) ?_
 refine CD (Gm rfl (AQ (AA (Ae ?_))))
 refine Bo (.t3 8 0 1) ?_
 refine Bg (.t (.t .h)) ?_
 refine Bg (.t (.t .h)) ?_
 refine Bg (.t (.t .h)) ?_
 refine HH (fun (i : Int) (V1 : AO) (ls1 : Vector BI 4) (ev1 : List Ing.Event) => 0 ≤ i ∧ i ≤ 4 ∧ (A5 V1 ls1 ev1) = AI.turns (A5 V ls ev) i.toNat) (fun (i : Int) (V1 : AO) (ls1 : Vector BI 4) (ev1 : List Ing.Event) => (4 - i).toNat) (fun (i : Int) (V1 : AO) (ls1 : Vector BI 4) (ev1 : List Ing.Event) => [(8, .int .i64 i)]) (fun (i : Int) (V1 : AO) (ls1 : Vector BI 4) (ev1 : List Ing.Event) => [Ad.box b 101 (AO.enc V1), Ad.D6 (CR 9 (AO.Az V1) ls1), Ad.own (AO.last V1) 56 16 (ev1.flatMap Ing.Event.enc)]) (0) (V) (ls) (ev) ?_ rfl rfl (fun i V1 ls1 ev1 hI1 => ?_)
 · exact ⟨by omega, by omega, rfl⟩
 obtain ⟨hI11, hI12, hI13⟩ := hI1
 refine Gs (Gt (A9 rfl rfl) (AQ (AA (Ao ?_))))
 refine Gc (fun c1 => ?_) (fun c1 => ?_)
 ·
  have c1p := kz c1
  have hi : 0 ≤ i ∧ i < 4 := ⟨by omega, by omega⟩
  refine Aa ?_
  refine AB (.t3 0 1 8) ?_
  refine AA (Ao (Ae (Gs (Gm rfl (Ga rfl (Gn (.t4 0 1 4 8) (AJ ?_)))))))
  refine Gm rfl (Gm rfl (Gm rfl (Gt (BV rfl) (Gt (Ah G2 rfl) ?_))))
  refine Gt (AR RG rfl rfl (by first | omega | exact hi.1 | exact hi.2) (by first | omega | exact hi.1 | exact hi.2)) ?_
  refine BE rfl dE (.c rfl (.c rfl .n)) (.c .h (.c .h (.c .h .n))) (RB _ V1 ls1 ev1 i (n + 44) (m + 44) hi (by rw [hI13]; exact (AI.J6 hF i.toNat (by omega)).mono (by omega) (by omega)) (by omega) (by omega)) (fun w hS => ⟨gl0.pull gm0 hS (.c .h (.c .h (.c .h .n))), gl1.pull gm1 hS (.c .h (.c .h (.c .h .n))), gl2.pull gm2 hS (.c .h (.c .h (.c .h .n))), gl3.pull gm3 hS (.c .h (.c .h (.c .h .n)))⟩) (fun v1 B hv => ?_)
  obtain ⟨y2, y3, y4, rfl, y5, rfl⟩ := hv
  refine AQ (AB (.t3 0 1 8) ?_)
  refine AV (AA (AJ ?_))
  refine Gt (Au rfl rfl (IntWalk.i64_in _ (by first | omega | exact hi.1 | exact hi.2))) ?_
  refine Gm rfl ?_
  refine AQ (AB (.t3 0 1 8) ?_)
  refine Cu (i + 1) _ _ _ ?_ ?_ (.t3 8 0 1) (.refl _)
  · exact ⟨by omega, by omega, y5.trans (by rw [hI13]; exact (TB hI11).symm)⟩
  · omega
 have c1p := kz c1
 obtain rfl : i = 4 := by omega
 have hF1 := AI.J6 hF 4 (Nat.le_refl 4)
 rw [show (4 : Nat) = (4 : Int).toNat from rfl, ← hI13] at hF1
 have hrl : (AE.CS V1.w d).2.1.length ≤ 78 := AE.QH hF1.FZ.HP d
 have hrs := AE.LA (draw := d) hF1.FZ
 have hF4 := ((hF1.land hrs.1).Gl hrs.2).mono (Nat.add_le_add_left hrl _) (Nat.add_le_add_left hrl _)
 refine Be (AX (AX (Aj ?_)))
 refine AB (.t2 0 1) ?_
 refine AA (Gs (Gm rfl (Gt (BV rfl) (Gt (Ah D2 rfl) (Gt (AZ rfl BU .m0 AO.l0 rfl) (Gm rfl ?_))))))
 refine BE rfl cR (.c rfl (.c rfl .n)) .n (MF V1.w d hF1.FZ.HP) (fun w hS => gl1.pull gm1 hS .n) (fun v6 B hv => ?_)
 obtain ⟨y7, rfl, y8, rfl⟩ := hv
 refine Gm rfl (Gt (AM rfl rfl) (Gt (AM rfl rfl) (Gt (AM rfl rfl) ?_)))
 refine BF rfl K1 rfl (fun b1 => ?_)
 refine AT (AK (AU.id AG.fl.len AG.fl.one) rfl rfl rfl Dm rfl .h) ?_
 refine Ga rfl (Ga rfl (Gn (.t3 0 5 6) (Gs (Gm rfl (Gt (AZ rfl BU .m0 (AU.id AG.fl.len AG.fl.one) rfl) (Gt (BV rfl) (Gt (Ah D2 rfl) ?_)))))))
 refine AT (AK AO.l0 rfl rfl rfl Dm rfl (.t (.t .h))) ?_
 refine Gn (.t2 0 6) (Gs (Gm rfl (Gm rfl ?_)))
 refine BE rfl Ut (.c rfl (.c rfl .n)) (.c (.t (.t .h)) (.c (.t (.t .h)) (.c (.t (.t .h)) (.c (.t .h) .n)))) (Es _ { V1 with w := (AE.CS V1.w d).1 } ls1 ev1 _ (AE.CS V1.w d).2.1 _ (by assumption) (Gi hF1) (by omega) (Nat.le_trans hF1.last (by omega)) (fun e he c _ => hrs.2 e he)) (fun w hS => ⟨gl0.pull gm0 hS (.c (.t (.t .h)) (.c (.t (.t .h)) (.c (.t (.t .h)) (.c (.t .h) .n)))), gl1.pull gm1 hS (.c (.t (.t .h)) (.c (.t (.t .h)) (.c (.t (.t .h)) (.c (.t .h) .n))))⟩) (fun v10 B hv => ?_)
 obtain ⟨y11, y12, y13, rfl, y14, rfl⟩ := hv
 refine Gn (.t1 0) (AJ (Gm rfl ?_))
 refine BE rfl SN (.c rfl .n) (.c .h (.c .h (.c .h .n))) (Dl _ y11 y12 y13 _ _ (by rw [y14]; exact hF4) (by omega) (by omega)) (fun w hS => ⟨gl0.pull gm0 hS (.c .h (.c .h (.c .h .n))), gl1.pull gm1 hS (.c .h (.c .h (.c .h .n))), gl2.pull gm2 hS (.c .h (.c .h (.c .h .n))), gl3.pull gm3 hS (.c .h (.c .h (.c .h .n)))⟩) (fun v15 B hv => ?_)
 obtain ⟨y16, y17, y18, rfl, y19, rfl⟩ := hv
 refine AQ ?_
 refine Bj rfl .n ?_
 intro w1 hS
 have hS := (hS.perm (As.perm (.c .h (.c .h (.c .h .n))))).A1
 refine ⟨_, ⟨y16, y17, y18, rfl, ?ga1, rfl⟩, hS⟩
 case ga1 => rw [y19, y14, Oo]; show AI.Bb (AI.Gl { (A5 V1 ls1 ev1) with w := (AE.CS ((A5 V1 ls1 ev1)).w d).1 } (AE.CS ((A5 V1 ls1 ev1)).w d).2.1) = _; rw [hI13]; rfl
theorem Fe (opt : Int) (w : World) : Ef Tryz.prog 73 #[.int .i64 opt] w fun v w' => v = .tuple #[.int .i64 (AP.place opt).1, .bool (AP.place opt).2.1, .bool (AP.place opt).2.2] ∧ CA w w' := by
 refine Al [] [] Tryz.func73 rfl rfl rfl (St.start w []) ?_
 refine Gs (Ga rfl (Ga rfl (Ga rfl (Gn (.t1 0) (CD (Gm rfl (Gn (.t1 5) ?_)))))))
 refine Ae (Gs (Gt (Af rfl rfl) (Ga rfl (Gn (.t2 5 6) ?_))))
 refine Gc (fun c1 => ?_) (fun c1 => ?_)
 ·
  refine Gs (Ga rfl (Ga rfl (Ga rfl (Gn (.t3 2 3 4) (Ab (AS (AD ?_)))))))
  refine AY rfl (.tmp rfl (.tmp rfl (.tmp rfl .n))) ?_
  intro w1 hS; refine ⟨?_, hS.Am⟩; simp only [AP.place, c1, ↓reduceIte, Bool.false_eq_true]; rfl
 refine Gs (Gt (Af rfl rfl) (Ga rfl (Gn (.t2 5 8) ?_)))
 refine Gc (fun c2 => ?_) (fun c2 => ?_)
 ·
  refine Gs (Ga rfl (Ga rfl (Ga rfl (Gn (.t3 2 3 4) (Ab (AS (AD ?_)))))))
  refine AY rfl (.tmp rfl (.tmp rfl (.tmp rfl .n))) ?_
  intro w1 hS; refine ⟨?_, hS.Am⟩; simp only [AP.place, c1, c2, ↓reduceIte, Bool.false_eq_true]; rfl
 refine Gs (Gt (Af rfl rfl) (Ga rfl (Gn (.t1 10) ?_)))
 refine Gc (fun c3 => ?_) (fun c3 => ?_)
 ·
  refine Gs (Ga rfl (Ga rfl (Ga rfl (Gn (.t3 2 3 4) (Ab (AS (AD ?_)))))))
  refine AY rfl (.tmp rfl (.tmp rfl (.tmp rfl .n))) ?_
  intro w1 hS; refine ⟨?_, hS.Am⟩; simp only [AP.place, c1, c2, c3, ↓reduceIte, Bool.false_eq_true]; rfl
 refine Aa ?_
 refine AB (.nil _) ?_
 refine AV (AA (Gs (Ga rfl (Ga rfl (Ga rfl (AQ (AA ?_)))))))
 refine Ab ?_
 refine AY rfl (.tmp rfl (.tmp rfl (.tmp rfl .n))) ?_
 intro w1 hS; refine ⟨?_, hS.Am⟩; simp only [AP.place, c1, c2, c3, ↓reduceIte, Bool.false_eq_true]; rfl
theorem GB (X : AP) (w : World) : Ef Tryz.prog 55 #[.agg X.enc.toArray] w fun v w' => v = .bool X.BZ ∧ CA w w' := by
 refine Al [] [] Tryz.func55 rfl rfl rfl (St.start w []) ?_
 refine Gs ?_
 refine B3 rfl rfl rfl (fun b1 => ?_)
 refine Ga rfl (Gn (.t1 1) (CD (Gm rfl (AQ (AA (Ae ?_))))))
 refine Bo (.t2 4 1) ?_
 refine CY (fun (k : Int) => 0 ≤ k ∧ k ≤ 3 ∧ X.BZ = (B5 3 (fun i => !X.OX i) (3 - k).toNat && (!(!decide (X.us.at 2 = 0) || !decide (X.Gb.at 0 = 0)) && X.Ph))) (fun (k : Int) => (3 - k).toNat) (fun (k : Int) => [(4, .int .i64 k)]) (fun (k : Int) => []) (0) ?_ rfl rfl (fun k hI1 => ?_)
 · exact ⟨Int.le_refl _, by omega, rfl⟩
 obtain ⟨hI11, hI12, hI13⟩ := hI1
 refine Gs (Gt (A9 rfl rfl) (AQ (AA (Ao ?_))))
 refine Gc (fun c1 => ?_) (fun c1 => ?_)
 ·
  have c1p := kz c1
  rw [DT _ (by omega)] at hI13
  refine Aa ?_
  refine AB (.t2 1 4) ?_
  refine AA (Ao (Ae (Gs (Gm rfl (Ga rfl (Gn (.t3 1 3 4) (Gs ?_)))))))
  refine Gm rfl (Gt (Ah Ke rfl) ?_)
  refine Gt (AR Kp rfl rfl (by omega) (by omega)) ?_
  refine Gt (AH rfl A4 .m0 (AP.l3.comp (AU.ar (n := 3) B1 (by omega))) rfl rfl) ?_
  refine Gt (A9 rfl rfl) (Gm rfl (Bc 12 rfl rfl (fun q => AF rfl) (Bc 12 rfl rfl (fun q => Ah Ke rfl) ?_)))
  refine Bc 12 rfl rfl (fun q => by have q1 := q; (try simp at q1); exact AR Kp (cF rfl q) (cF rfl q) (by omega) (by omega)) ?_
  refine Bc 12 rfl rfl (fun q => by have q1 := q; (try simp at q1); exact AH (cF rfl q) A4 .m0 (AP.l3.comp (AU.ar (n := 3) B1 (by omega))) rfl rfl) ?_
  refine Bc 12 rfl rfl (fun q => Ci (cF rfl q) rfl) ?_
  refine Gt (BS rfl rfl (fun h => by rw [h]; rfl)) ?_
  refine Gm rfl (Bc 19 rfl rfl (fun q => AF rfl) (Bc 19 rfl rfl (fun q => Ah Jh rfl) ?_))
  refine Bc 19 rfl rfl (fun q => by have q1 := q; (try simp at q1); exact AR Kp (cF rfl q) (cF rfl q) (by omega) (by omega)) ?_
  refine Bc 19 rfl rfl (fun q => by have q1 := q; (try simp at q1); exact AH (cF rfl q) A4 .m0 (AP.l4.comp (AU.ar (n := 3) B1 (by omega))) rfl rfl) ?_
  refine Bc 19 rfl rfl (fun q => A9 (cF rfl q) rfl) ?_
  refine Gt (BS rfl rfl (fun h => by rw [h]; rfl)) ?_
  refine Gm rfl (Bc 26 rfl rfl (fun q => AF rfl) (Bc 26 rfl rfl (fun q => Ah Jh rfl) ?_))
  refine Bc 26 rfl rfl (fun q => by have q1 := q; (try simp at q1); exact AR Kp (cF rfl q) (cF rfl q) (by omega) (by omega)) ?_
  refine Bc 26 rfl rfl (fun q => by have q1 := q; (try simp at q1); exact AH (cF rfl q) A4 .m0 (AP.l4.comp (AU.ar (n := 3) B1 (by omega))) rfl rfl) ?_
  refine Bc 26 rfl rfl (fun q => Ci (cF rfl q) rfl) ?_
  refine Gt (BS rfl rfl (fun h => by rw [h]; rfl)) ?_
  refine Gn (.t3 1 4 32) ?_
  refine Gc (fun c2 => ?_) (fun c2 => ?_)
  ·
   refine Gs (Ga rfl (Gn (.t1 2) (Ab (AS (AD (AD (AS ?_)))))))
   refine AD ?_
   refine AY rfl (.tmp rfl .n) ?_
   intro w1 hS; refine ⟨congrArg Value.bool ?_, hS.Am⟩; rw [hI13, AP.OX, c2]; rfl
  have c2p := kz c2
  refine Aa ?_
  refine AB (.t2 1 4) ?_
  refine AV (AA (AJ ?_))
  refine Gt (Au rfl rfl (IntWalk.i64_in _ (by omega))) ?_
  refine Gm rfl ?_
  refine AQ (AB (.t2 1 4) ?_)
  refine B4 (k + 1) ?_ ?_ (.t2 4 1) (.refl _)
  · exact ⟨by omega, by omega, by rw [hI13, AP.OX, c2]; rfl⟩
  · omega
 have c1p := kz c1
 obtain rfl : k = 3 := by omega
 refine Be (AX (AX (Aj ?_)))
 refine AB (.t1 1) ?_
 refine AA (CD (Gt (Ah Ke rfl) ?_))
 refine Gt (AR Kp rfl rfl (by decide) (by decide)) ?_
 refine Gt (AH rfl A4 .m0 (AP.l3.comp (AU.arr (n := 3) B1 (by decide) (by decide))) rfl rfl) ?_
 refine Gt (Cg rfl rfl) (Gm rfl (Bc 38 rfl rfl (fun q => Ah Jh rfl) ?_))
 refine Bc 38 rfl rfl (fun q => AR Kp (cF rfl q) rfl (by decide) (by decide)) ?_
 refine Bc 38 rfl rfl (fun q => AH (cF rfl q) A4 .m0 (AP.l4.comp (AU.arr (n := 3) B1 (by decide) (by decide))) rfl rfl) ?_
 refine Bc 38 rfl rfl (fun q => Cg (cF rfl q) rfl) ?_
 refine Gt (BS rfl rfl (fun h => by rw [h]; rfl)) ?_
 refine Gn (.t2 1 43) ?_
 refine Gc (fun c3 => ?_) (fun c3 => ?_)
 ·
  refine Gs (Ga rfl (Gn (.t1 2) (Ab (AD ?_))))
  refine AY rfl (.tmp rfl .n) ?_
  intro w1 hS; refine ⟨congrArg Value.bool ?_, hS.Am⟩; rw [hI13, c3]; rfl
 refine Aa ?_
 refine AB (.t1 1) ?_
 refine AA (Gs (Gt (Ah Fv rfl) (Gt (AH rfl A4 .m0 AP.l0 rfl rfl) (Gt (CM rfl rfl) (Gm rfl (Bm 47 rfl rfl (fun q => Ah Fv rfl) (Bm 47 rfl rfl (fun q => AH (Bh rfl q) A4 .m0 AP.l0 rfl rfl) ?_)))))))
 refine Bm 47 rfl rfl (fun q => H3 (Bh rfl q) rfl) (Gt (BJ rfl rfl (fun h => h)) (Gm rfl (Bm 52 rfl rfl (fun q => Ah Fv rfl) (Bm 52 rfl rfl (fun q => AH (Bh rfl q) A4 .m0 AP.l0 rfl rfl) (Bm 52 rfl rfl (fun q => Af (Bh rfl q) rfl) (Bm 52 rfl rfl (fun q => Ah Kj rfl) (Bm 52 rfl rfl (fun q => AH (Bh rfl q) A4 .m0 AP.l1 rfl rfl) ?_)))))))
 refine Bm 52 rfl rfl (fun q => Cg (Bh rfl q) rfl) (Bm 52 rfl rfl (fun q => Jc Tryz.underlying4 (Bh rfl q) (Bh rfl q)) (Gt (BJ rfl rfl (fun h => h)) (Gm rfl (Bm 61 rfl rfl (fun q => Ah Kj rfl) (Bm 61 rfl rfl (fun q => AH (Bh rfl q) A4 .m0 AP.l1 rfl rfl) (Bm 61 rfl rfl (fun q => Af (Bh rfl q) rfl) (Bm 61 rfl rfl (fun q => AF (Bh rfl q)) ?_)))))))
 refine C0 (t := 65) rfl rfl rfl (fun qc q => Ah Kj rfl) ?_
 refine C0 (t := 65) rfl rfl rfl (fun qc q => AH (Bh rfl (by rw [qc, q]; rfl)) A4 .m0 AP.l1 rfl rfl) ?_
 refine C0 (t := 65) rfl rfl rfl (fun qc q => CM (Bh rfl (by rw [qc, q]; rfl)) rfl) ?_
 refine C0 (t := 65) rfl rfl rfl (fun qc q => AF (Bh rfl (by rw [qc, q]; rfl))) ?_
 refine DJ (t := 69) rfl rfl rfl (fun qc q => Ah Kj rfl) ?_
 refine DJ (t := 69) rfl rfl rfl (fun qc q => AH (Bh rfl (by rw [qc, q]; rfl)) A4 .m0 AP.l1 rfl rfl) ?_
 refine DJ (t := 69) rfl rfl rfl (fun qc q => H3 (Bh rfl (by rw [qc, q]; rfl)) rfl) ?_
 refine C0 (t := 65) rfl rfl rfl (fun qc q => BJ (Bh rfl (by rw [qc, q]; rfl)) rfl (fun h => by rw [qc, q, h]; rfl)) ?_
 refine Bm 61 rfl rfl (fun q => BS (Bh rfl q) rfl (fun h => by rw [q, h]; rfl)) ?_
 refine Gt (BJ rfl rfl (fun h => h)) (Gm rfl (Bm 76 rfl rfl (fun q => Ah Gp rfl) (Bm 76 rfl rfl (fun q => AH (Bh rfl q) CO .m0 AP.l2 rfl rfl) (Bm 76 rfl rfl (fun q => BG rfl Tryz.underlying9 (Bh rfl q)) (Bm 76 rfl rfl (fun q => H3 (Bh rfl q) rfl) (Gt (BJ rfl rfl (fun h => h)) (Gm rfl ?_)))))))
 refine Bm 82 rfl rfl (fun q => Ah Fv rfl) (Bm 82 rfl rfl (fun q => AH (Bh rfl q) A4 .m0 AP.l0 rfl rfl) (Bm 82 rfl rfl (fun q => CM (Bh rfl q) rfl) (Bm 82 rfl rfl (fun q => AF (Bh rfl q)) ?_)))
 refine C0 (t := 86) rfl rfl rfl (fun qc q => Ah Gp rfl) ?_
 refine C0 (t := 86) rfl rfl rfl (fun qc q => AH (Bh rfl (by rw [qc, q]; rfl)) CO .m0 AP.l2 rfl rfl) ?_
 refine C0 (t := 86) rfl rfl rfl (fun qc q => Bu (Bh rfl (by rw [qc, q]; rfl)) rfl) ?_
 refine Bm 82 rfl rfl (fun q => BS (Bh rfl q) rfl (fun h => by rw [q, h]; rfl)) ?_
 refine Gt (BJ rfl rfl (fun h => h)) (Gm rfl (Bm 92 rfl rfl (fun q => Ah RA rfl) (Bm 92 rfl rfl (fun q => AH (Bh rfl q) A4 .m0 AP.l5 rfl rfl) (Bm 92 rfl rfl (fun q => CM (Bh rfl q) rfl) (Gt (BJ rfl rfl (fun h => h)) (Gm rfl (Bm 97 rfl rfl (fun q => Ah RA rfl) ?_)))))))
 refine Bm 97 rfl rfl (fun q => AH (Bh rfl q) A4 .m0 AP.l5 rfl rfl) (Bm 97 rfl rfl (fun q => H3 (Bh rfl q) rfl) (Gt (BJ rfl rfl (fun h => h)) (Ga rfl (Gn (.t1 2) (Ab ?_)))))
 refine AY rfl (.tmp rfl .n) ?_
 intro w1 hS; refine ⟨congrArg Value.bool ?_, hS.Am⟩; rw [hI13, c3]; rfl
theorem Cv (verb opt : Int) (h0 : 0 ≤ verb ∧ verb ≤ 255) (h1 : 0 ≤ opt ∧ opt ≤ 255) (w : World) : Ef Tryz.prog 74 #[.int .i64 verb, .int .i64 opt] w fun v w' => v = BT (AP.V8 verb opt) ∧ CA w w' := by
 refine Al [] [] Tryz.func74 rfl rfl rfl (St.start w []) ?_
 refine Gs (Ga rfl (Gn (.t2 0 1) (Gs (Gm rfl ?_))))
 refine Gt (OH Tryz.underlying5 Tryz.underlying3 rfl (IntWalk.u8_in _ (by omega))) ?_
 refine Gm rfl ?_
 refine Gt (OH Tryz.underlying5 Tryz.underlying3 rfl (IntWalk.u8_in _ (by omega))) ?_
 refine Wp (cs := CE (n := 3) ZY (Vector.replicate 3 default)) rfl Tryz.underlying105 Vk ZN (by decide) (by decide) (by kernel_rfl) (.cons (AU.arr (n := 3) (i := 0) cG (by decide) (by decide)) rfl rfl rfl (.cons (AU.arr (n := 3) (i := 1) cG (by decide) (by decide)) rfl rfl rfl (.cons (AU.arr (n := 3) (i := 2) cG (by decide) (by decide)) rfl rfl rfl .nil))) ((Jy cG).len _) (fun b1 => ?_)
 refine Gt (OR (s := AP.V8 verb opt) (by rw [show (AP.V8 verb opt).flatMap DO = [.int .u8 255, .int .u8 verb, .int .u8 opt] from by simp [AP.V8, DO, S7 h0.1 h0.2, S7 h1.1 h1.2]]; rfl) Tryz.underlying105 Tryz.underlying9 Tryz.underlying5 rfl (Kn.own .m0)) ?_
 refine Ga rfl (Gn (.t1 4) (Ab ?_))
 refine AY rfl (.tmp rfl .n) ?_
 intro w1 hS; refine ⟨?_, hS.Am⟩; rfl
theorem Le (X : AP) (opt : Int) (w : World) : Ef Tryz.prog 80 #[.agg X.enc.toArray, .int .i64 opt] w fun v w' => v = .tuple #[.agg (X.DG opt).1.enc.toArray, BT (X.DG opt).2.1, .int .i64 (X.DG opt).2.2] ∧ CA w w' := by
 refine Al [] [] Tryz.func80 rfl rfl rfl (St.start w []) ?_
 refine Gs ?_
 refine B3 rfl rfl rfl (fun b1 => ?_)
 refine BF rfl Za rfl (fun b2 => ?_)
 refine Ga rfl (Ga rfl (Gn (.t3 1 2 4) (Gs (Gm rfl ?_))))
 refine BA rfl Zr (.c rfl .n) (fun w hS => Fe _ w) ?_
 refine Gm rfl (Gt (AM rfl rfl) (Gt (AM rfl rfl) (Gt (AM rfl rfl) (Ga rfl (Ga rfl (Ga rfl (Gn (.t5 1 2 4 7 8) ?_)))))))
 refine Ao (Ae (Gs (Gt (AZ rfl D1 .m1 (AU.id AP.fl.len AP.fl.one) rfl) ?_)))
 refine BA rfl ZM (.c rfl .n) (fun w hS => GB _ w) ?_
 refine Gt (BX rfl) (Ga rfl (Gn (.t6 1 2 4 7 8 16) ?_))
 refine Gc (fun c1 => ?_) (fun c1 => ?_)
 ·
  refine Gs (Gt (AZ rfl D1 .m1 (AU.id AP.fl.len AP.fl.one) rfl) ?_)
  refine AT (AK (AU.id AP.fl.len AP.fl.one) rfl rfl rfl KT rfl .h) ?_
  refine Ga rfl (Ga rfl (Gn (.t3 4 5 6) (Ab (AS (AD ?_)))))
  refine AY rfl (.cell rfl .m0 (.inl ⟨(by rw [AP.fl.len]; exact D1), rfl⟩) (.tmp rfl (.tmp rfl .n))) ?_
  intro w1 hS; refine ⟨?_, hS.Am⟩; simp only [AP.DG, c1, ↓reduceIte, Bool.false_eq_true]; rfl
 have c1p := kz c1
 refine Gs (Gm rfl (Gt (BX rfl) (Ga rfl (Gn (.t5 1 2 4 7 21) ?_))))
 refine Gc (fun c2 => ?_) (fun c2 => ?_)
 ·
  refine Gs (Gt (AZ rfl D1 .m1 (AU.id AP.fl.len AP.fl.one) rfl) ?_)
  refine AT (AK (AU.id AP.fl.len AP.fl.one) rfl rfl rfl KT rfl .h) ?_
  refine Ga rfl (Ga rfl (Gn (.t3 4 5 6) (Ab (AS (AD ?_)))))
  refine AY rfl (.cell rfl .m0 (.inl ⟨(by rw [AP.fl.len]; exact D1), rfl⟩) (.tmp rfl (.tmp rfl .n))) ?_
  intro w1 hS; refine ⟨?_, hS.Am⟩; simp only [AP.DG, c1, c2, ↓reduceIte, Bool.false_eq_true]; rfl
 have c2p := kz c2
 have hk := AP.Oc (opt := opt) (by simpa using c2)
 have hk1 : 0 ≤ (AP.place opt).1 ∧ (AP.place opt).1 < 3 := by rcases hk with ⟨_, e⟩ | ⟨_, e⟩ <;> rw [e] <;> decide
 have ho : 0 ≤ opt ∧ opt ≤ 255 := by rcases hk with ⟨e, _⟩ | ⟨e, _⟩ <;> omega
 refine Gs (Gm rfl (Gt (Ah Ke rfl) ?_))
 refine Gt (AR Kp rfl rfl (by omega) (by omega)) ?_
 refine Gt (AH rfl A4 .m1 (AP.l3.comp (AU.ar (n := 3) B1 (by omega))) rfl rfl) ?_
 refine Gt (Cg rfl rfl) (Ga rfl (Gn (.t5 1 2 4 7 25) ?_))
 refine Gc (fun c3 => ?_) (fun c3 => ?_)
 ·
  refine Gs (Gt (AZ rfl D1 .m1 (AU.id AP.fl.len AP.fl.one) rfl) ?_)
  refine AT (AK (AU.id AP.fl.len AP.fl.one) rfl rfl rfl KT rfl .h) ?_
  refine Ga rfl (Ga rfl (Gn (.t3 4 5 6) (Ab (AS (AD ?_)))))
  refine AY rfl (.cell rfl .m0 (.inl ⟨(by rw [AP.fl.len]; exact D1), rfl⟩) (.tmp rfl (.tmp rfl .n))) ?_
  intro w1 hS; refine ⟨?_, hS.Am⟩; simp only [AP.DG, c1, c2, c3, ↓reduceIte, Bool.false_eq_true]; rfl
 have c3p := kz c3
 refine Aa ?_
 refine AB (.t4 1 2 4 7) ?_
 refine AV (AA (Gs (Gm rfl (Gt (Ah Ke rfl) ?_))))
 refine Gt (AR Kp rfl rfl (by omega) (by omega)) ?_
 refine AT (AK (AP.l3.comp (AU.ar (n := 3) B1 (by omega))) rfl rfl rfl C9 rfl (.t .h)) ?_
 refine Gn (.t3 1 2 4) (Ao ?_)
 refine BD (N := 6) [0, 0, 2, 7, 15, 31] mix (by kernel_rfl) rfl ?_
 refine Pf 0 rfl (AZ rfl D1 .m1 (AU.id AP.fl.len AP.fl.one) rfl) (Pf 1 rfl (AF rfl) ?_)
 refine BQ 2 rfl rfl (by kernel_rfl) (L1 (LD (D5 RZ (.c rfl (.c rfl .n)) (fun w hS => Cv _ _ (by first | assumption | omega) (by first | assumption | omega) w)))) ?_
 refine An 3 rfl (by kernel_rfl) ?_
 refine AT (AK (AU.id AP.fl.len AP.fl.one) rfl rfl rfl KT rfl .h) ?_
 refine BM rfl ⟨?_, ?_⟩
 · exact (Pk (Pk (Pk Aq)))
 refine Pf 4 rfl (A0 rfl) (Pf 5 rfl (A0 rfl) ?_)
 refine A3 (by kernel_rfl) ?_
 refine AB (.t3 4 5 6) ?_
 refine AA (Ab ?_)
 refine AY rfl (.cell rfl .m0 (.inl ⟨(by rw [AP.fl.len]; exact D1), rfl⟩) (.tmp rfl (.tmp rfl .n))) ?_
 intro w1 hS; refine ⟨?_, hS.Am⟩; simp only [AP.DG, c1, c2, c3, ↓reduceIte, Bool.false_eq_true]; rfl
theorem M4 (X : AP) (opt : Int) (w : World) : Ef Tryz.prog 81 #[.agg X.enc.toArray, .int .i64 opt] w fun v w' => v = .tuple #[.agg (X.Ask opt).1.enc.toArray, BT (X.Ask opt).2.1, .int .i64 (X.Ask opt).2.2] ∧ CA w w' := by
 refine Al [] [] Tryz.func81 rfl rfl rfl (St.start w []) ?_
 refine Gs ?_
 refine B3 rfl rfl rfl (fun b1 => ?_)
 refine BF rfl Za rfl (fun b2 => ?_)
 refine Ga rfl (Ga rfl (Gn (.t3 1 2 4) (Gs (Gm rfl ?_))))
 refine BA rfl Zr (.c rfl .n) (fun w hS => Fe _ w) ?_
 refine Gm rfl (Gt (AM rfl rfl) (Gt (AM rfl rfl) (Gt (AM rfl rfl) (Ga rfl (Ga rfl (Ga rfl (Gn (.t5 1 2 4 7 9) ?_)))))))
 refine Ao (Ae (Gs (Gt (AZ rfl D1 .m1 (AU.id AP.fl.len AP.fl.one) rfl) ?_)))
 refine BA rfl ZM (.c rfl .n) (fun w hS => GB _ w) ?_
 refine Gt (BX rfl) (Ga rfl (Gn (.t6 1 2 4 7 9 16) ?_))
 refine Gc (fun c1 => ?_) (fun c1 => ?_)
 ·
  refine Gs (Gt (AZ rfl D1 .m1 (AU.id AP.fl.len AP.fl.one) rfl) ?_)
  refine AT (AK (AU.id AP.fl.len AP.fl.one) rfl rfl rfl KT rfl .h) ?_
  refine Ga rfl (Ga rfl (Gn (.t3 4 5 6) (Ab (AS (AD ?_)))))
  refine AY rfl (.cell rfl .m0 (.inl ⟨(by rw [AP.fl.len]; exact D1), rfl⟩) (.tmp rfl (.tmp rfl .n))) ?_
  intro w1 hS; refine ⟨?_, hS.Am⟩; simp only [AP.Ask, c1, ↓reduceIte, Bool.false_eq_true]; rfl
 have c1p := kz c1
 refine Gs (Gm rfl (Gt (BX rfl) (Ga rfl (Gn (.t5 1 2 4 7 21) ?_))))
 refine Gc (fun c2 => ?_) (fun c2 => ?_)
 ·
  refine Gs (Gt (AZ rfl D1 .m1 (AU.id AP.fl.len AP.fl.one) rfl) ?_)
  refine AT (AK (AU.id AP.fl.len AP.fl.one) rfl rfl rfl KT rfl .h) ?_
  refine Ga rfl (Ga rfl (Gn (.t3 4 5 6) (Ab (AS (AD ?_)))))
  refine AY rfl (.cell rfl .m0 (.inl ⟨(by rw [AP.fl.len]; exact D1), rfl⟩) (.tmp rfl (.tmp rfl .n))) ?_
  intro w1 hS; refine ⟨?_, hS.Am⟩; simp only [AP.Ask, c1, c2, ↓reduceIte, Bool.false_eq_true]; rfl
 have c2p := kz c2
 have hk := AP.Kx (opt := opt) (by simpa using c2)
 have hk1 : 0 ≤ (AP.place opt).1 ∧ (AP.place opt).1 < 3 := by rcases hk with ⟨_, e⟩ | ⟨_, e⟩ <;> rw [e] <;> decide
 have ho : 0 ≤ opt ∧ opt ≤ 255 := by rcases hk with ⟨e, _⟩ | ⟨e, _⟩ <;> omega
 refine Gs (Gm rfl (Gt (Ah Jh rfl) ?_))
 refine Gt (AR Kp rfl rfl (by omega) (by omega)) ?_
 refine Gt (AH rfl A4 .m1 (AP.l4.comp (AU.ar (n := 3) B1 (by omega))) rfl rfl) ?_
 refine Gt (Cg rfl rfl) (Ga rfl (Gn (.t5 1 2 4 7 25) ?_))
 refine Gc (fun c3 => ?_) (fun c3 => ?_)
 ·
  refine Gs (Gt (AZ rfl D1 .m1 (AU.id AP.fl.len AP.fl.one) rfl) ?_)
  refine AT (AK (AU.id AP.fl.len AP.fl.one) rfl rfl rfl KT rfl .h) ?_
  refine Ga rfl (Ga rfl (Gn (.t3 4 5 6) (Ab (AS (AD ?_)))))
  refine AY rfl (.cell rfl .m0 (.inl ⟨(by rw [AP.fl.len]; exact D1), rfl⟩) (.tmp rfl (.tmp rfl .n))) ?_
  intro w1 hS; refine ⟨?_, hS.Am⟩; simp only [AP.Ask, c1, c2, c3, ↓reduceIte, Bool.false_eq_true]; rfl
 have c3p := kz c3
 refine Aa ?_
 refine AB (.t4 1 2 4 7) ?_
 refine AV (AA (Gs (Gm rfl (Gt (Ah Jh rfl) ?_))))
 refine Gt (AR Kp rfl rfl (by omega) (by omega)) ?_
 refine AT (AK (AP.l4.comp (AU.ar (n := 3) B1 (by omega))) rfl rfl rfl C9 rfl (.t .h)) ?_
 refine Gn (.t3 1 2 4) (Ao ?_)
 refine BD (N := 6) [0, 0, 2, 7, 15, 31] mix (by kernel_rfl) rfl ?_
 refine Pf 0 rfl (AZ rfl D1 .m1 (AU.id AP.fl.len AP.fl.one) rfl) (Pf 1 rfl (AF rfl) ?_)
 refine BQ 2 rfl rfl (by kernel_rfl) (L1 (LD (D5 RZ (.c rfl (.c rfl .n)) (fun w hS => Cv _ _ (by first | assumption | omega) (by first | assumption | omega) w)))) ?_
 refine An 3 rfl (by kernel_rfl) ?_
 refine AT (AK (AU.id AP.fl.len AP.fl.one) rfl rfl rfl KT rfl .h) ?_
 refine BM rfl ⟨?_, ?_⟩
 · exact (Pk (Pk (Pk Aq)))
 refine Pf 4 rfl (A0 rfl) (Pf 5 rfl (A0 rfl) ?_)
 refine A3 (by kernel_rfl) ?_
 refine AB (.t3 4 5 6) ?_
 refine AA (Ab ?_)
 refine AY rfl (.cell rfl .m0 (.inl ⟨(by rw [AP.fl.len]; exact D1), rfl⟩) (.tmp rfl (.tmp rfl .n))) ?_
 intro w1 hS; refine ⟨?_, hS.Am⟩; simp only [AP.Ask, c1, c2, c3, ↓reduceIte, Bool.false_eq_true]; rfl
theorem Qh (b : Nat) (V : AO) (ls : Vector BI 4) (ev : List Ing.Event) (k : Int) (n m : Nat) (hk : 0 ≤ k ∧ k < 4) (hF : AI.Fit (A5 V ls ev) n m) (hn : n ≤ 500000) (hm : m ≤ 500000) : FJ Tryz.prog 61 #[.pointer (some ⟨b, 0, none⟩), .pointer (some ⟨b, 165 + k.toNat * 22, none⟩)] [Ad.box b 101 (AO.enc V), Ad.D6 (CR 9 (AO.Az V) ls), Ad.own (AO.last V) 56 16 ((ev).flatMap Ing.Event.enc)] (fun w => (GV 2 Fl w ∧ 2 ∉ Cb [Ad.box b 101 (AO.enc V), Ad.D6 (CR 9 (AO.Az V) ls), Ad.own (AO.last V) 56 16 ((ev).flatMap Ing.Event.enc)]) ∧ (GV 0 AG.DD w ∧ 0 ∉ Cb [Ad.box b 101 (AO.enc V), Ad.D6 (CR 9 (AO.Az V) ls), Ad.own (AO.last V) 56 16 ((ev).flatMap Ing.Event.enc)]) ∧ (Gk 7 w ∧ 7 ∉ Cb [Ad.box b 101 (AO.enc V), Ad.D6 (CR 9 (AO.Az V) ls), Ad.own (AO.last V) 56 16 ((ev).flatMap Ing.Event.enc)]) ∧ (Gk 8 w ∧ 8 ∉ Cb [Ad.box b 101 (AO.enc V), Ad.D6 (CR 9 (AO.Az V) ls), Ad.own (AO.last V) 56 16 ((ev).flatMap Ing.Event.enc)])) (fun v B => ∃ V' ls' ev', v = .tuple #[] ∧ A5 V' ls' ev' = AI.Jw (A5 V ls ev) k ∧ B = [Ad.box b 101 (AO.enc V'), Ad.D6 (CR 9 (AO.Az V') ls'), Ad.own (AO.last V') 56 16 ((ev').flatMap Ing.Event.enc)]) := by
 intro w hS0 hH
 obtain ⟨⟨gl0, gm0⟩, ⟨gl1, gm1⟩, ⟨gl2, gm2⟩, ⟨gl3, gm3⟩⟩ := hH
 refine Al _ _ Tryz.func61 rfl rfl rfl (hS0) ?_
 refine Ao ?_
 refine Ft (k := k) hk.1 hk.2 (fun sv sl hsv hlv hln => ?_)
 refine AJ (Gm rfl (Gt (BC U8 Uy rfl (.cons A2.l0 rfl rfl rfl (.cons A2.l1 rfl rfl rfl .nil))) (Gt (BV rfl) ?_)))
 refine AT (AK (AU.BL V hk.1 hk.2) rfl rfl rfl Tl rfl (.t (.t (.t .h)))) ?_
 refine Gn (.t2 0 1) (CD ?_)
 refine Gt (Eu Tryz.underlying145 C9 aE rfl (.cons (AU.arr (n := 2) (i := 0) B1 (by decide) (by decide)) rfl rfl rfl (.cons (AU.arr (n := 2) (i := 1) B1 (by decide) (by decide)) rfl rfl rfl .nil))) ?_
 refine Gm rfl (AQ (AA (Ae ?_)))
 refine Bo (.t4 12 0 1 11) ?_
 refine Bg (.t (.t (.t .h))) ?_
 refine Dq (fun (j : Int) (t : AP) (g : Page.Pg) => 0 ≤ j ∧ j ≤ 2 ∧ t = (El j.toNat).1 ∧ g = (El j.toNat).2) (fun (j : Int) (t : AP) (g : Page.Pg) => (2 - j).toNat) (fun (j : Int) (t : AP) (g : Page.Pg) => [(12, .int .i64 j)]) (fun (j : Int) (t : AP) (g : Page.Pg) => [Ad.box b 101 (Js V k (EL t g))]) (0) (default) (⟨0, false, [], false⟩) ?_ rfl rfl (fun j t g hI1 => ?_)
 · exact ⟨by omega, by omega, rfl, rfl⟩
 obtain ⟨hI11, hI12, hI13, hI14⟩ := hI1
 refine Gs (Gt (A9 rfl rfl) (AQ (AA (Ao ?_))))
 refine Gc (fun c1 => ?_) (fun c1 => ?_)
 ·
  have c1p := kz c1
  refine Aa ?_
  refine AB (.t4 0 1 11 12) ?_
  refine AA (Ao (Ae (Gs ?_)))
  refine Gt (KG B1 Tryz.underlying145 C9 A4 rfl rfl (by first | omega | exact hk.1 | exact hk.2 | (have h1 := FU t (Dp j); have h2 := Hv (t.DG (Dp j)).1 (Dp j); dsimp only [Dp, EL] at *; (try simp only [List.length_nil]); omega)) (by first | omega | exact hk.1 | exact hk.2 | (have h1 := FU t (Dp j); have h2 := Hv (t.DG (Dp j)).1 (Dp j); dsimp only [Dp, EL] at *; (try simp only [List.length_nil]); omega)) rfl) ?_
  refine Ga rfl (Gn (.t5 0 1 5 11 12) (Gs (Ga rfl (Ga rfl (Gn (.t6 0 1 5 7 11 12) (CD (Gm rfl ?_)))))))
  refine Gm rfl (Gt (BV rfl) (Gt (Ah Kg rfl) (Gt (AZ rfl D1 .m0 ((AU.BL V hk.1 hk.2).comp A2.l2) rfl) (Gm rfl ?_))))
  refine BA rfl dT (.c rfl (.c rfl .n)) (fun w hS => Le _ _ w) ?_
  refine Gm rfl (Gt (AM rfl rfl) (Gt (AM rfl rfl) (Gt (AM rfl rfl) (Gt (BV rfl) (Gt (Ah Kg rfl) ?_)))))
  refine AT (AK ((AU.BL V hk.1 hk.2).comp A2.l2) rfl rfl rfl KT rfl .h) ?_
  refine Ga rfl (Gn (.t7 0 1 5 6 7 11 12) (Gs (Gm rfl (Gt (Bu rfl rfl) (Gn (.t8 0 1 5 6 7 11 12 29) ?_)))))
  refine Gc (fun c2 => ?_) (fun c2 => ?_)
  ·
   have c2p := kz c2
   refine AJ (Gm rfl (Gm rfl (Gt (BV rfl) (Gt (Ah Kg rfl) (Gt (AZ rfl D1 .m0 ((AU.BL V hk.1 hk.2).comp A2.l2) rfl) (Gm rfl ?_))))))
   refine BA rfl cy (.c rfl (.c rfl .n)) (fun w hS => M4 _ _ w) ?_
   refine Gm rfl (Gt (AM rfl rfl) (Gt (AM rfl rfl) (Gt (AM rfl rfl) (Gt (BV rfl) (Gt (Ah Kg rfl) ?_)))))
   refine AT (AK ((AU.BL V hk.1 hk.2).comp A2.l2) rfl rfl rfl KT rfl .h) ?_
   refine Ga rfl (Gn (.t6 0 1 6 7 11 12) (AJ (Gm rfl (Gm rfl (Gt (BV rfl) (Gt (Ah Dw rfl) (Gt (AZ rfl Cw .m0 ((AU.BL V hk.1 hk.2).comp A2.l4) rfl) ?_)))))))
   refine Gm rfl (Gm rfl ?_)
   refine Gt (CT rfl rfl (by first | omega | exact hk.1 | exact hk.2 | (have h1 := FU t (Dp j); have h2 := Hv (t.DG (Dp j)).1 (Dp j); dsimp only [Dp, EL] at *; (try simp only [List.length_nil]); omega))) ?_
   refine BA rfl Wl (.c rfl (.c rfl .n)) (fun w hS => EK _ _ (by simp only [List.length_append]; have h1 := FU t (Dp j); have h2 := Hv (t.DG (Dp j)).1 (Dp j); dsimp only [Dp, EL] at *; (try simp only [List.length_nil]); omega) w) ?_
   refine Gm rfl (Gt (AM rfl rfl) (Gt (AM rfl rfl) (Gt (BV rfl) (Gt (Ah Dw rfl) ?_))))
   refine AT (AK ((AU.BL V hk.1 hk.2).comp A2.l4) rfl rfl rfl Fc rfl .h) ?_
   refine AQ (AB (.t4 0 1 11 12) ?_)
   refine AV (AA ?_)
   refine GF (fun _ => .h) (congrArg (Js V k) (show _ = EL (H4 t (Dp j)) (K6 t g (Dp j)) from by rw [EL, K6, show H4 t (Dp j) = _ from BB c2, show MG t (Dp j) = _ from BB c2]; rfl)) ?_
   refine AJ ?_
   refine Gt (Au rfl rfl (IntWalk.i64_in _ (by first | omega | exact hk.1 | exact hk.2 | (have h1 := FU t (Dp j); have h2 := Hv (t.DG (Dp j)).1 (Dp j); dsimp only [Dp, EL] at *; (try simp only [List.length_nil]); omega)))) ?_
   refine Gm rfl ?_
   refine AQ (AB (.t4 0 1 11 12) ?_)
   refine Bw (j + 1) _ _ ?_ ?_ (.t4 12 0 1 11) (.refl _)
   · exact ⟨by omega, by omega, by rw [HC hI11, ← hI13, ← hI14], by rw [HC hI11, ← hI13, ← hI14]⟩
   · omega
  have c2p := kz c2
  refine Aa ?_
  refine AB (.t6 0 1 6 7 11 12) ?_
  refine AA (AJ (Gm rfl (Gm rfl (Gt (BV rfl) (Gt (Ah Dw rfl) (Gt (AZ rfl Cw .m0 ((AU.BL V hk.1 hk.2).comp A2.l4) rfl) (Gm rfl ?_)))))))
  refine Gm rfl ?_
  refine Gt (CT rfl rfl (by first | omega | exact hk.1 | exact hk.2 | (have h1 := FU t (Dp j); have h2 := Hv (t.DG (Dp j)).1 (Dp j); dsimp only [Dp, EL] at *; (try simp only [List.length_nil]); omega))) ?_
  refine BA rfl Wl (.c rfl (.c rfl .n)) (fun w hS => EK _ _ (by simp only [List.length_append]; have h1 := FU t (Dp j); have h2 := Hv (t.DG (Dp j)).1 (Dp j); dsimp only [Dp, EL] at *; (try simp only [List.length_nil]); omega) w) ?_
  refine Gm rfl (Gt (AM rfl rfl) (Gt (AM rfl rfl) (Gt (BV rfl) (Gt (Ah Dw rfl) ?_))))
  refine AT (AK ((AU.BL V hk.1 hk.2).comp A2.l4) rfl rfl rfl Fc rfl .h) ?_
  refine AQ (AB (.t4 0 1 11 12) ?_)
  refine AV (AA ?_)
  refine GF (fun _ => .h) (congrArg (Js V k) (show _ = EL (H4 t (Dp j)) (K6 t g (Dp j)) from by rw [EL, K6, show H4 t (Dp j) = _ from AW c2, show MG t (Dp j) = _ from AW c2]; rfl)) ?_
  refine AJ ?_
  refine Gt (Au rfl rfl (IntWalk.i64_in _ (by first | omega | exact hk.1 | exact hk.2 | (have h1 := FU t (Dp j); have h2 := Hv (t.DG (Dp j)).1 (Dp j); dsimp only [Dp, EL] at *; (try simp only [List.length_nil]); omega)))) ?_
  refine Gm rfl ?_
  refine AQ (AB (.t4 0 1 11 12) ?_)
  refine Bw (j + 1) _ _ ?_ ?_ (.t4 12 0 1 11) (.refl _)
  · exact ⟨by omega, by omega, by rw [HC hI11, ← hI13, ← hI14], by rw [HC hI11, ← hI13, ← hI14]⟩
  · omega
 have c1p := kz c1
 obtain rfl : j = 2 := by omega
 refine Be (AX (AX (Aj ?_)))
 refine AB (.t2 0 1) ?_
 refine AA (Ao ?_)
 refine Ez A7 9 1 ?_
 refine Ez A7 9 1 ?_
 refine Ez A7 9 1 ?_
 refine Ep (.c (.t (.t .h)) (.c (.t .h) (.c .h (.c .h (.c (.t (.t (.t .h))) .n))))) ?_
 refine G9 hk.1 hk.2 (by rfl) (by rfl) (by rfl) ?_
 refine AJ (Gm rfl (Gm rfl ?_))
 refine Ai rfl TL (.c rfl (.c rfl (.c rfl .n))) (.c .h (.c .h (.c (.t (.t (.t .h))) .n))) (EF _ (AO.BL V k (EL t g)) (ls.put k ⟨[], [], []⟩) ev k _ hk (by rw [Vector.CB hk.1 hk.2]; exact Nat.zero_le _)) (fun v4 B hv => ?_)
 obtain ⟨y5, y6, y7, rfl, y8, rfl⟩ := hv
 refine Gn (.t1 0) (AJ (Gm rfl ?_))
 refine BE rfl SN (.c rfl .n) (.c .h (.c .h (.c .h .n))) (Dl _ y5 y6 y7 (n + 1) m (by rw [y8, (show A5 (AO.BL V k (EL t g)) (ls.put k ⟨[], [], []⟩) ev = AI.set (A5 V ls ev) k (Ck (EL t g) YJ) from Ik V ls ev hk.1 hk.2 _ _)]; exact (hF.comes hk.1 hk.2 t g).tell hk.1 hk.2 (show AI.Hj.length ≤ _ by decide)) (by omega) (by omega)) (fun w hS => ⟨gl0.pull gm0 hS (.c .h (.c .h (.c .h .n))), gl1.pull gm1 hS (.c .h (.c .h (.c .h .n))), gl2.pull gm2 hS (.c .h (.c .h (.c .h .n))), gl3.pull gm3 hS (.c .h (.c .h (.c .h .n)))⟩) (fun v9 B hv => ?_)
 obtain ⟨y10, y11, y12, rfl, y13, rfl⟩ := hv
 refine AQ ?_
 refine Bj rfl .n ?_
 intro w1 hS
 have hS := (hS.perm (As.perm (.c .h (.c .h (.c .h .n))))).A1
 refine ⟨_, ⟨y10, y11, y12, rfl, ?ga1, rfl⟩, hS⟩
 case ga1 => rw [y13, y8, (show A5 (AO.BL V k (EL t g)) (ls.put k ⟨[], [], []⟩) ev = AI.set (A5 V ls ev) k (Ck (EL t g) YJ) from Ik V ls ev hk.1 hk.2 _ _), hI13, hI14]; unfold AI.Jw; rw [← OJ]; rfl
theorem En {α : Type} {ea : α → List Value} {o : Nat} {g : α → Int} {st : α → Int → α} (b V : Nat) (Y : α) (on : Bool) (opt yes no : Int) (h0 : 0 ≤ yes ∧ yes ≤ 255) (h1 : 0 ≤ no ∧ no ≤ 255) (h2 : 0 ≤ opt ∧ opt ≤ 255) (ln : AU ea Av o 1 g st) : JL Tryz.prog 75 #[.pointer (some ⟨b, o, none⟩), .bool on, .int .i64 opt, .int .i64 yes, .int .i64 no] [Ad.box b V (ea Y)] (fun v B => v = BT (AP.IW (g Y) on opt yes no) ∧ B = [Ad.box b V (ea (st Y (AP.YA on)))]) := by
 intro w hS0
 refine Al _ _ Tryz.func75 rfl rfl rfl (hS0) ?_
 refine Gs (Ga rfl (Gn (.t5 0 1 2 3 4) (Gs (Gm rfl (Gt (BV rfl) (Gt (AH rfl A4 .m0 ln rfl rfl) (Ga rfl ?_)))))))
 refine Gn (.t6 0 1 2 3 4 11) (Gs (Gm rfl (Gt (BV rfl) ?_)))
 refine AT (AK ln rfl rfl rfl C9 rfl .h) ?_
 refine Gn (.t6 0 1 2 3 4 11) (CD (Gm rfl (AQ (AA ?_))))
 refine Gc (fun c1 => ?_) (fun c1 => ?_)
 ·
  have c1p := kz c1
  refine AJ (Gm rfl (Gt (BV rfl) ?_))
  refine AT (AK ln rfl rfl rfl C9 rfl .h) ?_
  refine Gn (.t5 1 2 3 4 11) (Ao (Ae (Gs (Gm rfl (Gm rfl (Bm 22 rfl rfl (fun q => AF rfl) (Bm 22 rfl rfl (fun q => Af (Bh rfl q) rfl) ?_)))))))
  refine Gt (BJ rfl rfl (fun h => h)) (Ga rfl (Gn (.t6 1 2 3 4 11 20) ?_))
  refine Gc (fun c2 => ?_) (fun c2 => ?_)
  ·
   have c2p := kz c2
   refine Gs (Gm rfl (Gm rfl ?_))
   refine BA rfl RZ (.c rfl (.c rfl .n)) (fun w hS => Cv _ _ (by first | assumption | omega) (by first | assumption | omega) w) ?_
   refine Ga rfl (Gn (.t1 10) (Ab (AS (AD ?_))))
   refine AY rfl (.tmp rfl .n) ?_
   intro w1 hS
   have hS := (hS.perm (As.perm (.c .h .n))).A1
   exact ⟨_, ⟨by clear hS; simp_all [AP.IW, VW], by simp only [AP.YA, ln.KA, c1, c2, ↓reduceIte, Bool.false_eq_true]⟩, hS⟩
  have c2p := kz c2
  refine Gs (Gm rfl (Gt (BX rfl) (Gm rfl (Bm 32 rfl rfl (fun q => AF rfl) (Bm 32 rfl rfl (fun q => Af (Bh rfl q) rfl) (Gt (BJ rfl rfl (fun h => h)) (Ga rfl ?_)))))))
  refine Gn (.t3 2 4 29) ?_
  refine Gc (fun c3 => ?_) (fun c3 => ?_)
  ·
   have c3p := kz c3
   refine Gs (Gm rfl (Gm rfl ?_))
   refine BA rfl RZ (.c rfl (.c rfl .n)) (fun w hS => Cv _ _ (by first | assumption | omega) (by first | assumption | omega) w) ?_
   refine Ga rfl (Gn (.t1 10) (Ab (AS (AD ?_))))
   refine AY rfl (.tmp rfl .n) ?_
   intro w1 hS
   have hS := (hS.perm (As.perm (.c .h .n))).A1
   exact ⟨_, ⟨by clear hS; simp_all [AP.IW, VW], by simp only [AP.YA, ln.KA, c1, c2, c3, ↓reduceIte, Bool.false_eq_true]⟩, hS⟩
  have c3p := kz c3
  refine Aa ?_
  refine AB (.nil _) ?_
  refine AV (AA (Gs (Ga rfl (AQ (AA (Ab ?_))))))
  refine AY rfl (.tmp rfl .n) ?_
  intro w1 hS
  have hS := (hS.perm (As.perm (.c .h .n))).A1
  exact ⟨_, ⟨by clear hS; simp_all [AP.IW, VW], by simp only [AP.YA, ln.KA, c1, c2, c3, ↓reduceIte, Bool.false_eq_true]⟩, hS⟩
 have c1p := kz c1
 refine Aa ?_
 refine AB (.t5 1 2 3 4 11) ?_
 refine AA (Ao (Ae (Gs (Gm rfl (Gm rfl (Bm 22 rfl rfl (fun q => AF rfl) (Bm 22 rfl rfl (fun q => Af (Bh rfl q) rfl) ?_)))))))
 refine Gt (BJ rfl rfl (fun h => h)) (Ga rfl (Gn (.t6 1 2 3 4 11 20) ?_))
 refine Gc (fun c4 => ?_) (fun c4 => ?_)
 ·
  have c4p := kz c4
  refine Gs (Gm rfl (Gm rfl ?_))
  refine BA rfl RZ (.c rfl (.c rfl .n)) (fun w hS => Cv _ _ (by first | assumption | omega) (by first | assumption | omega) w) ?_
  refine Ga rfl (Gn (.t1 10) (Ab (AS (AD ?_))))
  refine AY rfl (.tmp rfl .n) ?_
  intro w1 hS
  have hS := (hS.perm (As.perm (.c .h .n))).A1
  exact ⟨_, ⟨by clear hS; simp_all [AP.IW, VW], by simp only [AP.YA, ln.KA, c1, c4, ↓reduceIte, Bool.false_eq_true]⟩, hS⟩
 have c4p := kz c4
 refine Gs (Gm rfl (Gt (BX rfl) (Gm rfl (Bm 32 rfl rfl (fun q => AF rfl) (Bm 32 rfl rfl (fun q => Af (Bh rfl q) rfl) (Gt (BJ rfl rfl (fun h => h)) (Ga rfl ?_)))))))
 refine Gn (.t3 2 4 29) ?_
 refine Gc (fun c5 => ?_) (fun c5 => ?_)
 ·
  have c5p := kz c5
  refine Gs (Gm rfl (Gm rfl ?_))
  refine BA rfl RZ (.c rfl (.c rfl .n)) (fun w hS => Cv _ _ (by first | assumption | omega) (by first | assumption | omega) w) ?_
  refine Ga rfl (Gn (.t1 10) (Ab (AS (AD ?_))))
  refine AY rfl (.tmp rfl .n) ?_
  intro w1 hS
  have hS := (hS.perm (As.perm (.c .h .n))).A1
  exact ⟨_, ⟨by clear hS; simp_all [AP.IW, VW], by simp only [AP.YA, ln.KA, c1, c4, c5, ↓reduceIte, Bool.false_eq_true]⟩, hS⟩
 have c5p := kz c5
 refine Aa ?_
 refine AB (.nil _) ?_
 refine AV (AA (Gs (Ga rfl (AQ (AA (Ab ?_))))))
 refine AY rfl (.tmp rfl .n) ?_
 intro w1 hS
 have hS := (hS.perm (As.perm (.c .h .n))).A1
 exact ⟨_, ⟨by clear hS; simp_all [AP.IW, VW], by simp only [AP.YA, ln.KA, c1, c4, c5, ↓reduceIte, Bool.false_eq_true]⟩, hS⟩
theorem JG (b : Nat) (X : AP) (verb opt : Int) (h0 : 0 ≤ opt ∧ opt ≤ 255) : JL Tryz.prog 56 #[.pointer (some ⟨b, 0, none⟩), .int .i64 verb, .int .i64 opt] [Ad.box b 69 X.enc] (fun v B => v = BT (X.B2 verb opt).2 ∧ B = [Ad.box b 69 (X.B2 verb opt).1.enc]) := by
 intro w hS0
 refine Al _ _ Tryz.func56 rfl rfl rfl (hS0) ?_
 refine Gs (Ga rfl (Gn (.t3 0 1 2) (Gs (Gm rfl ?_))))
 refine BA rfl Zr (.c rfl .n) (fun w hS => Fe _ w) ?_
 refine Gm rfl (Gt (AM rfl rfl) (Gt (AM rfl rfl) (Gt (AM rfl rfl) (Ga rfl (Ga rfl (Ga rfl (Gn (.t6 0 1 2 7 8 9) ?_)))))))
 refine CD (Gm rfl (Gn (.t6 0 2 7 8 9 16) (Ae (Gs (Gt (Af rfl rfl) (Ga rfl (Gn (.t7 0 2 7 8 9 16 17) ?_)))))))
 refine Gc (fun c1 => ?_) (fun c1 => ?_)
 ·
  have c1p := kz c1
  refine CD (Gm rfl (Gt (BX rfl) (Gn (.t4 0 2 7 20) ?_)))
  refine Gc (fun c2 => ?_) (fun c2 => ?_)
  ·
   have c2p := kz c2
   refine Gs (Gm rfl ?_)
   refine BA rfl RZ (.c rfl (.c rfl .n)) (fun w hS => Cv _ _ (by first | assumption | omega) (by first | assumption | omega) w) ?_
   refine Ga rfl (Gn (.t1 6) (Ab (AD (AS (AD ?_)))))
   refine AY rfl (.tmp rfl .n) ?_
   intro w1 hS
   have hS := (hS.perm (As.perm (.c .h .n))).A1
   exact ⟨_, ⟨by simp only [AP.B2, c1, c2, ↓reduceIte, Bool.false_eq_true] <;> rfl, by simp only [AP.B2, c1, c2, ↓reduceIte, Bool.false_eq_true] <;> rfl⟩, hS⟩
  have c2p := kz c2
  have hk := AP.Oc (opt := opt) (by simpa using c2)
  have hk1 : 0 ≤ (AP.place opt).1 ∧ (AP.place opt).1 < 3 := by rcases hk with ⟨_, e⟩ | ⟨_, e⟩ <;> rw [e] <;> decide
  refine Aa ?_
  refine AB (.t3 0 2 7) ?_
  refine AA (Gs (Gm rfl (Gm rfl (Gt (BV rfl) (Gt (Ah Ke rfl) ?_)))))
  refine Gt (AR Kp rfl rfl (by omega) (by omega)) ?_
  refine Gm rfl ?_
  refine Ai rfl Yi (.c rfl (.c rfl (.c rfl (.c rfl (.c rfl .n))))) (.c .h .n) (En _ _ _ _ _ _ _ (by first | assumption | omega) (by first | assumption | omega) (by first | assumption | omega) (AP.l3.comp (AU.ar (n := 3) B1 (by omega)))) (fun v1 B hv => ?_)
  obtain ⟨rfl, rfl⟩ := hv
  refine Ga rfl (Gn (.t1 6) (Ab (AS (AD ?_))))
  refine AY rfl (.tmp rfl .n) ?_
  intro w1 hS
  have hS := (hS.perm (As.perm (.c .h .n))).A1
  exact ⟨_, ⟨by simp only [AP.B2, c1, c2, ↓reduceIte, Bool.false_eq_true] <;> rfl, by simp only [AP.B2, c1, c2, ↓reduceIte, Bool.false_eq_true] <;> rfl⟩, hS⟩
 have c1p := kz c1
 refine Gs (Gt (Af rfl rfl) (Ga rfl (Gn (.t7 0 2 7 8 9 16 30) ?_)))
 refine Gc (fun c3 => ?_) (fun c3 => ?_)
 ·
  have c3p := kz c3
  refine Gs (Gm rfl (Gn (.t4 0 2 7 32) ?_))
  refine Gc (fun c4 => ?_) (fun c4 => ?_)
  ·
   have c4p := kz c4
   have hk := AP.Oc (opt := opt) (by simpa using c4)
   have hk1 : 0 ≤ (AP.place opt).1 ∧ (AP.place opt).1 < 3 := by rcases hk with ⟨_, e⟩ | ⟨_, e⟩ <;> rw [e] <;> decide
   refine Gs (Gm rfl (Gm rfl (Gt (BV rfl) (Gt (Ah Ke rfl) ?_))))
   refine Gt (AR Kp rfl rfl (by omega) (by omega)) ?_
   refine Gm rfl ?_
   refine Ai rfl Yi (.c rfl (.c rfl (.c rfl (.c rfl (.c rfl .n))))) (.c .h .n) (En _ _ _ _ _ _ _ (by first | assumption | omega) (by first | assumption | omega) (by first | assumption | omega) (AP.l3.comp (AU.ar (n := 3) B1 (by omega)))) (fun v2 B hv => ?_)
   obtain ⟨rfl, rfl⟩ := hv
   refine Ga rfl (Gn (.t1 6) (Ab (AS (AD ?_))))
   refine AY rfl (.tmp rfl .n) ?_
   intro w1 hS
   have hS := (hS.perm (As.perm (.c .h .n))).A1
   exact ⟨_, ⟨by simp only [AP.B2, c1, c3, c4, ↓reduceIte, Bool.false_eq_true] <;> rfl, by simp only [AP.B2, c1, c3, c4, ↓reduceIte, Bool.false_eq_true] <;> rfl⟩, hS⟩
  refine Aa ?_
  refine AB (.nil _) ?_
  refine AV (AA (Gs (Ga rfl (AQ (AA (Ab ?_))))))
  refine AY rfl (.tmp rfl .n) ?_
  intro w1 hS
  have hS := (hS.perm (As.perm (.c .h .n))).A1
  exact ⟨_, ⟨by simp only [AP.B2, c1, c3, c4, ↓reduceIte, Bool.false_eq_true] <;> rfl, by simp only [AP.B2, c1, c3, c4, ↓reduceIte, Bool.false_eq_true] <;> rfl⟩, hS⟩
 have c3p := kz c3
 refine Gs (Gt (Af rfl rfl) (Ga rfl (Gn (.t6 0 2 7 9 16 40) ?_)))
 refine Gc (fun c5 => ?_) (fun c5 => ?_)
 ·
  have c5p := kz c5
  refine CD (Gm rfl (Gt (BX rfl) (Gn (.t4 0 2 7 43) ?_)))
  refine Gc (fun c6 => ?_) (fun c6 => ?_)
  ·
   have c6p := kz c6
   refine Gs (Gm rfl ?_)
   refine BA rfl RZ (.c rfl (.c rfl .n)) (fun w hS => Cv _ _ (by first | assumption | omega) (by first | assumption | omega) w) ?_
   refine Ga rfl (Gn (.t1 6) (Ab (AD (AS (AD ?_)))))
   refine AY rfl (.tmp rfl .n) ?_
   intro w1 hS
   have hS := (hS.perm (As.perm (.c .h .n))).A1
   exact ⟨_, ⟨by simp only [AP.B2, c1, c3, c5, c6, ↓reduceIte, Bool.false_eq_true] <;> rfl, by simp only [AP.B2, c1, c3, c5, c6, ↓reduceIte, Bool.false_eq_true] <;> rfl⟩, hS⟩
  have c6p := kz c6
  have hk := AP.Kx (opt := opt) (by simpa using c6)
  have hk1 : 0 ≤ (AP.place opt).1 ∧ (AP.place opt).1 < 3 := by rcases hk with ⟨_, e⟩ | ⟨_, e⟩ <;> rw [e] <;> decide
  refine Aa ?_
  refine AB (.t3 0 2 7) ?_
  refine AA (Gs (Gm rfl (Gm rfl (Gt (BV rfl) (Gt (Ah Jh rfl) ?_)))))
  refine Gt (AR Kp rfl rfl (by omega) (by omega)) ?_
  refine Gm rfl ?_
  refine Ai rfl Yi (.c rfl (.c rfl (.c rfl (.c rfl (.c rfl .n))))) (.c .h .n) (En _ _ _ _ _ _ _ (by first | assumption | omega) (by first | assumption | omega) (by first | assumption | omega) (AP.l4.comp (AU.ar (n := 3) B1 (by omega)))) (fun v3 B hv => ?_)
  obtain ⟨rfl, rfl⟩ := hv
  refine Ga rfl (Gn (.t1 6) (Ab (AS (AD ?_))))
  refine AY rfl (.tmp rfl .n) ?_
  intro w1 hS
  have hS := (hS.perm (As.perm (.c .h .n))).A1
  exact ⟨_, ⟨by simp only [AP.B2, c1, c3, c5, c6, ↓reduceIte, Bool.false_eq_true] <;> rfl, by simp only [AP.B2, c1, c3, c5, c6, ↓reduceIte, Bool.false_eq_true] <;> rfl⟩, hS⟩
 have c5p := kz c5
 refine Gs (Gt (Af rfl rfl) (Ga rfl (Gn (.t5 0 2 7 9 53) ?_)))
 refine Gc (fun c7 => ?_) (fun c7 => ?_)
 ·
  have c7p := kz c7
  refine Gs (Gm rfl (Gn (.t4 0 2 7 55) ?_))
  refine Gc (fun c8 => ?_) (fun c8 => ?_)
  ·
   have c8p := kz c8
   have hk := AP.Kx (opt := opt) (by simpa using c8)
   have hk1 : 0 ≤ (AP.place opt).1 ∧ (AP.place opt).1 < 3 := by rcases hk with ⟨_, e⟩ | ⟨_, e⟩ <;> rw [e] <;> decide
   refine Gs (Gm rfl (Gm rfl (Gt (BV rfl) (Gt (Ah Jh rfl) ?_))))
   refine Gt (AR Kp rfl rfl (by omega) (by omega)) ?_
   refine Gm rfl ?_
   refine Ai rfl Yi (.c rfl (.c rfl (.c rfl (.c rfl (.c rfl .n))))) (.c .h .n) (En _ _ _ _ _ _ _ (by first | assumption | omega) (by first | assumption | omega) (by first | assumption | omega) (AP.l4.comp (AU.ar (n := 3) B1 (by omega)))) (fun v4 B hv => ?_)
   obtain ⟨rfl, rfl⟩ := hv
   refine Ga rfl (Gn (.t1 6) (Ab (AS (AD ?_))))
   refine AY rfl (.tmp rfl .n) ?_
   intro w1 hS
   have hS := (hS.perm (As.perm (.c .h .n))).A1
   exact ⟨_, ⟨by simp only [AP.B2, c1, c3, c5, c7, c8, ↓reduceIte, Bool.false_eq_true] <;> rfl, by simp only [AP.B2, c1, c3, c5, c7, c8, ↓reduceIte, Bool.false_eq_true] <;> rfl⟩, hS⟩
  refine Aa ?_
  refine AB (.nil _) ?_
  refine AV (AA (Gs (Ga rfl (AQ (AA (Ab ?_))))))
  refine AY rfl (.tmp rfl .n) ?_
  intro w1 hS
  have hS := (hS.perm (As.perm (.c .h .n))).A1
  exact ⟨_, ⟨by simp only [AP.B2, c1, c3, c5, c7, c8, ↓reduceIte, Bool.false_eq_true] <;> rfl, by simp only [AP.B2, c1, c3, c5, c7, c8, ↓reduceIte, Bool.false_eq_true] <;> rfl⟩, hS⟩
 refine Aa ?_
 refine AB (.nil _) ?_
 refine AV (AA (Gs (Ga rfl (AQ (AA (Ab ?_))))))
 refine AY rfl (.tmp rfl .n) ?_
 intro w1 hS
 have hS := (hS.perm (As.perm (.c .h .n))).A1
 exact ⟨_, ⟨by simp only [AP.B2, c1, c3, c5, c7, ↓reduceIte, Bool.false_eq_true] <;> rfl, by simp only [AP.B2, c1, c3, c5, c7, ↓reduceIte, Bool.false_eq_true] <;> rfl⟩, hS⟩
theorem G1 (b : Nat) (X : AP) (c : UInt8) (h0 : X.sub.length ≤ 16) : JL Tryz.prog 57 #[.pointer (some ⟨b, 0, none⟩), .int .u8 (c.toNat : Int)] [Ad.box b 69 X.enc] (fun v B => v = .tuple #[] ∧ B = [Ad.box b 69 (X.collect c).enc]) := by
 intro w hS0
 refine Al _ _ Tryz.func57 rfl rfl rfl (hS0) ?_
 refine Gs (Gm rfl (Gt (BV rfl) (Gt (Ah Gp rfl) (Gt (AH rfl CO .m0 AP.l2 rfl rfl) (Gt (BG rfl Tryz.underlying9 rfl) (Gt (A9 rfl rfl) (Gn (.t3 0 1 9) ?_)))))))
 refine Gc (fun c1 => ?_) (fun c1 => ?_)
 ·
  have c1p := kz c1
  refine BD (N := 11) [0, 1, 3, 7, 0, 16, 48, 127, 255, 511, 1023] mix (by kernel_rfl) rfl ?_
  refine Pf 0 rfl (AF rfl) (Pf 1 rfl (BV rfl) (Pf 2 rfl (Ah Gp rfl) (Pf 3 rfl (AH rfl CO .m0 AP.l2 rfl rfl) (Pf 4 rfl (AF rfl) ?_))))
  refine An 5 rfl (by kernel_rfl) ?_
  refine Sk rfl Tryz.underlying105 Vk ZN rfl (by decide) (by decide) rfl rfl rfl (fun b1 => ?_)
  refine Bp rfl ⟨?_, ?_⟩
  · exact (Pk (Po rfl (AH rfl CO .m1 AP.l2 rfl rfl) rfl rfl (Po rfl (Ah Gp rfl) rfl rfl (Po rfl (BV rfl) rfl rfl (Po rfl (AF rfl) rfl rfl Aq)))))
  refine Pf 6 rfl (OR (s := [c]) rfl Tryz.underlying105 Tryz.underlying9 Tryz.underlying5 rfl (Kn.own .m0)) ?_
  refine Pf 7 rfl (CT rfl rfl (by simp only [List.length_cons, List.length_nil]; omega)) ?_
  refine Pf 8 rfl (BV rfl) (Pf 9 rfl (Ah Gp rfl) ?_)
  refine An 10 rfl (by kernel_rfl) ?_
  refine AT (AK AP.l2 rfl rfl rfl Ey rfl (.t .h)) ?_
  refine BM rfl ⟨?_, ?_⟩
  · exact (Pk (Pk (Pk (Pk (Pk (Pk (Pk (Pk (Pk Aq)))))))))
  refine A3 (by kernel_rfl) ?_
  refine Bj rfl .n ?_
  intro w1 hS
  have hS := (hS.perm (As.perm (.c (.t .h) .n))).A1
  exact ⟨_, ⟨rfl, by simp only [AP.collect, c1, ↓reduceIte, Bool.false_eq_true]⟩, hS⟩
 refine Aa ?_
 refine Bj rfl .n ?_
 intro w1 hS
 have hS := (hS.perm (As.perm (.c .h .n))).A1
 exact ⟨_, ⟨rfl, by simp only [AP.collect, c1, ↓reduceIte, Bool.false_eq_true]⟩, hS⟩
theorem KW (b : Nat) (X : AP) : JL Tryz.prog 58 #[.pointer (some ⟨b, 0, none⟩)] [Ad.box b 69 X.enc] (fun v B => v = .tuple #[] ∧ B = [Ad.box b 69 X.measure.enc]) := by
 intro w hS0
 refine Al _ _ Tryz.func58 rfl rfl rfl (hS0) ?_
 refine Gs (Gm rfl (Gt (BV rfl) (Gt (Ah Gp rfl) (Gt (AH rfl CO .m0 AP.l2 rfl rfl) (Gt (BG rfl Tryz.underlying9 rfl) (Gt (Af rfl rfl) (Gm rfl ?_)))))))
 refine Bm 8 rfl rfl (fun q => AF rfl) (Bm 8 rfl rfl (fun q => BV (Bh rfl q)) (Bm 8 rfl rfl (fun q => Ah Gp (Bh rfl q)) (Bm 8 rfl rfl (fun q => AH (Bh rfl q) CO .m0 AP.l2 rfl rfl) ?_)))
 refine Bm 8 rfl rfl (fun q => by have q1 := q; (try simp at q1); exact Bk Tryz.underlying9 (Bh rfl q) rfl (by decide) (by omega)) ?_
 refine Bm 8 rfl rfl (fun q => Af (Bh rfl q) rfl) (Gt (BJ rfl rfl (fun h => h)) (Gm rfl (Bm 16 rfl rfl (fun q => AF rfl) (Bm 16 rfl rfl (fun q => BV (Bh rfl q)) (Bm 16 rfl rfl (fun q => Ah Jh (Bh rfl q)) ?_)))))
 refine Bm 16 rfl rfl (fun q => AR Kp (Bh rfl q) rfl (by decide) (by decide)) ?_
 refine Bm 16 rfl rfl (fun q => AH (Bh rfl q) A4 .m0 (AP.l4.comp (AU.arr (n := 3) B1 (by decide) (by decide))) rfl rfl) ?_
 refine Bm 16 rfl rfl (fun q => Af (Bh rfl q) rfl) (Gt (BJ rfl rfl (fun h => h)) (Gn (.t2 0 23) ?_))
 refine Gc (fun c1 => ?_) (fun c1 => ?_)
 ·
  have c1p := kz c1
  refine BD (N := 19) [0, 0, 2, 6, 14, 30, 62, 126, 0, 256, 768, 1792, 3840, 7936, 16382, 32766, 65535, 131071, 262143] mix (by kernel_rfl) rfl ?_
  refine Pf 0 rfl (AF rfl) (Pf 1 rfl (AF rfl) (Pf 2 rfl (BV rfl) (Pf 3 rfl (Ah Gp rfl) (Pf 4 rfl (AH rfl CO .m0 AP.l2 rfl rfl) ?_))))
  refine Pf 5 rfl (Bk Tryz.underlying9 rfl rfl (by decide) (by omega)) ?_
  refine Pf 6 rfl (So Tryz.underlying3 Tryz.underlying5 rfl) (Pf 7 rfl (Yd rfl rfl) (Pf 8 rfl (AF rfl) (Pf 9 rfl (BV rfl) (Pf 10 rfl (Ah Gp rfl) (Pf 11 rfl (AH rfl CO .m0 AP.l2 rfl rfl) ?_)))))
  refine Pf 12 rfl (Bk Tryz.underlying9 rfl rfl (by decide) (by omega)) ?_
  refine Pf 13 rfl (So Tryz.underlying3 Tryz.underlying5 rfl) (Pf 14 rfl (Zu rfl rfl) (Pf 15 rfl (LW rfl rfl) (Pf 16 rfl (BV rfl) (Pf 17 rfl (Ah RA rfl) ?_))))
  refine An 18 rfl (by kernel_rfl) ?_
  refine AT (AK AP.l5 rfl rfl rfl C9 rfl .h) ?_
  refine BM rfl ⟨?_, ?_⟩
  · exact (Pk (Pk (Pk (Pk (Pk (Pk (Pk (Pk (Pk (Pk (Pk (Pk (Pk (Pk (Pk (Pk (Pk (Pk Aq))))))))))))))))))
  refine A3 (by kernel_rfl) ?_
  refine Bj rfl .n ?_
  intro w1 hS
  have hS := (hS.perm (As.perm (.c .h .n))).A1
  exact ⟨_, ⟨rfl, by rw [show X.measure = _ from BB c1]; rfl⟩, hS⟩
 refine Aa ?_
 refine Bj rfl .n ?_
 intro w1 hS
 have hS := (hS.perm (As.perm (.c .h .n))).A1
 exact ⟨_, ⟨rfl, by rw [show X.measure = _ from AW c1]⟩, hS⟩
theorem MK (X : AP) (u : Ap) (hu : u.length ≤ 140737488351232) (w : World) : Ef Tryz.prog 29 #[.agg X.enc.toArray, BT u] w fun v w' => v = .tuple #[.agg (X.Db u).1.enc.toArray, BT (X.Db u).2.1, BT (X.Db u).2.2.1, .int .i64 (X.Db u).2.2.2] ∧ CA w w' := by
 refine Al [] [] Tryz.func29 rfl rfl rfl (St.start w []) ?_
 refine Gs ?_
 refine B3 rfl rfl rfl (fun b1 => ?_)
 refine BF rfl Za rfl (fun b2 => ?_)
 refine Ga rfl (Ga rfl (Ga rfl (Gn (.t3 1 2 4) (CD (Gt (AZ rfl D1 .m1 (AU.id AP.fl.len AP.fl.one) rfl) ?_)))))
 refine BA rfl ZM (.c rfl .n) (fun w hS => GB _ w) ?_
 refine Gt (BX rfl) (Gn (.t4 1 2 4 15) ?_)
 refine Gc (fun c1 => ?_) (fun c1 => ?_)
 ·
  refine Gs (Gt (AZ rfl D1 .m1 (AU.id AP.fl.len AP.fl.one) rfl) ?_)
  refine AT (AK (AU.id AP.fl.len AP.fl.one) rfl rfl rfl KT rfl .h) ?_
  refine Ga rfl (Ga rfl (Ga rfl (Gn (.t4 4 5 6 7) (Ab (AD ?_)))))
  refine AY rfl (.cell rfl .m0 (.inl ⟨(by rw [AP.fl.len]; exact D1), rfl⟩) (.tmp rfl (.tmp rfl (.tmp rfl .n)))) ?_
  intro w1 hS; refine ⟨?_, hS.Am⟩; rw [show X.Db u = _ from BB c1]; rfl
 have c1p := kz c1
 have hg : X.BZ = true := by simpa using c1
 refine Aa ?_
 refine AB (.t3 1 2 4) ?_
 refine AA (Gs ?_)
 refine BF rfl Uj rfl (fun b3 => ?_)
 refine Dn DO 5 1 ?_
 refine BF rfl Uj rfl (fun b4 => ?_)
 refine Dn DO 5 1 ?_
 refine AQ (AA (CD (Gm rfl ?_)))
 refine Nd rfl Tryz.underlying9 Tryz.underlying105 Tryz.underlying5 rfl (fun h1 h1l => ?_)
 refine Gt (Ar rfl Tryz.underlying105 rfl) (Gm rfl (Gn (.t7 2 4 8 9 18 19 20) (Ae ?_)))
 refine Bo (.t7 20 2 4 8 9 18 19) ?_
 refine Bg (.t (.t (.t (.t (.t (.t .h)))))) ?_
 refine Bg (.t (.t (.t (.t (.t .h))))) ?_
 refine Bg (.t (.t (.t (.t (.t .h))))) ?_
 refine Bg (.t (.t (.t (.t (.t .h))))) ?_
 refine Bg (.t (.t (.t (.t (.t .h))))) ?_
 refine Ro (fun (k : Int) (t : AP) (x : Ap) (y : Ap) (p : Option Addr) (h : Hd) (q : Option Addr) (g : Hd) => AP.Jo X u k t x y ∧ (p = none ∨ p = some ⟨b3, 0, none⟩) ∧ h.Z ∧ h.len = x.length ∧ (q = none ∨ q = some ⟨b4, 0, none⟩) ∧ g.Z ∧ g.len = y.length) (fun (k : Int) (t : AP) (x : Ap) (y : Ap) (p : Option Addr) (h : Hd) (q : Option Addr) (g : Hd) => ((u.length : Int) - k).toNat) (fun (k : Int) (t : AP) (x : Ap) (y : Ap) (p : Option Addr) (h : Hd) (q : Option Addr) (g : Hd) => [(20, .int .i64 k)]) (fun (k : Int) (t : AP) (x : Ap) (y : Ap) (p : Option Addr) (h : Hd) (q : Option Addr) (g : Hd) => [Ad.own g 5 1 (y.flatMap DO), Ad.box b4 107 (DQ.enc ⟨q, g⟩), Ad.own h 5 1 (x.flatMap DO), Ad.box b3 107 (DQ.enc ⟨p, h⟩), Ad.box b1 69 (AP.enc t)]) (0) (X) ([]) ([]) (none) (⟨none, 0, 0⟩) (none) (⟨none, 0, 0⟩) ?_ rfl rfl (fun k t x y p h q g hI1 => ?_)
 · exact ⟨AP.Jo.start (AP.WU hg), .inl rfl, Hd.Ul, rfl, .inl rfl, Hd.Ul, rfl⟩
 obtain ⟨hI11, hp, hz, hl, hq, hzg, hlg⟩ := hI1; have hk0 := hI11.k0; have hk1 := hI11.k1; have hsub := hI11.sub; have hxl := hI11.xl; have hyl := hI11.yl; have hc8 := (u.getD k.toNat 0).toNat_lt; have hyb := hI11.yb
 refine Gs (Gt (A9 rfl rfl) (AQ (AA (Ao ?_))))
 refine Gc (fun c2 => ?_) (fun c2 => ?_)
 ·
  have c2p := kz c2
  refine Aa ?_
  refine AB (.t7 2 4 8 9 18 19 20) ?_
  refine AA (Ao (Ae (Gs ?_)))
  refine Gt (Br Wx (by decide) (Kn.own .m5) rfl rfl (by omega) (by omega)) ?_
  refine Gt (Xs rfl aS (Kn.own .m5) (by omega)) ?_
  refine Ga rfl (Gn (.t8 2 4 8 9 11 18 19 20) (Gs (Gm rfl (Gt (So Tryz.underlying3 Tryz.underlying5 rfl) (Ga rfl (Gn (.t9 2 4 8 9 11 12 18 19 20) (Gs ?_)))))))
  refine Gt (Ah Fv rfl) (Gt (AH rfl A4 .m4 AP.l0 rfl rfl) (Gn (.t10 2 4 8 9 11 12 18 19 20 27) (Ae (Gs (Gt (Af rfl rfl) (Ga rfl (Gn (.t11 2 4 8 9 11 12 18 19 20 27 28) ?_)))))))
  refine Gc (fun c3 => ?_) (fun c3 => ?_)
  ·
   have c3p := kz c3
   refine Gs (Gm rfl (Gt (Af rfl rfl) (Gn (.t9 2 4 8 9 11 18 19 20 31) ?_)))
   refine Gc (fun c4 => ?_) (fun c4 => ?_)
   ·
    have c4p := kz c4
    refine AJ (Gt (Ah Fv rfl) ?_)
    refine AT (AK AP.l0 rfl rfl rfl C9 rfl (.t (.t (.t (.t .h))))) ?_
    refine AQ (AB (.t7 2 4 8 9 18 19 20) ?_)
    refine AV (AV (AA (AJ ?_)))
    refine Gt (Au rfl rfl (IntWalk.i64_in _ (by omega))) ?_
    refine Gm rfl ?_
    refine AQ (AB (.t7 2 4 8 9 18 19 20) ?_)
    refine CQ _ _ _ _ _ _ _ _ ?_ ?_ (.t7 20 2 4 8 9 18 19) (.refl _)
    · exact ⟨hI11.next (by omega) (by simp only [AP.step, c1, c2, c3, c4, ↓reduceIte, Bool.false_eq_true]) (by simp only [AP.step, c1, c2, c3, c4, List.append_nil, ↓reduceIte, Bool.false_eq_true]) (by simp only [AP.step, c1, c2, c3, c4, List.append_nil, ↓reduceIte, Bool.false_eq_true]), by assumption, by assumption, by assumption, by assumption, by assumption, by assumption⟩
    · omega
   have c4p := kz c4
   refine AJ (Gm rfl ?_)
   refine Ai rfl YX (.c rfl (.c rfl .n)) (.c (.t (.t (.t .h))) (.c (.t (.t .h)) .n)) (Cf _ _ _ _ (by assumption) (by assumption) (by assumption) _ (by omega)) (fun v2 B hv => ?_)
   obtain ⟨y3, y4, rfl, y5, y6, y7, rfl⟩ := hv
   refine AQ (AB (.t7 2 4 8 9 18 19 20) ?_)
   refine AV (AV (AA (AJ ?_)))
   refine Gt (Au rfl rfl (IntWalk.i64_in _ (by omega))) ?_
   refine Gm rfl ?_
   refine AQ (AB (.t7 2 4 8 9 18 19 20) ?_)
   refine CU (.c (.t (.t .h)) (.c (.t (.t .h)) (.c (.t .h) (.c .h (.c .h (.c .h (.c .h .n))))))) ?_
   refine Cj ?_
   refine CQ _ _ _ _ _ _ _ _ ?_ ?_ (.t7 20 2 4 8 9 18 19) (.refl _)
   · exact ⟨hI11.next (by omega) (by simp only [AP.step, c1, c2, c3, c4, ↓reduceIte, Bool.false_eq_true]) (by simp only [AP.step, c1, c2, c3, c4, List.append_nil, ↓reduceIte, Bool.false_eq_true]) (by simp only [AP.step, c1, c2, c3, c4, List.append_nil, ↓reduceIte, Bool.false_eq_true]), by assumption, by assumption, by assumption, by assumption, by assumption, by assumption⟩
   · omega
  have c3p := kz c3
  refine Gs (Gt (Af rfl rfl) (Ga rfl (Gn (.t11 2 4 8 9 11 12 18 19 20 27 35) ?_)))
  refine Gc (fun c5 => ?_) (fun c5 => ?_)
  ·
   have c5p := kz c5
   refine Gs (Gt (Ah Fv rfl) ?_)
   refine AT (AK AP.l0 rfl rfl rfl C9 rfl (.t (.t (.t (.t .h))))) ?_
   refine Gn (.t9 2 4 8 9 11 12 18 19 20) (Ae (Gs (Gm rfl (Gt (Af rfl rfl) (Ga rfl (Gn (.t10 2 4 8 9 11 12 18 19 20 38) ?_))))))
   refine Gc (fun c6 => ?_) (fun c6 => ?_)
   ·
    have c6p := kz c6
    refine AJ (Gm rfl ?_)
    refine Ai rfl YX (.c rfl (.c rfl .n)) (.c (.t (.t (.t .h))) (.c (.t (.t .h)) .n)) (Cf _ _ _ _ (by assumption) (by assumption) (by assumption) _ (by omega)) (fun v8 B hv => ?_)
    obtain ⟨y9, y10, rfl, y11, y12, y13, rfl⟩ := hv
    refine AQ (AB (.t7 2 4 8 9 18 19 20) ?_)
    refine AV (AV (AV (AA (AJ ?_))))
    refine Gt (Au rfl rfl (IntWalk.i64_in _ (by omega))) ?_
    refine Gm rfl ?_
    refine AQ (AB (.t7 2 4 8 9 18 19 20) ?_)
    refine CU (.c (.t (.t .h)) (.c (.t (.t .h)) (.c (.t .h) (.c .h (.c .h (.c .h (.c .h .n))))))) ?_
    refine Cj ?_
    refine CQ _ _ _ _ _ _ _ _ ?_ ?_ (.t7 20 2 4 8 9 18 19) (.refl _)
    · exact ⟨hI11.next (by omega) (by simp only [AP.step, c1, c2, c3, c5, c6, ↓reduceIte, Bool.false_eq_true]) (by simp only [AP.step, c1, c2, c3, c5, c6, List.append_nil, ↓reduceIte, Bool.false_eq_true]) (by simp only [AP.step, c1, c2, c3, c5, c6, List.append_nil, ↓reduceIte, Bool.false_eq_true]), by assumption, by assumption, by assumption, by assumption, by assumption, by assumption⟩
    · omega
   have c6p := kz c6
   refine Gs (Gm rfl (Gt (Af rfl rfl) (Ga rfl (Gn (.t9 2 4 8 9 12 18 19 20 43) ?_))))
   refine Gc (fun c7 => ?_) (fun c7 => ?_)
   ·
    have c7p := kz c7
    refine AJ (Gt (Ah Fv rfl) ?_)
    refine AT (AK AP.l0 rfl rfl rfl C9 rfl (.t (.t (.t (.t .h))))) ?_
    refine AQ (AB (.t7 2 4 8 9 18 19 20) ?_)
    refine AV (AV (AV (AA (AJ ?_))))
    refine Gt (Au rfl rfl (IntWalk.i64_in _ (by omega))) ?_
    refine Gm rfl ?_
    refine AQ (AB (.t7 2 4 8 9 18 19 20) ?_)
    refine CQ _ _ _ _ _ _ _ _ ?_ ?_ (.t7 20 2 4 8 9 18 19) (.refl _)
    · exact ⟨hI11.next (by omega) (by simp only [AP.step, c1, c2, c3, c5, c6, c7, ↓reduceIte, Bool.false_eq_true]) (by simp only [AP.step, c1, c2, c3, c5, c6, c7, List.append_nil, ↓reduceIte, Bool.false_eq_true]) (by simp only [AP.step, c1, c2, c3, c5, c6, c7, List.append_nil, ↓reduceIte, Bool.false_eq_true]), by assumption, by assumption, by assumption, by assumption, by assumption, by assumption⟩
    · omega
   have c7p := kz c7
   refine Gs (Gm rfl (Gt (CM rfl rfl) (Ga rfl (Gn (.t9 2 4 8 9 12 18 19 20 47) ?_))))
   refine Gc (fun c8 => ?_) (fun c8 => ?_)
   ·
    have c8p := kz c8
    refine AJ (Gm rfl (Gt (Ah Fv rfl) ?_))
    refine AT (AK AP.l0 rfl rfl rfl C9 rfl (.t (.t (.t (.t .h))))) ?_
    refine Gt (Ah Kj rfl) ?_
    refine AT (AK AP.l1 rfl rfl rfl C9 rfl (.t (.t (.t (.t .h))))) ?_
    refine AQ (AB (.t7 2 4 8 9 18 19 20) ?_)
    refine AV (AV (AV (AA (AJ ?_))))
    refine Gt (Au rfl rfl (IntWalk.i64_in _ (by omega))) ?_
    refine Gm rfl ?_
    refine AQ (AB (.t7 2 4 8 9 18 19 20) ?_)
    refine CQ _ _ _ _ _ _ _ _ ?_ ?_ (.t7 20 2 4 8 9 18 19) (.refl _)
    · exact ⟨hI11.next (by omega) (by simp only [AP.step, c1, c2, c3, c5, c6, c7, c8, ↓reduceIte, Bool.false_eq_true]) (by simp only [AP.step, c1, c2, c3, c5, c6, c7, c8, List.append_nil, ↓reduceIte, Bool.false_eq_true]) (by simp only [AP.step, c1, c2, c3, c5, c6, c7, c8, List.append_nil, ↓reduceIte, Bool.false_eq_true]), by assumption, by assumption, by assumption, by assumption, by assumption, by assumption⟩
    · omega
   have c8p := kz c8
   refine Aa ?_
   refine AB (.t7 2 4 8 9 18 19 20) ?_
   refine AV (AV (AV (AA (AJ ?_))))
   refine Gt (Au rfl rfl (IntWalk.i64_in _ (by omega))) ?_
   refine Gm rfl ?_
   refine AQ (AB (.t7 2 4 8 9 18 19 20) ?_)
   refine CQ _ _ _ _ _ _ _ _ ?_ ?_ (.t7 20 2 4 8 9 18 19) (.refl _)
   · exact ⟨hI11.next (by omega) (by simp only [AP.step, c1, c2, c3, c5, c6, c7, c8, ↓reduceIte, Bool.false_eq_true]) (by simp only [AP.step, c1, c2, c3, c5, c6, c7, c8, List.append_nil, ↓reduceIte, Bool.false_eq_true]) (by simp only [AP.step, c1, c2, c3, c5, c6, c7, c8, List.append_nil, ↓reduceIte, Bool.false_eq_true]), by assumption, by assumption, by assumption, by assumption, by assumption, by assumption⟩
   · omega
  have c5p := kz c5
  refine Gs (Gt (Af rfl rfl) (Ga rfl (Gn (.t11 2 4 8 9 11 12 18 19 20 27 53) ?_)))
  refine Gc (fun c9 => ?_) (fun c9 => ?_)
  ·
   have c9p := kz c9
   refine Gs (Gt (Ah Kj rfl) (Gt (AH rfl A4 .m4 AP.l1 rfl rfl) (Gm rfl ?_)))
   refine Ai rfl dR (.c rfl (.c rfl (.c rfl .n))) (.c (.t (.t (.t (.t .h)))) .n) (JG _ _ _ _ (by first | assumption | omega)) (fun v14 B hv => ?_)
   obtain ⟨rfl, rfl⟩ := hv
   refine Ai rfl PD (.c rfl (.c rfl .n)) (.c (.t (.t .h)) (.c (.t .h) .n)) (BK _ _ _ _ (by assumption) (by assumption) (by assumption) _ (by have := AP.IF t t.verb ((u.getD k.toNat 0).toNat : Int); omega)) (fun v15 B hv => ?_)
   obtain ⟨y16, y17, rfl, y18, y19, y20, rfl⟩ := hv
   refine Gn (.t7 2 4 8 9 18 19 20) (AJ (Gt (Ah Fv rfl) ?_))
   refine AT (AK AP.l0 rfl rfl rfl C9 rfl (.t (.t .h))) ?_
   refine Gt (Ah Kj rfl) ?_
   refine AT (AK AP.l1 rfl rfl rfl C9 rfl (.t (.t .h))) ?_
   refine AQ (AB (.t7 2 4 8 9 18 19 20) ?_)
   refine AV (AV (AA (AJ ?_)))
   refine Gt (Au rfl rfl (IntWalk.i64_in _ (by omega))) ?_
   refine Gm rfl ?_
   refine AQ (AB (.t7 2 4 8 9 18 19 20) ?_)
   refine CU (.c (.t .h) (.c .h (.c (.t .h) (.c (.t .h) (.c .h (.c .h (.c .h .n))))))) ?_
   refine Cj ?_
   refine CQ _ _ _ _ _ _ _ _ ?_ ?_ (.t7 20 2 4 8 9 18 19) (.refl _)
   · exact ⟨hI11.next (by omega) (by simp only [AP.step, c1, c2, c3, c5, c9, ↓reduceIte, Bool.false_eq_true]) (by simp only [AP.step, c1, c2, c3, c5, c9, List.append_nil, ↓reduceIte, Bool.false_eq_true]) (by simp only [AP.step, c1, c2, c3, c5, c9, List.append_nil, ↓reduceIte, Bool.false_eq_true]), by assumption, by assumption, by assumption, by assumption, by assumption, by assumption⟩
   · omega
  have c9p := kz c9
  refine Gs (Gt (Af rfl rfl) (Ga rfl (Gn (.t11 2 4 8 9 11 12 18 19 20 27 62) ?_)))
  refine Gc (fun c10 => ?_) (fun c10 => ?_)
  ·
   have c10p := kz c10
   refine Gs (Gm rfl (Gt (Af rfl rfl) (Gn (.t9 2 4 8 9 11 18 19 20 65) ?_)))
   refine Gc (fun c11 => ?_) (fun c11 => ?_)
   ·
    have c11p := kz c11
    refine AJ (Gt (Ah Fv rfl) ?_)
    refine AT (AK AP.l0 rfl rfl rfl C9 rfl (.t (.t (.t (.t .h))))) ?_
    refine AQ (AB (.t7 2 4 8 9 18 19 20) ?_)
    refine AV (AV (AA (AJ ?_)))
    refine Gt (Au rfl rfl (IntWalk.i64_in _ (by omega))) ?_
    refine Gm rfl ?_
    refine AQ (AB (.t7 2 4 8 9 18 19 20) ?_)
    refine CQ _ _ _ _ _ _ _ _ ?_ ?_ (.t7 20 2 4 8 9 18 19) (.refl _)
    · exact ⟨hI11.next (by omega) (by simp only [AP.step, c1, c2, c3, c5, c9, c10, c11, ↓reduceIte, Bool.false_eq_true]) (by simp only [AP.step, c1, c2, c3, c5, c9, c10, c11, List.append_nil, ↓reduceIte, Bool.false_eq_true]) (by simp only [AP.step, c1, c2, c3, c5, c9, c10, c11, List.append_nil, ↓reduceIte, Bool.false_eq_true]), by assumption, by assumption, by assumption, by assumption, by assumption, by assumption⟩
    · omega
   have c11p := kz c11
   refine AJ (Gm rfl ?_)
   refine Ai rfl bj (.c rfl (.c rfl .n)) (.c (.t (.t (.t (.t .h)))) .n) (G1 _ _ _ (by first | assumption | omega)) (fun v21 B hv => ?_)
   obtain ⟨rfl, rfl⟩ := hv
   refine AQ (AB (.t7 2 4 8 9 18 19 20) ?_)
   refine AV (AV (AA (AJ ?_)))
   refine Gt (Au rfl rfl (IntWalk.i64_in _ (by omega))) ?_
   refine Gm rfl ?_
   refine AQ (AB (.t7 2 4 8 9 18 19 20) ?_)
   refine CU (.c (.t .h) (.c (.t .h) (.c (.t .h) (.c (.t .h) (.c .h (.c .h (.c .h .n))))))) ?_
   refine Cj ?_
   refine CQ _ _ _ _ _ _ _ _ ?_ ?_ (.t7 20 2 4 8 9 18 19) (.refl _)
   · exact ⟨hI11.next (by omega) (by simp only [AP.step, c1, c2, c3, c5, c9, c10, c11, ↓reduceIte, Bool.false_eq_true]) (by simp only [AP.step, c1, c2, c3, c5, c9, c10, c11, List.append_nil, ↓reduceIte, Bool.false_eq_true]) (by simp only [AP.step, c1, c2, c3, c5, c9, c10, c11, List.append_nil, ↓reduceIte, Bool.false_eq_true]), by assumption, by assumption, by assumption, by assumption, by assumption, by assumption⟩
   · omega
  have c10p := kz c10
  refine Gs (Gt (Af rfl rfl) (Ga rfl (Gn (.t10 2 4 8 9 11 12 18 19 20 69) ?_)))
  refine Gc (fun c12 => ?_) (fun c12 => ?_)
  ·
   have c12p := kz c12
   refine Gs (Gm rfl (Gn (.t10 2 4 8 9 11 12 18 19 20 71) (Ae (Gs (Gt (Af rfl rfl) (Ga rfl (Gn (.t10 2 4 8 9 11 12 18 19 20 77) ?_)))))))
   refine Gc (fun c13 => ?_) (fun c13 => ?_)
   ·
    have c13p := kz c13
    refine Gs (Gt (Ah Fv rfl) ?_)
    refine AT (AK AP.l0 rfl rfl rfl C9 rfl (.t (.t (.t (.t .h))))) ?_
    refine Gn (.t8 2 4 8 9 11 18 19 20) (AJ (Gm rfl ?_))
    refine Ai rfl bj (.c rfl (.c rfl .n)) (.c (.t (.t (.t (.t .h)))) .n) (G1 _ _ _ (by first | assumption | omega)) (fun v22 B hv => ?_)
    obtain ⟨rfl, rfl⟩ := hv
    refine AQ (AB (.t7 2 4 8 9 18 19 20) ?_)
    refine AV (AV (AV (AA (AJ ?_))))
    refine Gt (Au rfl rfl (IntWalk.i64_in _ (by omega))) ?_
    refine Gm rfl ?_
    refine AQ (AB (.t7 2 4 8 9 18 19 20) ?_)
    refine CU (.c (.t .h) (.c (.t .h) (.c (.t .h) (.c (.t .h) (.c .h (.c .h (.c .h .n))))))) ?_
    refine Cj ?_
    refine CQ _ _ _ _ _ _ _ _ ?_ ?_ (.t7 20 2 4 8 9 18 19) (.refl _)
    · exact ⟨hI11.next (by omega) (by simp only [AP.step, c1, c2, c3, c5, c9, c10, c12, c13, ↓reduceIte, Bool.false_eq_true]) (by simp only [AP.step, c1, c2, c3, c5, c9, c10, c12, c13, List.append_nil, ↓reduceIte, Bool.false_eq_true]) (by simp only [AP.step, c1, c2, c3, c5, c9, c10, c12, c13, List.append_nil, ↓reduceIte, Bool.false_eq_true]), by assumption, by assumption, by assumption, by assumption, by assumption, by assumption⟩
    · omega
   have c13p := kz c13
   refine CD (Gm rfl (Gt (Af rfl rfl) (Gn (.t8 2 4 8 9 18 19 20 73) ?_)))
   refine Gc (fun c14 => ?_) (fun c14 => ?_)
   ·
    have c14p := kz c14
    refine AJ ?_
    refine Ai rfl cq (.c rfl .n) (.c (.t (.t (.t (.t .h)))) .n) (KW _ _) (fun v23 B hv => ?_)
    obtain ⟨rfl, rfl⟩ := hv
    refine Gn (.t7 2 4 8 9 18 19 20) (AJ (Gt (Ah Fv rfl) ?_))
    refine AT (AK AP.l0 rfl rfl rfl C9 rfl .h) ?_
    refine Gt (Ah Gp rfl) ?_
    refine AT (AK AP.l2 rfl rfl rfl Ey rfl .h) ?_
    refine AQ (AB (.t7 2 4 8 9 18 19 20) ?_)
    refine AV (AV (AV (AA (AJ ?_))))
    refine Gt (Au rfl rfl (IntWalk.i64_in _ (by omega))) ?_
    refine Gm rfl ?_
    refine AQ (AB (.t7 2 4 8 9 18 19 20) ?_)
    refine CU (.c (.t .h) (.c (.t .h) (.c (.t .h) (.c (.t .h) (.c .h (.c .h (.c .h .n))))))) ?_
    refine Cj ?_
    refine CQ _ _ _ _ _ _ _ _ ?_ ?_ (.t7 20 2 4 8 9 18 19) (.refl _)
    · exact ⟨hI11.next (by omega) (by simp only [AP.step, c1, c2, c3, c5, c9, c10, c12, c13, c14, ↓reduceIte, Bool.false_eq_true]) (by simp only [AP.step, c1, c2, c3, c5, c9, c10, c12, c13, c14, List.append_nil, ↓reduceIte, Bool.false_eq_true]) (by simp only [AP.step, c1, c2, c3, c5, c9, c10, c12, c13, c14, List.append_nil, ↓reduceIte, Bool.false_eq_true]), by assumption, by assumption, by assumption, by assumption, by assumption, by assumption⟩
    · omega
   have c14p := kz c14
   refine Aa ?_
   refine AB (.t7 2 4 8 9 18 19 20) ?_
   refine AA (AJ (Gt (Ah Fv rfl) ?_))
   refine AT (AK AP.l0 rfl rfl rfl C9 rfl (.t (.t (.t (.t .h))))) ?_
   refine Gt (Ah Gp rfl) ?_
   refine AT (AK AP.l2 rfl rfl rfl Ey rfl (.t (.t (.t (.t .h))))) ?_
   refine AQ (AB (.t7 2 4 8 9 18 19 20) ?_)
   refine AV (AV (AV (AA (AJ ?_))))
   refine Gt (Au rfl rfl (IntWalk.i64_in _ (by omega))) ?_
   refine Gm rfl ?_
   refine AQ (AB (.t7 2 4 8 9 18 19 20) ?_)
   refine CQ _ _ _ _ _ _ _ _ ?_ ?_ (.t7 20 2 4 8 9 18 19) (.refl _)
   · exact ⟨hI11.next (by omega) (by simp only [AP.step, c1, c2, c3, c5, c9, c10, c12, c13, c14, ↓reduceIte, Bool.false_eq_true]) (by simp only [AP.step, c1, c2, c3, c5, c9, c10, c12, c13, c14, List.append_nil, ↓reduceIte, Bool.false_eq_true]) (by simp only [AP.step, c1, c2, c3, c5, c9, c10, c12, c13, c14, List.append_nil, ↓reduceIte, Bool.false_eq_true]), by assumption, by assumption, by assumption, by assumption, by assumption, by assumption⟩
   · omega
  have c12p := kz c12
  refine Aa ?_
  refine AB (.t7 2 4 8 9 18 19 20) ?_
  refine AV (AV (AA (AJ ?_)))
  refine Gt (Au rfl rfl (IntWalk.i64_in _ (by omega))) ?_
  refine Gm rfl ?_
  refine AQ (AB (.t7 2 4 8 9 18 19 20) ?_)
  refine CQ _ _ _ _ _ _ _ _ ?_ ?_ (.t7 20 2 4 8 9 18 19) (.refl _)
  · exact ⟨hI11.next (by omega) (by simp only [AP.step, c1, c2, c3, c5, c9, c10, c12, ↓reduceIte, Bool.false_eq_true]) (by simp only [AP.step, c1, c2, c3, c5, c9, c10, c12, List.append_nil, ↓reduceIte, Bool.false_eq_true]) (by simp only [AP.step, c1, c2, c3, c5, c9, c10, c12, List.append_nil, ↓reduceIte, Bool.false_eq_true]), by assumption, by assumption, by assumption, by assumption, by assumption, by assumption⟩
  · omega
 have c2p := kz c2
 refine Be (AX (AX (Aj ?_)))
 refine AB (.t4 2 4 8 9) ?_
 refine AA (Ao ?_)
 refine BD (N := 7) [0, 0, 2, 7, 15, 31, 63] mix (by kernel_rfl) rfl ?_
 refine Pf 0 rfl (AZ rfl D1 .m4 (AU.id AP.fl.len AP.fl.one) rfl) ?_
 refine An 1 rfl (by kernel_rfl) ?_
 refine Ai rfl X4 (.c rfl .n) (.c (.t (.t (.t .h))) (.c (.t (.t .h)) .n)) (Cr _ _ _ _ (by assumption) (by assumption) (by omega)) (fun v24 B hv => ?_)
 obtain ⟨rfl, rfl⟩ := hv
 refine Bp rfl ⟨?_, ?_⟩
 · exact (Po rfl (AZ rfl D1 .m3 (AU.id AP.fl.len AP.fl.one) rfl) rfl rfl Aq)
 refine An 2 rfl (by kernel_rfl) ?_
 refine Ai rfl X4 (.c rfl .n) (.c (.t (.t .h)) (.c (.t .h) .n)) (Cr _ _ _ _ (by assumption) (by assumption) (by omega)) (fun v25 B hv => ?_)
 obtain ⟨rfl, rfl⟩ := hv
 refine Bp rfl ⟨?_, ?_⟩
 · exact (Po rfl (AZ rfl D1 .m2 (AU.id AP.fl.len AP.fl.one) rfl) rfl rfl Aq)
 refine An 3 rfl (by kernel_rfl) ?_
 refine AT (AK (AU.id AP.fl.len AP.fl.one) rfl rfl rfl KT rfl (.t (.t (.t (.t .h))))) ?_
 refine BM rfl ⟨?_, ?_⟩
 · exact (Pk Aq)
 refine Pf 4 rfl (A0 rfl) (Pf 5 rfl (A0 rfl) (Pf 6 rfl (A0 rfl) ?_))
 refine A3 (by kernel_rfl) ?_
 refine AB (.t4 4 5 6 7) ?_
 refine AA (Ab ?_)
 refine AY rfl (.cell rfl .m4 (.inl ⟨(by rw [AP.fl.len]; exact D1), rfl⟩) (.tmp rfl (.tmp rfl (.tmp rfl .n)))) ?_
 intro w1 hS; refine ⟨?_, hS.Am⟩; rw [show X.Db u = _ from AW c1, hI11.done (by omega)]; rfl
theorem G0 (b : UInt8) (w : World) : Ef Tryz.prog 70 #[.int .u8 (b.toNat : Int)] w fun v w' => v = .bool (Bf.Fo b) ∧ CA w w' := by
 refine Al [] [] Tryz.func70 rfl rfl rfl (St.start w []) ?_
 refine Gs (Ga rfl (Gn (.t1 0) (Gs (Gm rfl (Gt (CM rfl rfl) (Gm rfl (Bm 5 rfl rfl (fun q => AF rfl) ?_)))))))
 refine Bm 5 rfl rfl (fun q => A9 (Bh rfl q) rfl) (Gt (BJ rfl rfl (fun h => h)) (Ga rfl (Gn (.t1 2) (Ab ?_))))
 refine AY rfl (.tmp rfl .n) ?_
 intro w1 hS; refine ⟨?_, hS.Am⟩; rfl
end Go.Proofs.YtoidpggbbfncpaaGreatDoor
