/- What the functions that the law TopEnds reaches compute: walks, part 5. No condition. -/
import Derived.Test.YtoidpggbbfncpaaGreatDoorCards
import Derived.Test.YtoidpggbbfncpaaGreatDoorTie
import Derived.Deep.DeepHandedRow
import Derived.Test.YtoidpggbbfncpaaGreatDoorRows
import Derived.Test.YtoidpggbbfncpaaGreatDoorTopEndsEc3
import Derived.Test.YtoidpggbbfncpaaGreatDoorTopEndsRa1
import Derived.Test.YtoidpggbbfncpaaGreatDoorTopEndsRb1
import Derived.Test.YtoidpggbbfncpaaGreatDoorTopEndsRc1
import Derived.Test.YtoidpggbbfncpaaGreatDoorTopEndsWalks
import Derived.Test.YtoidpggbbfncpaaGreatDoorTopEndsWalks2
import Derived.Test.YtoidpggbbfncpaaGreatDoorTopEndsWalks3
import Derived.Test.YtoidpggbbfncpaaGreatDoorTopEndsWalks4
set_option linter.unusedSimpArgs false
set_option linter.unusedVariables false
set_option maxRecDepth 100000
set_option maxHeartbeats 1000000
namespace Go.Proofs.YtoidpggbbfncpaaGreatDoor
open Go Go.Ing Go.RowKit Go.ChangeShapes Go.WideShapes Go.ChangeAt
theorem LX (X : AH) (d : Int) (hw : X.Dz) : Eu Tryz.prog 78 #[.agg X.enc.toArray, .int .i64 d] [] (fun w => (GV 0 AH.C4 w ∧ 0 ∉ CW [])) (fun v B => ∃ h : Hd, v = .tuple #[.agg ((AG.Ch X d).1.enc).toArray, h.val, .int .i64 (AG.Ch X d).2.2] ∧ h.len = (AG.Ch X d).2.1.length ∧ B = [Ac.own h 56 16 ((AG.Ch X d).2.1.flatMap Ing.Event.enc)]) := by
 intro w hS0 hH
 obtain ⟨gl0, gm0⟩ := hH
 have hm := Cm d
 refine Aj _ _ Tryz.func78 rfl rfl rfl (hS0) ?_
 refine Gs ?_
 refine Bu rfl rfl rfl (fun b1 => ?_)
 refine BG rfl Li rfl (fun b2 => ?_)
 refine Ga rfl (Ga rfl (Gn (.t3 1 2 4) (CA (Gt (AZ rfl BT .m1 (AS.id AH.fl.len AH.fl.one) rfl) ?_))))
 refine A8 rfl Yq (.c rfl .n) (fun w hS => G3 _ w) ?_
 refine Gt (BO rfl) (Gn (.t4 1 2 4 16) ?_)
 refine Gc (fun c1 => ?_) (fun c1 => ?_)
 ·
  refine Gs (Gt (AZ rfl BT .m1 (AS.id AH.fl.len AH.fl.one) rfl) ?_)
  refine AR (AK (AS.id AH.fl.len AH.fl.one) rfl rfl rfl Dt rfl .h) ?_
  refine Ga rfl (Ga rfl (Gn (.t3 4 5 6) (Ab (AD ?_))))
  refine AY rfl (.cell rfl .m0 (.inl ⟨(by rw [AH.fl.len]; exact BT), rfl⟩) (.tmp rfl (.tmp rfl .n))) ?_
  intro w1 hS
  have hS := hS.Cj 56 16
  have hS := (hS.perm (Av.perm (.c .h .n))).Ay
  have hq : AG.Ch X d = _ := BB c1
  refine ⟨_, ⟨⟨none, 0, 0⟩, ?hv, ?hl, ?hB⟩, hS⟩
  case hv => rw [hq]; rfl
  case hl => rw [hq]; rfl
  case hB => rw [hq]; rfl
 have c1p := kz c1
 refine Aa ?_
 refine AB (.t3 1 2 4) ?_
 refine AA (Gs (Ga rfl (AP (AA (CA (Gm rfl (AP ?_)))))))
 refine AA (Ae ?_)
 refine Bj (.t5 7 18 1 2 4) ?_
 refine Ep Ing.Event.enc 56 16 ?_
 refine BU (.t (.t .h)) ?_
 refine BU (.t .h) ?_
 refine De (fun (k : Int) (s : AH × List Ing.Event) (h : Hd) => 0 ≤ k ∧ k ≤ 6 ∧ s = AG.EG X d k.toNat ∧ s.1.Bs = true ∧ s.1.Dz ∧ (s.2.length : Int) ≤ 13 * k ∧ h.len = s.2.length) (fun (k : Int) (s : AH × List Ing.Event) (h : Hd) => (6 - k).toNat) (fun (k : Int) (s : AH × List Ing.Event) (h : Hd) => [(7, h.val), (18, .int .i64 k)]) (fun (k : Int) (s : AH × List Ing.Event) (h : Hd) => [Ac.own h 56 16 (s.2.flatMap Ing.Event.enc), Ac.box b1 35 (AH.enc s.1)]) (0) ((X, [])) (_) ?_ rfl rfl (fun k s h hI1 => ?_)
 · exact ⟨by omega, by omega, rfl, by simpa using c1, hw, by simp, rfl⟩
 obtain ⟨hI11, hI12, hI13, hI14, hI15, hI16, hI17⟩ := hI1
 refine Gs (Gt (A5 rfl rfl) (AP (AA (Ao ?_))))
 refine Gc (fun c2 => ?_) (fun c2 => ?_)
 ·
  have c2p := kz c2
  have hbe := AG.HU hI14 hI11 (show k < 6 by omega)
  have hfo := hbe.B5
  refine Aa ?_
  refine AB (.t5 1 2 4 7 18) ?_
  refine AA (Ao (Ae (Gs (Gm rfl (Ga rfl (Gn (.t6 1 2 4 7 8 18) (Gs ?_)))))))
  refine Gm rfl (Gt (Af Bi rfl) ?_)
  refine Gt (AQ Cy rfl rfl (by first | omega | (dsimp only; omega) | (have := Cm (d.tmod 3 + 3 + k); omega)) (by first | omega | (dsimp only; omega) | (have := Cm (d.tmod 3 + 3 + k); omega))) ?_
  refine Gt (AZ rfl FB .m1 (AH.l2.comp (AS.arr (n := 6) Al.fl (by first | omega | (dsimp only; omega) | (have := Cm (d.tmod 3 + 3 + k); omega)) (by first | omega | (dsimp only; omega) | (have := Cm (d.tmod 3 + 3 + k); omega)))) rfl) ?_
  refine BG rfl LM rfl (fun b3 => ?_)
  refine AR (AK (AS.id Al.fl.len Al.fl.one) rfl rfl rfl Jm rfl .h) ?_
  refine Gn (.t7 1 2 4 7 8 9 18) (CA (Gt (Af Hg rfl) (Gt (AF rfl Ct .m0 Al.l1 rfl rfl) (Gt (BO rfl) (Gm rfl (BW 28 rfl rfl (fun q => Af Fi rfl) (BW 28 rfl rfl (fun q => AF (cF rfl q) A1 .m0 Al.l5 rfl rfl) ?_)))))))
  refine BW 28 rfl rfl (fun q => Ai (cF rfl q) rfl) ?_
  refine Gt (BR rfl rfl (fun h => by rw [h]; rfl)) ?_
  refine Gn (.t8 1 2 4 7 8 9 18 32) ?_
  refine Gc (fun c3 => ?_) (fun c3 => ?_)
  ·
   have c3p := kz c3
   refine Ba (AV (Ah ?_))
   refine AB (.t5 1 2 4 7 18) ?_
   refine AA (AI ?_)
   refine Gt (Aw rfl rfl (IntWalk.i64_in _ (by first | omega | (dsimp only; omega) | (have := Cm (d.tmod 3 + 3 + k); omega)))) ?_
   refine Gm rfl ?_
   refine AP (AB (.t5 1 2 4 7 18) ?_)
   refine Bw (k + 1) (s) _ ?_ ?_ (.t5 7 18 1 2 4) (.cons _ (.refl _))
   · have hrs : AG.Es d k s = _ := (BB c3)
     have hrg := AG.F6 (draw := d) hI14 hI15 hI11 (by omega)
     rw [hrs] at hrg
     exact ⟨by omega, by omega, by rw [AG.HW hI11, ← hI13, hrs], hrg.1, hrg.2.1, (by have := hrg.2.2; omega), (by first | assumption | (have hso : (AG.CJ s.1 k ((s.1.AW.at k).B5 - 1) (AG.Kq d k)).out.length = 1 := rfl; (try dsimp only at *); simp only [List.length_append] at *; omega))⟩
   · omega
  have c3p := kz c3
  have hf0 : 0 ≤ ((s.1.AW.at k).B5 - 1) ∧ ((s.1.AW.at k).B5 - 1) < 6 := by omega
  have hbf := (AG.HU hI14 hf0.1 hf0.2).BM
  refine Aa ?_
  refine AB (.t7 1 2 4 7 8 9 18) ?_
  refine AA (Gs (Gt (Af Fi rfl) (Gt (AF rfl A1 .m0 Al.l5 rfl rfl) ?_)))
  refine Gt (E6 rfl rfl (IntWalk.i64_in _ (by first | omega | (dsimp only; omega) | (have := Cm (d.tmod 3 + 3 + k); omega)))) ?_
  refine Ga rfl (Gn (.t8 1 2 4 7 8 9 10 18) (Ao (Ao ?_)))
  refine BF (N := 16) [0, 0, 3, 7, 15, 31, 63, 127, 127, 511, 1023, 2047, 127, 4223, 16383, 32767] mix (by kernel_rfl) rfl ?_
  refine Pf 0 rfl (AE rfl) (Pf 1 rfl (Af Bi rfl) ?_)
  refine Pf 2 rfl (AQ Cy rfl rfl (by first | omega | (dsimp only; omega) | (have := Cm (d.tmod 3 + 3 + k); omega)) (by first | omega | (dsimp only; omega) | (have := Cm (d.tmod 3 + 3 + k); omega))) ?_
  refine Pf 3 rfl (Af Hg rfl) ?_
  refine Pf 4 rfl (AF rfl Ct .m2 ((AH.l2.comp (AS.arr (n := 6) Al.fl (by first | omega | (dsimp only; omega) | (have := Cm (d.tmod 3 + 3 + k); omega)) (by first | omega | (dsimp only; omega) | (have := Cm (d.tmod 3 + 3 + k); omega)))).comp Al.l1) rfl rfl) ?_
  refine Pf 5 rfl (BO rfl) (Pf 6 rfl (AE rfl) (HA 7 42 rfl rfl rfl (fun q => AE rfl) (HA 8 42 rfl rfl rfl (fun q => Af Bi rfl) ?_)))
  refine BX 9 rfl rfl (by kernel_rfl) (GU (t := 42) rfl rfl (fun q => by have q1 := q; (try simp at q1); exact IE (AQ Cy (cF rfl q) (cF rfl q) (by first | omega | (dsimp only; omega) | (have := Cm (d.tmod 3 + 3 + k); omega)) (by first | omega | (dsimp only; omega) | (have := Cm (d.tmod 3 + 3 + k); omega))))) ?_
  refine HA 10 42 rfl rfl rfl (fun q => Af Cx (cF rfl q)) ?_
  refine BX 11 rfl rfl (by kernel_rfl) (GU (t := 42) rfl rfl (fun q => by have q1 := q; (try simp at q1); exact IE (AF (cF rfl q) A1 .m2 ((AH.l2.comp (AS.arr (n := 6) Al.fl (by first | omega | (dsimp only; omega) | (have := Cm (d.tmod 3 + 3 + k); omega)) (by first | omega | (dsimp only; omega) | (have := Cm (d.tmod 3 + 3 + k); omega)))).comp Al.l3) rfl rfl))) ?_
  refine HA 12 42 rfl rfl rfl (fun q => Af Cx rfl) (HA 13 42 rfl rfl rfl (fun q => AF (cF rfl q) A1 .m0 Al.l3 rfl rfl) (HA 14 42 rfl rfl rfl (fun q => CK (cF rfl q) (cF rfl q)) ?_))
  refine Pf 15 rfl (BR rfl rfl (fun h => by rw [h]; rfl)) ?_
  refine A2 (by kernel_rfl) ?_
  refine AB (.t8 1 2 4 7 8 10 18 51) ?_
  refine AA ?_
  refine Gc (fun c4 => ?_) (fun c4 => ?_)
  ·
   have c4p := kz c4
   refine Gs (Gm rfl (Gt (Af Bi rfl) ?_))
   refine Gt (AQ Cy rfl rfl (by first | omega | (dsimp only; omega) | (have := Cm (d.tmod 3 + 3 + k); omega)) (by first | omega | (dsimp only; omega) | (have := Cm (d.tmod 3 + 3 + k); omega))) ?_
   refine Gt (Af Fi rfl) ?_
   refine AR (AK ((AH.l2.comp (AS.arr (n := 6) Al.fl (by first | omega | (dsimp only; omega) | (have := Cm (d.tmod 3 + 3 + k); omega)) (by first | omega | (dsimp only; omega) | (have := Cm (d.tmod 3 + 3 + k); omega)))).comp Al.l5) rfl rfl rfl C3 rfl (.t (.t .h))) ?_
   refine Gn (.t5 1 2 4 7 18) (Ba (AV (Ah (AA (AI ?_)))))
   refine Gt (Aw rfl rfl (IntWalk.i64_in _ (by first | omega | (dsimp only; omega) | (have := Cm (d.tmod 3 + 3 + k); omega)))) ?_
   refine Gm rfl ?_
   refine AP (AB (.t5 1 2 4 7 18) ?_)
   refine Bw (k + 1) ((s.1.Cz k { s.1.AW.at k with B5 := 0 }, s.2)) _ ?_ ?_ (.t5 7 18 1 2 4) (.cons _ (.refl _))
   · have hrs : AG.Es d k s = _ := ((AU c3).trans (BB c4))
     have hrg := AG.F6 (draw := d) hI14 hI15 hI11 (by omega)
     rw [hrs] at hrg
     exact ⟨by omega, by omega, by rw [AG.HW hI11, ← hI13, hrs], hrg.1, hrg.2.1, (by have := hrg.2.2; omega), (by first | assumption | (have hso : (AG.CJ s.1 k ((s.1.AW.at k).B5 - 1) (AG.Kq d k)).out.length = 1 := rfl; (try dsimp only at *); simp only [List.length_append] at *; omega))⟩
   · omega
  have c4p := kz c4
  have hsf := AG.J6 (b := k) (n := AG.Kq d k) hI14 hI15 (B5 := ((s.1.AW.at k).B5 - 1)) hf0.1 hf0.2 c4p.1
  have hht := AG.Mk (draw := d) hI11
  refine Aa ?_
  refine AB (.t7 1 2 4 7 8 10 18) ?_
  refine AA (Gs (Gm rfl ?_))
  refine Gt (SP rfl rfl (by first | omega | (dsimp only; omega) | (have := Cm (d.tmod 3 + 3 + k); omega))) ?_
  refine Gt (Aw rfl rfl (IntWalk.i64_in _ (by first | omega | (dsimp only; omega) | (have := Cm (d.tmod 3 + 3 + k); omega)))) ?_
  refine Gm rfl ?_
  refine Gt (Aw rfl rfl (IntWalk.i64_in _ (by first | omega | (dsimp only; omega) | (have := Cm (d.tmod 3 + 3 + k); omega)))) ?_
  refine Gt (SP rfl rfl (by first | omega | (dsimp only; omega) | (have := Cm (d.tmod 3 + 3 + k); omega))) ?_
  refine Gt (Aw rfl rfl (IntWalk.i64_in _ (by first | omega | (dsimp only; omega) | (have := Cm (d.tmod 3 + 3 + k); omega)))) ?_
  refine Ga rfl (Gn (.t8 1 2 4 7 8 10 11 18) (Gs (Gt (AZ rfl BT .m2 (AS.id AH.fl.len AH.fl.one) rfl) (Gm rfl (Gt (A9 TL TV rfl (.cons Ad.l0 rfl rfl rfl (.cons Ad.l1 rfl rfl rfl .nil))) ?_)))))
  refine Bu rfl rfl rfl (fun b4 => ?_)
  refine Ga rfl (Gn (.t8 1 2 4 7 10 11 12 18) (Gs (Gm rfl (Gm rfl (Gm rfl (Gt (A9 Ng H2 rfl (.cons Ing.Event.l0 rfl rfl rfl (.cons Ing.Event.l3 rfl rfl rfl (.cons Ing.Event.l5 rfl rfl rfl .nil)))) ?_))))))
  refine DI Ing.Event.enc 56 16 ?_
  refine Ag rfl OF (.c rfl (.c rfl .n)) (.c (.t .h) (.c .h .n)) (CI _ ⟨s.1, k, []⟩ _ { AG.GI 14 with other := ((s.1.AW.at k).B5 - 1), n := AG.Kq d k } rfl (show 0 ≤ k ∧ k < 6 by omega) (show ((s.1.AW.at k).B5 - 1) < 6 by omega) (Nat.zero_le _)) (fun v3 B hv => ?_)
  obtain ⟨y4, rfl, y5, rfl⟩ := hv
  refine Gn (.t8 1 2 4 7 10 11 12 18) (Ao ?_)
  refine BF (N := 16) [0, 0, 0, 0, 12, 28, 60, 0, 252, 508, 1, 1025, 3073, 8191, 16383, 32767] mix (by kernel_rfl) rfl ?_
  refine Pf 0 rfl (AE rfl) (Pf 1 rfl (AE rfl) (Pf 2 rfl (AE rfl) (Pf 3 rfl (Af Bi rfl) ?_)))
  refine Pf 4 rfl (AQ Cy rfl rfl (by first | omega | (dsimp only; omega) | (have := Cm (d.tmod 3 + 3 + k); omega)) (by first | omega | (dsimp only; omega) | (have := Cm (d.tmod 3 + 3 + k); omega))) ?_
  refine Pf 5 rfl (Af I2 rfl) ?_
  refine Pf 6 rfl (AF rfl A1 .m4 ((AH.l2.comp (AS.arr (n := 6) Al.fl (by first | omega | (dsimp only; omega) | (have := Cm (d.tmod 3 + 3 + k); omega)) (by first | omega | (dsimp only; omega) | (have := Cm (d.tmod 3 + 3 + k); omega)))).comp Al.l4) rfl rfl) ?_
  refine Pf 7 rfl (AE rfl) ?_
  refine Pf 8 rfl (E6 rfl rfl (IntWalk.i64_in _ (by first | omega | (dsimp only; omega) | (have := Cm (d.tmod 3 + 3 + k); omega)))) ?_
  refine Pf 9 rfl (Kg rfl rfl) (Pf 10 rfl (BS rfl) (Pf 11 rfl (Af A6 rfl) (Pf 12 rfl (Af Bi rfl) ?_)))
  refine Pf 13 rfl (AQ Cy rfl rfl (by first | omega | (dsimp only; omega) | (have := Cm (d.tmod 3 + 3 + k); omega)) (by first | omega | (dsimp only; omega) | (have := Cm (d.tmod 3 + 3 + k); omega))) ?_
  refine Pf 14 rfl (Af I2 rfl) ?_
  refine An 15 rfl (by kernel_rfl) ?_
  refine AR (AK (((Ad.l0.comp AH.l2).comp (AS.arr (n := 6) Al.fl (by first | omega | (dsimp only; omega) | (have := Cm (d.tmod 3 + 3 + k); omega)) (by first | omega | (dsimp only; omega) | (have := Cm (d.tmod 3 + 3 + k); omega)))).comp Al.l4) rfl rfl rfl C3 rfl .h) ?_
  refine BK rfl ⟨?_, ?_⟩
  · exact (Pk (Pk (Pk (Pk (Pk (Pk (Pk (Pk (Pk (Pk (Pk (Pk (Pk (Pk (Pk Au)))))))))))))))
  refine A2 (by kernel_rfl) ?_
  refine AB (.t7 1 2 4 7 10 12 18) ?_
  refine AA (Ao ?_)
  have hl1 : y4.len = 1 := y5
  refine AI (Gm rfl (Gm rfl (Gt (BS rfl) (Gt (Af CG rfl) (Gt (AF rfl DZ .m0 Ad.l2 rfl rfl) ?_)))))
  refine CT Ing.Event.fl rfl Tryz.underlying53 NY H2 rfl WD (by decide) (by decide) rfl rfl (fun w hS => Src.Dj Tryz.underlying53 ((Kn.own .m1) w hS)) (by (try dsimp only at *); omega) (fun _ => (.t (.t (.t .h)))) (fun h6 h6l h6z => ?_)
  refine Ga rfl (Gn (.t7 1 2 4 7 10 12 18) (Gs (Gm rfl (Gt (BS rfl) (Gt (Af A6 rfl) (Gt (AZ rfl BT .m0 Ad.l0 rfl) ?_))))))
  refine AR (AK (AS.id AH.fl.len AH.fl.one) rfl rfl rfl Dt rfl (.t (.t (.t (.t .h))))) ?_
  refine Gn (.t6 1 2 4 7 10 18) (Gs (Gm rfl (Gt (Af Bi rfl) ?_)))
  refine Gt (AQ Cy rfl rfl (by first | omega | (dsimp only; omega) | (have := Cm (d.tmod 3 + 3 + k); omega)) (by first | omega | (dsimp only; omega) | (have := Cm (d.tmod 3 + 3 + k); omega))) ?_
  refine Gt (Af I2 rfl) ?_
  refine Gt (AF rfl A1 .m4 ((AH.l2.comp (AS.arr (n := 6) Al.fl (by first | omega | (dsimp only; omega) | (have := Cm (d.tmod 3 + 3 + k); omega)) (by first | omega | (dsimp only; omega) | (have := Cm (d.tmod 3 + 3 + k); omega)))).comp Al.l4) rfl rfl) ?_
  refine Gt (Ai rfl rfl) (Gn (.t7 1 2 4 7 10 18 102) ?_)
  refine Gc (fun c5 => ?_) (fun c5 => ?_)
  ·
   have c5p := kz c5
   refine Gs (Ga rfl (Gn (.t6 1 2 4 7 10 18) (Gs (Gt (AZ rfl BT .m4 (AS.id AH.fl.len AH.fl.one) rfl) (Gm rfl ?_)))))
   refine BD rfl bF (.c rfl (.c rfl .n)) .n (N9 (AG.CJ s.1 k ((s.1.AW.at k).B5 - 1) (AG.Kq d k)).w ((s.1.AW.at k).B5 - 1) hsf) (fun w hS => gl0.pull gm0 hS .n) (fun v7 B hv => ?_)
   obtain ⟨y8, rfl, y9, rfl⟩ := hv
   refine Gm rfl (Gt (AM rfl rfl) (Gt (AM rfl rfl) ?_))
   refine AR (AK (AS.id AH.fl.len AH.fl.one) rfl rfl rfl Dt rfl (.t (.t (.t (.t (.t .h)))))) ?_
   refine Ga rfl (Gn (.t6 1 2 4 7 13 18) ?_)
   have hl2 : y8.len ≤ 12 := by rw [y9]; exact (AG.Od hsf).2.2
   refine AI (Gm rfl (Gm rfl ?_))
   refine CT Ing.Event.fl rfl Tryz.underlying53 NY H2 rfl WD (by decide) (by decide) rfl rfl (fun w hS => Src.Dj Tryz.underlying53 ((Kn.own .m0) w hS)) (by (try dsimp only at *); omega) (fun _ => (.t (.t (.t (.t .h))))) (fun h11 h11l h11z => ?_)
   refine Ga rfl ?_
   refine AP (AB (.t5 1 2 4 7 18) ?_)
   refine AT (AA (AI ?_))
   refine Gt (Aw rfl rfl (IntWalk.i64_in _ (by first | omega | (dsimp only; omega) | (have := Cm (d.tmod 3 + 3 + k); omega)))) ?_
   refine Gm rfl ?_
   refine AP (AB (.t5 1 2 4 7 18) ?_)
   refine Bw (k + 1) (((AG.IQ (AG.CJ s.1 k ((s.1.AW.at k).B5 - 1) (AG.Kq d k)).w ((s.1.AW.at k).B5 - 1)).w, (s.2 ++ (AG.CJ s.1 k ((s.1.AW.at k).B5 - 1) (AG.Kq d k)).out) ++ (AG.IQ (AG.CJ s.1 k ((s.1.AW.at k).B5 - 1) (AG.Kq d k)).w ((s.1.AW.at k).B5 - 1)).out)) _ ?_ ?_ (.t5 7 18 1 2 4) (.cons _ (.cons _ (.cons _ (.cons _ (.refl _)))))
   · have hrs : AG.Es d k s = _ := ((AU c3).trans ((AU c4).trans (BB c5)))
     have hrg := AG.F6 (draw := d) hI14 hI15 hI11 (by omega)
     rw [hrs] at hrg
     exact ⟨by omega, by omega, by rw [AG.HW hI11, ← hI13, hrs], hrg.1, hrg.2.1, (by have := hrg.2.2; omega), (by first | assumption | (have hso : (AG.CJ s.1 k ((s.1.AW.at k).B5 - 1) (AG.Kq d k)).out.length = 1 := rfl; (try dsimp only at *); simp only [List.length_append] at *; omega))⟩
   · omega
  have c5p := kz c5
  refine Aa ?_
  refine AB (.t5 1 2 4 7 18) ?_
  refine AT (AA (AI ?_))
  refine Gt (Aw rfl rfl (IntWalk.i64_in _ (by first | omega | (dsimp only; omega) | (have := Cm (d.tmod 3 + 3 + k); omega)))) ?_
  refine Gm rfl ?_
  refine AP (AB (.t5 1 2 4 7 18) ?_)
  refine Bw (k + 1) (((AG.CJ s.1 k ((s.1.AW.at k).B5 - 1) (AG.Kq d k)).w, s.2 ++ (AG.CJ s.1 k ((s.1.AW.at k).B5 - 1) (AG.Kq d k)).out)) _ ?_ ?_ (.t5 7 18 1 2 4) (.cons _ (.cons _ (.cons _ (.refl _))))
  · have hrs : AG.Es d k s = _ := ((AU c3).trans ((AU c4).trans (AU c5)))
    have hrg := AG.F6 (draw := d) hI14 hI15 hI11 (by omega)
    rw [hrs] at hrg
    exact ⟨by omega, by omega, by rw [AG.HW hI11, ← hI13, hrs], hrg.1, hrg.2.1, (by have := hrg.2.2; omega), (by first | assumption | (have hso : (AG.CJ s.1 k ((s.1.AW.at k).B5 - 1) (AG.Kq d k)).out.length = 1 := rfl; (try dsimp only at *); simp only [List.length_append] at *; omega))⟩
  · omega
 have c2p := kz c2
 obtain rfl : k = 6 := by omega
 refine Ba (AV (AV (Ah ?_)))
 refine AB (.t3 2 4 7) ?_
 refine AA (Gs (Gt (AZ rfl BT .m1 (AS.id AH.fl.len AH.fl.one) rfl) (Gm rfl ?_)))
 refine AR (AK (AS.id AH.fl.len AH.fl.one) rfl rfl rfl Dt rfl (.t (.t .h))) ?_
 refine Ga rfl (Ga rfl (Gn (.t3 4 5 6) (Ab ?_)))
 refine AY rfl (.cell rfl .m2 (.inl ⟨(by rw [AH.fl.len]; exact BT), rfl⟩) (.tmp rfl (.tmp rfl .n))) ?_
 intro w1 hS
 have hS := (hS.perm (Av.perm (.c .h .n))).Ay
 have hq : AG.Ch X d = ((AG.EG X d 6).1, (AG.EG X d 6).2, 0) := AU c1
 have hs6 : s = AG.EG X d 6 := hI13
 rw [← hs6] at hq
 refine ⟨_, ⟨h, ?hv, ?hl, ?hB⟩, hS⟩
 case hv => rw [hq]; (try rfl)
 case hl => rw [hq]; exact hI17
 case hB => rw [hq]; (try rfl)
theorem D9 (p : Ar) (s : As) (hs : s.length ≤ 9000000000000000000) (w : World) : EF Tryz.prog 62 #[.agg p.enc.toArray, BP s] w fun v w' => v = .tuple #[.agg (Ar.enc ⟨p.wait, (Page.send p s).1.shown, (Page.send p s).1.B4, (Page.send p s).1.ring, (Page.send p s).1.cut⟩).toArray, .int .i64 (Page.send p s).2] ∧ B3 w w' := by
 refine Aj [] [] Tryz.func62 rfl rfl rfl (St.start w []) ?_
 refine Gs ?_
 refine Bu rfl rfl rfl (fun b1 => ?_)
 refine BG rfl Rq rfl (fun b2 => ?_)
 refine Ga rfl (Gn (.t3 1 2 4) (Ao (Ae (Gs (Gt (AZ rfl Cn .m1 (AS.id Ar.fl.len Ar.fl.one) rfl) ?_)))))
 refine A8 rfl YK (.c rfl .n) (fun w hS => GM _ w) ?_
 refine Gt (BO rfl) (Ga rfl (Gn (.t4 1 2 4 6) ?_))
 refine Gc (fun c1 => ?_) (fun c1 => ?_)
 ·
  refine Gs (Gt (AZ rfl Cn .m1 (AS.id Ar.fl.len Ar.fl.one) rfl) ?_)
  refine AR (AK (AS.id Ar.fl.len Ar.fl.one) rfl rfl rfl E4 rfl .h) ?_
  refine Ga rfl (Gn (.t2 4 5) (Ab (AO (AD ?_))))
  refine AY rfl (.cell rfl .m0 (.inl ⟨(by rw [Ar.fl.len]; exact Cn), rfl⟩) (.tmp rfl .n)) ?_
  intro w1 hS; refine ⟨?_, hS.Am⟩; simp only [Page.send, Page.put, Page.of, c1, ↓reduceIte, Bool.false_eq_true]; rfl
 have c1p := kz c1
 have hg := (Page.G0 p).1 (by simpa using c1)
 refine Gs (Gt (Af Ig rfl) (Gt (AF rfl Ct .m1 Ar.l4 rfl rfl) (Ga rfl (Gn (.t4 1 2 4 11) ?_))))
 refine Gc (fun c2 => ?_) (fun c2 => ?_)
 ·
  refine Gs (Gt (AZ rfl Cn .m1 (AS.id Ar.fl.len Ar.fl.one) rfl) ?_)
  refine AR (AK (AS.id Ar.fl.len Ar.fl.one) rfl rfl rfl E4 rfl .h) ?_
  refine Ga rfl (Gn (.t2 4 5) (Ab (AO (AD ?_))))
  refine AY rfl (.cell rfl .m0 (.inl ⟨(by rw [Ar.fl.len]; exact Cn), rfl⟩) (.tmp rfl .n)) ?_
  intro w1 hS; refine ⟨?_, hS.Am⟩; rw [show Page.send p s = (Page.of p, 6) from by simp only [Page.send, c1, c2, ↓reduceIte, Bool.false_eq_true]]; rfl
 have c2p := kz c2
 refine Gs (Gm rfl (Gt (BI rfl Tryz.underlying9 rfl) (Gt (Af Hm rfl) (Gt (AF rfl CB .m1 Ar.l3 rfl rfl) (Gt (BI rfl Tryz.underlying9 rfl) ?_)))))
 refine Gt (E6 rfl rfl (IntWalk.i64_in _ (by first | omega | (simp at *; omega)))) ?_
 refine Gt (Cd rfl rfl) (Ga rfl (Gn (.t4 1 2 4 15) ?_))
 refine Gc (fun c3 => ?_) (fun c3 => ?_)
 ·
  refine Gs (Gt (Af Ig rfl) ?_)
  refine AR (AK Ar.l4 rfl rfl rfl Jr rfl (.t .h)) ?_
  refine Gn (.t2 2 4) (Gs (Gt (AZ rfl Cn .m1 (AS.id Ar.fl.len Ar.fl.one) rfl) ?_))
  refine AR (AK (AS.id Ar.fl.len Ar.fl.one) rfl rfl rfl E4 rfl .h) ?_
  refine Ga rfl (Gn (.t2 4 5) (Ab (AO (AD ?_))))
  refine AY rfl (.cell rfl .m0 (.inl ⟨(by rw [Ar.fl.len]; exact Cn), rfl⟩) (.tmp rfl .n)) ?_
  intro w1 hS; refine ⟨?_, hS.Am⟩; simp only [Page.send, Page.put, Page.of, c1, c2, c3, ↓reduceIte, Bool.false_eq_true]; rfl
 have c3p := kz c3
 refine Aa ?_
 refine AB (.t3 1 2 4) ?_
 refine AT (AA (Gs (Gt (Af Hm rfl) (Gt (AF rfl CB .m1 Ar.l3 rfl rfl) (Gm rfl ?_)))))
 refine Gt (CO rfl rfl (by first | omega | (simp at *; omega))) ?_
 refine Gt (Af Hm rfl) ?_
 refine AR (AK Ar.l3 rfl rfl rfl EW rfl (.t .h)) ?_
 refine Gn (.t2 2 4) (Gs (Gt (AZ rfl Cn .m1 (AS.id Ar.fl.len Ar.fl.one) rfl) ?_))
 refine AR (AK (AS.id Ar.fl.len Ar.fl.one) rfl rfl rfl E4 rfl .h) ?_
 refine Ga rfl (Gn (.t2 4 5) (Ab ?_))
 refine AY rfl (.cell rfl .m0 (.inl ⟨(by rw [Ar.fl.len]; exact Cn), rfl⟩) (.tmp rfl .n)) ?_
 intro w1 hS; refine ⟨?_, hS.Am⟩; simp only [Page.send, Page.put, Page.of, c1, c2, c3, ↓reduceIte, Bool.false_eq_true]; rfl
theorem HB (b : Nat) (m : Int) (h0 : 0 < m) (h1 : m ≤ 281474976710656) : IP Tryz.prog 186 #[.pointer (some ⟨b, 0, none⟩), .int .i64 m] [Ac.box b 107 (DH.enc ⟨some ⟨b, 0, none⟩, ⟨none, 0, 0⟩⟩)] (fun v B => ∃ h', v = .tuple #[] ∧ h'.Z ∧ h'.len = 0 ∧ B = [Ac.box b 107 (DH.enc ⟨some ⟨b, 0, none⟩, h'⟩), Ac.own h' 5 1 (([] : As).flatMap DE)]) := by
 intro w hS0
 refine Aj _ _ Tryz.func186 rfl rfl rfl (hS0) ?_
 refine Ao ?_
 refine BF (N := 16) [0, 1, 3, 7, 15, 31, 0, 127, 255, 0, 512, 1536, 3584, 7680, 16383, 32767] mix (by kernel_rfl) rfl ?_
 refine Pf 0 rfl (AE rfl) (Pf 1 rfl (BS rfl) (Pf 2 rfl (Af El rfl) (Pf 3 rfl (AF rfl Ha .m0 DH.l1 rfl rfl) (Pf 4 rfl (K7 rfl Tryz.underlying105 rfl) ?_))))
 refine Pf 5 rfl (VQ rfl rfl (IntWalk.i64_in _ (by first | omega | (dsimp only; omega)))) ?_
 refine Pf 6 rfl (AE rfl) ?_
 refine Pf 7 rfl (Aw rfl rfl (IntWalk.i64_in _ (by first | omega | (dsimp only; omega)))) ?_
 refine Pf 9 rfl (AE rfl) (Pf 10 rfl (BS rfl) (Pf 11 rfl (Af El rfl) (Pf 12 rfl (AF rfl Ha .m0 DH.l1 rfl rfl) (Pf 13 rfl (Aq rfl Tryz.underlying105 rfl) ?_))))
 refine An 8 rfl (by kernel_rfl) ?_
 refine Qq (ps := #[3]) rfl Tryz.func193 (by kernel_rfl) (by kernel_rfl) (by kernel_rfl) (by kernel_rfl) Tryz.underlying105 Ue rfl (by first | omega | (dsimp only; omega)) (by first | omega | (dsimp only; omega)) (fun b1 b1c b1x b1l b1k => ?_)
 refine Bn rfl ⟨?_, ?_⟩
 · exact (Po rfl (Aq rfl Tryz.underlying105 rfl) rfl rfl (Po rfl (AF rfl Ha .m1 DH.l1 rfl rfl) rfl rfl (Po rfl (Af El rfl) rfl rfl (Po rfl (BS rfl) rfl rfl (Po rfl (AE rfl) rfl rfl (Pk (Pk (Pk (Pk (Pk (Pk (Pk (Pk Au)))))))))))))
 refine An 14 rfl (by kernel_rfl) ?_
 refine Jc U5 rfl Tryz.underlying105 Ue rfl rfl (by first | omega | (dsimp only; omega)) (by first | omega | (dsimp only; omega)) (fun _ => .h) ?_
 refine Bn rfl ⟨?_, ?_⟩
 · exact (Pk (Pk (Pk (Pk (Pk (Pk (Pk (Pk (Pk (Pk (Pk (Pk (Pk Au)))))))))))))
 refine Pf 15 rfl (Az rfl) ?_
 refine A2 (by kernel_rfl) ?_
 refine AB (.t2 0 4) ?_
 refine AA (Gs (Gm rfl (Gm rfl (Gt (BS rfl) (Gt (Af El rfl) (Gt (AF rfl Ha .m1 DH.l1 rfl rfl) (Gt (WK rfl Tryz.underlying105 Ue rfl rfl) ?_)))))))
 refine Gn (.t2 0 4) (AI (Gm rfl (Gm rfl (Gt (BS rfl) (Gt (Af El rfl) ?_)))))
 refine AR (AK DH.l1 rfl rfl rfl S9 rfl (.t .h)) ?_
 refine AP ?_
 refine Bf rfl .n ?_
 intro w1 hS
 have hS := (hS.perm (Av.perm (.c (.t .h) (.c .h .n)))).Ay
 exact ⟨_, ⟨_, rfl, ⟨by intro a h; cases h; rfl, fun _ => by dsimp only at b1k ⊢; omega⟩, rfl, rfl⟩, hS⟩
theorem HF (b : Nat) (m : Int) (h0 : 0 ≤ m) (h1 : m ≤ 281474976710656) : IP Tryz.prog 175 #[.pointer (some ⟨b, 0, none⟩), .int .i64 m] [Ac.box b 107 (DH.enc ⟨none, ⟨none, 0, 0⟩⟩)] (fun v B => ∃ h', v = .tuple #[] ∧ h'.Z ∧ h'.len = 0 ∧ B = [Ac.box b 107 (DH.enc ⟨some ⟨b, 0, none⟩, h'⟩), Ac.own h' 5 1 (([] : As).flatMap DE)]) := by
 intro w hS0
 refine Aj _ _ Tryz.func175 rfl rfl rfl (hS0) ?_
 refine Gs (Gm rfl ?_)
 refine Ag rfl Yv (.c rfl .n) (.c .h .n) (C0 _ _ _ (.inl rfl)) (fun v1 B hv => ?_)
 obtain ⟨rfl, rfl⟩ := hv
 refine Gn (.t2 0 1) (CA (Gm rfl (Gt (A5 rfl rfl) (Gn (.t3 0 1 7) ?_))))
 refine DX rfl (by simp; omega) ?_
 refine Aa ?_
 refine AB (.t2 0 1) ?_
 refine AA (Ao ?_)
 refine BF (N := 13) [0, 1, 3, 7, 15, 0, 32, 96, 224, 480, 1023, 0, 4095] mix (by kernel_rfl) rfl ?_
 refine Pf 0 rfl (AE rfl) (Pf 1 rfl (BS rfl) (Pf 2 rfl (Af El rfl) (Pf 3 rfl (AF rfl Ha .m0 DH.l1 rfl rfl) (Pf 4 rfl (K7 rfl Tryz.underlying105 rfl) (Pf 5 rfl (AE rfl) (Pf 6 rfl (BS rfl) (Pf 7 rfl (Af El rfl) ?_)))))))
 refine Pf 8 rfl (AF rfl Ha .m0 DH.l1 rfl rfl) (Pf 9 rfl (Aq rfl Tryz.underlying105 rfl) ?_)
 refine Pf 10 rfl (E6 rfl rfl (IntWalk.i64_in _ (by first | omega | (dsimp only; omega)))) ?_
 refine Pf 11 rfl (AE rfl) (Pf 12 rfl (A5 rfl rfl) ?_)
 refine A2 (by kernel_rfl) ?_
 refine AB (.t3 0 1 21) ?_
 refine AA ?_
 refine Gc (fun c1 => ?_) (fun c1 => ?_)
 ·
  have c1p := kz c1
  refine AI (Gm rfl (Gm rfl ?_))
  refine Ag rfl Z5 (.c rfl (.c rfl .n)) (.c .h .n) (HB _ _ (by dsimp only at *; omega) h1) (fun v2 B hv => ?_)
  obtain ⟨y3, rfl, y4, y5, rfl⟩ := hv
  refine AP ?_
  refine Bf rfl .n ?_
  intro w1 hS
  have hS := (hS.perm (Av.perm (.c .h (.c .h .n)))).Ay
  exact ⟨_, ⟨_, rfl, by assumption, by assumption, rfl⟩, hS⟩
 refine Aa ?_
 refine Bf rfl .n ?_
 intro w1 hS
 have hS := hS.Cj 5 1
 have hS := (hS.perm (Av.perm (.c (.t .h) (.c .h .n)))).Ay
 exact ⟨_, ⟨_, rfl, Hd.S0, rfl, rfl⟩, hS⟩
theorem JB (s : As) (hs : s.length ≤ 70368744000000) (w : World) : EF Tryz.prog 158 #[BP s, BP [255], BP [255, 255], .int .i64 (-1)] w fun v w' => v = BP (Page.escape s) ∧ B3 w w' := by
 have hcl := List.count_le_length (a := (255 : UInt8)) (l := s)
 refine Aj [] [] Tryz.func158 rfl rfl rfl (St.start w []) ?_
 refine Gs (Ga rfl (Gn (.t4 0 1 2 3) (CA (Gm rfl (Gm rfl (Gt (Bp rfl rfl) (Gm rfl ?_)))))))
 refine BW 19 rfl rfl (fun q => AE rfl) (BW 19 rfl rfl (fun q => Ai (cF rfl q) rfl) ?_)
 refine Gt (BR rfl rfl (fun h => by rw [h]; rfl)) ?_
 refine Gn (.t5 0 1 2 3 22) ?_
 refine DX rfl (by simp) ?_
 refine Aa ?_
 refine AB (.t4 0 1 2 3) ?_
 refine AA (CA (Gm rfl (Gm rfl ?_)))
 refine A8 rfl Xv (.c rfl (.c rfl .n)) (fun w hS => Gl _ 255 w) ?_
 refine Ga rfl (Gn (.t5 0 1 2 3 9) (Gs (Gm rfl (Gt (Ai rfl rfl) (Gn (.t6 0 1 2 3 9 28) ?_)))))
 refine Gc (fun c1 => ?_) (fun c1 => ?_)
 ·
  have c1p := kz c1
  refine Gs (Gm rfl (Ga rfl (Gn (.t1 8) (Ab (AD ?_)))))
  refine AY rfl (.tmp rfl .n) ?_
  intro w1 hS; refine ⟨?_, hS.Am⟩; have e : s.count 255 = 0 := by simp at c1; omega
  rw [Page.MG _ e]; rfl
 have c1p := kz c1
 refine Gs (Gm rfl (Gt (A5 rfl rfl) (Gm rfl (BW 32 rfl rfl (fun q => AE rfl) (BW 32 rfl rfl (fun q => AE rfl) (BW 32 rfl rfl (fun q => A5 (cF rfl q) (cF rfl q)) ?_))))))
 refine Gt (BR rfl rfl (fun h => by rw [h]; rfl)) ?_
 refine Gn (.t6 0 1 2 3 9 36) ?_
 refine FM rfl rfl ?_
 refine AI (Gm rfl (Ga rfl (Gn (.t4 0 1 2 3) (Gs ?_))))
 refine BG rfl TB rfl (fun b1 => ?_)
 refine DI DE 5 1 ?_
 refine AP (AA (Gs (Gm rfl (Gt (BI rfl Tryz.underlying9 rfl) (Gm rfl (Gm rfl (Gt (BI rfl Tryz.underlying9 rfl) ?_)))))))
 refine Gm rfl (Gt (BI rfl Tryz.underlying9 rfl) ?_)
 refine Gt (E6 rfl rfl (IntWalk.i64_in _ (by (try simp only [List.length_cons, List.length_nil]); omega))) ?_
 refine Gt (VQ rfl rfl (IntWalk.i64_in _ (by (try simp only [List.length_cons, List.length_nil]); omega))) ?_
 refine Gt (Aw rfl rfl (IntWalk.i64_in _ (by (try simp only [List.length_cons, List.length_nil]); omega))) ?_
 refine Ag rfl Zl (.c rfl (.c rfl .n)) (.c (.t .h) .n) (HF _ _ (by simp only [List.length_cons, List.length_nil]; omega) (by simp only [List.length_cons, List.length_nil]; omega)) (fun v1 B hv => ?_)
 obtain ⟨y2, rfl, y3, y4, rfl⟩ := hv
 refine Gn (.t5 0 1 2 3 10) (Gs (Ga rfl (AP (AA (CA (Gm rfl (Gt (BI rfl Tryz.underlying9 rfl) ?_)))))))
 refine Gt (Cd rfl rfl) (Gn (.t7 0 1 2 3 10 11 51) ?_)
 refine FM rfl (by simp) ?_
 refine Gs (Gm rfl (Gm rfl (Gn (.t7 0 1 2 10 11 52 53) (Ae ?_))))
 refine Bj (.t7 11 53 0 1 2 10 52) ?_
 refine BU (.t .h) ?_
 refine BU (.t .h) ?_
 refine Qx (fun (k : Int) (start : Int) (x : As) (p : Option Addr) (h : Hd) => Page.P8 s (s.count 255) k start x ∧ (p = none ∨ p = some ⟨b1, 0, none⟩) ∧ h.Z ∧ h.len = x.length) (fun (k : Int) (start : Int) (x : As) (p : Option Addr) (h : Hd) => ((s.count 255 : Int) - k).toNat) (fun (k : Int) (start : Int) (x : As) (p : Option Addr) (h : Hd) => [(11, .int .i64 start), (53, .int .i64 k)]) (fun (k : Int) (start : Int) (x : As) (p : Option Addr) (h : Hd) => [Ac.box b1 107 (DH.enc ⟨p, h⟩), Ac.own h 5 1 (x.flatMap DE)]) (0) (0) ([]) (_) (_) ?_ rfl rfl (fun k start x p h hI1 => ?_)
 · exact ⟨Page.P8.start rfl, .inr rfl, by assumption, by assumption⟩
 obtain ⟨hI11, hp, hz, hl⟩ := hI1; have hk0 := hI11.k0; have hs0 := hI11.s0; have hs1 := hI11.s1; have hxl := hI11.xl
 refine Gs (Gt (A5 rfl rfl) (AP (AA (Ao ?_))))
 refine Gc (fun c2 => ?_) (fun c2 => ?_)
 ·
  have c2p := kz c2
  obtain ⟨i, hi, hlt, hR⟩ := hI11.idx (by omega)
  rw [← hi] at hR hlt
  refine Aa ?_
  refine AB (.t7 0 1 2 10 11 52 53) ?_
  refine AA (Ao (Ae (Gs (Gm rfl (Gm rfl (Gm rfl ?_))))))
  refine Gt (F7 Tryz.underlying9 rfl rfl (by (try simp only [List.length_cons, List.length_nil]); omega) (by (try simp only [List.length_cons, List.length_nil]); omega)) ?_
  refine Gm rfl ?_
  refine A8 rfl VV (.c rfl (.c rfl .n)) (fun w hS => E8 _ 255 w) ?_
  refine Gt (Aw rfl rfl (IntWalk.i64_in _ (by (try simp only [List.length_cons, List.length_nil]); omega))) ?_
  refine Ga rfl (Gn (.t8 0 1 2 10 11 12 52 53) (Gs (Gm rfl (Gm rfl (Gm rfl ?_)))))
  refine Gt (W9 Tryz.underlying9 rfl rfl rfl (by (try simp only [List.length_cons, List.length_nil]); omega) (by (try simp only [List.length_cons, List.length_nil]); omega) (by (try simp only [List.length_cons, List.length_nil]); omega)) ?_
  refine Ag rfl OS (.c rfl (.c rfl .n)) (.c .h (.c .h .n)) (BJ _ _ _ _ (by assumption) (by assumption) (by assumption) _ (by (try simp only [List.length_drop, List.length_take, List.length_append, List.length_cons, List.length_nil]); omega)) (fun v6 B hv => ?_)
  obtain ⟨y7, y8, rfl, y9, y10, y11, rfl⟩ := hv
  refine Gn (.t7 0 1 2 10 12 52 53) (Gs (Gm rfl ?_))
  refine Ag rfl OS (.c rfl (.c rfl .n)) (.c .h (.c .h .n)) (BJ _ _ _ _ (by assumption) (by assumption) (by assumption) _ (by (try simp only [List.length_drop, List.length_take, List.length_append, List.length_cons, List.length_nil]); omega)) (fun v12 B hv => ?_)
  obtain ⟨y13, y14, rfl, y15, y16, y17, rfl⟩ := hv
  refine Gn (.t7 0 1 2 10 12 52 53) (AI (Gm rfl (Gm rfl (Gt (BI rfl Tryz.underlying9 rfl) ?_))))
  refine Gt (Aw rfl rfl (IntWalk.i64_in _ (by (try simp only [List.length_cons, List.length_nil]); omega))) ?_
  refine Ga rfl ?_
  refine AP (AB (.t7 0 1 2 10 11 52 53) ?_)
  refine AT (AA (AI ?_))
  refine Gt (Aw rfl rfl (IntWalk.i64_in _ (by (try simp only [List.length_cons, List.length_nil]); omega))) ?_
  refine Gm rfl ?_
  refine AP (AB (.t7 0 1 2 10 11 52 53) ?_)
  refine Ji (k + 1) _ _ _ _ ?_ ?_ (.t7 11 53 0 1 2 10 52) (.refl _)
  · exact ⟨hR, by assumption, by assumption, by assumption⟩
  · omega
 have c2p := kz c2
 refine Ba (AV (AV (Ah ?_)))
 refine AB (.t3 0 10 11) ?_
 refine AA (Gs (Gm rfl (Gm rfl ?_)))
 refine Gt (F7 Tryz.underlying9 rfl rfl (by (try simp only [List.length_cons, List.length_nil]); omega) (by (try simp only [List.length_cons, List.length_nil]); omega)) ?_
 refine Ag rfl OS (.c rfl (.c rfl .n)) (.c .h (.c .h .n)) (BJ _ _ _ _ (by assumption) (by assumption) (by assumption) _ (by (try simp only [List.length_drop, List.length_take, List.length_append, List.length_cons, List.length_nil]); omega)) (fun v18 B hv => ?_)
 obtain ⟨y19, y20, rfl, y21, y22, y23, rfl⟩ := hv
 refine Gn (.t1 10) (Gs ?_)
 refine Ag rfl W0 (.c rfl .n) (.c .h (.c .h .n)) (Co _ _ _ _ (by assumption) (by assumption) (by (try simp only [List.length_append, List.length_drop]); omega)) (fun v24 B hv => ?_)
 obtain ⟨rfl, rfl⟩ := hv
 refine Ga rfl (Gn (.t1 8) (Ab ?_))
 refine AY rfl (.tmp rfl .n) ?_
 intro w1 hS; refine ⟨?_, hS.Am⟩; rw [← hI11.done (by omega)]; rfl
theorem H8 (s : As) (hs : s.length ≤ 70368744000000) (w : World) : EF Tryz.prog 126 #[BP s, BP [255], BP [255, 255]] w fun v w' => v = BP (Page.escape s) ∧ B3 w w' := by
 refine Aj [] [] Tryz.func126 rfl rfl rfl (St.start w []) ?_
 refine Gs (Ga rfl (Gn (.t3 0 1 2) (Gs (Gm rfl (Gm rfl (Gm rfl ?_))))))
 refine A8 rfl Zu (.c rfl (.c rfl (.c rfl (.c rfl .n)))) (fun w hS => JB _ (by first | assumption | omega) w) ?_
 refine Ga rfl (Gn (.t1 6) (Ab ?_))
 refine AY rfl (.tmp rfl .n) ?_
 intro w1 hS; refine ⟨?_, hS.Am⟩; rfl
theorem KD (s : As) (hs : s.length ≤ 70368744000000) (w : World) : EF Tryz.prog 98 #[BP s] w fun v w' => v = BP (Page.escape s) ∧ B3 w w' := by
 refine Aj [] [] Tryz.func98 rfl rfl rfl (St.start w []) ?_
 refine Gs (Ga rfl (Gn (.t1 0) (Gs (Gm rfl ?_))))
 refine A8 rfl aY (.c rfl (.c rfl (.c rfl .n))) (fun w hS => H8 _ (by first | assumption | omega) w) ?_
 refine Ga rfl (Gn (.t1 2) (Ab ?_))
 refine AY rfl (.tmp rfl .n) ?_
 intro w1 hS; refine ⟨?_, hS.Am⟩; rfl
theorem MM {t0 : Nat} (p : Ar) (qs : List As) (top : Int) (hs : ∀ s ∈ qs, s.length ≤ 70368744000000) : Eu Tryz.prog 83 #[.agg p.enc.toArray, .int .i64 top] [] (fun w => Rd w p.wait t0 1 (qs.flatMap A4) ∧ p.wait.len ≤ p.wait.cap) (fun v B => ((!Page.Bs p || decide (top < 0) || decide (200 < top)) = true ∧ v = .tuple #[.agg p.enc.toArray, .int .i64 2] ∧ B = []) ∨ ((!Page.Bs p || decide (top < 0) || decide (200 < top)) = false ∧ ∃ (T : Nat) (h' g : Hd) (zs : List As), v = .tuple #[.agg (Ar.enc ⟨h', (Page.B2 top qs (Page.of p)).1.shown, (Page.B2 top qs (Page.of p)).1.B4, (Page.B2 top qs (Page.of p)).1.ring, (Page.B2 top qs (Page.of p)).1.cut⟩).toArray, .int .i64 0] ∧ h'.len = (Page.B2 top qs (Page.of p)).2.length ∧ ZE T h' (Page.B2 top qs (Page.of p)).2 t0 p.wait qs 9 g zs ∧ B = [Ac.own g 9 1 (zs.flatMap A4)])) := by
 intro w hS0 hH
 obtain ⟨r0, k0⟩ := hH
 have hl0 := r0.J1 DD (by decide)
 refine Aj _ _ Tryz.func83 rfl rfl rfl (hS0) ?_
 refine Gs ?_
 refine Bu rfl rfl rfl (fun b1 => ?_)
 refine BG rfl Rq rfl (fun b2 => ?_)
 refine Ga rfl (Gn (.t3 1 2 4) (CA (Gt (AZ rfl Cn .m1 (AS.id Ar.fl.len Ar.fl.one) rfl) ?_)))
 refine A8 rfl YK (.c rfl .n) (fun w hS => GM _ w) ?_
 refine Gt (BO rfl) (Gm rfl (BW 10 rfl rfl (fun q => AE rfl) (BW 10 rfl rfl (fun q => A5 (cF rfl q) rfl) ?_)))
 refine Gt (BR rfl rfl (fun h => by rw [h]; rfl)) ?_
 refine Gm rfl (BW 14 rfl rfl (fun q => AE rfl) (BW 14 rfl rfl (fun q => Cd (cF rfl q) rfl) ?_))
 refine Gt (BR rfl rfl (fun h => by rw [h]; rfl)) ?_
 refine Gn (.t4 1 2 4 17) ?_
 refine Gc (fun c1 => ?_) (fun c1 => ?_)
 ·
  refine Gs (Gt (AZ rfl Cn .m1 (AS.id Ar.fl.len Ar.fl.one) rfl) ?_)
  refine AR (AK (AS.id Ar.fl.len Ar.fl.one) rfl rfl rfl E4 rfl .h) ?_
  refine Ga rfl (Gn (.t2 4 5) (Ab (AD ?_)))
  refine AY rfl (.cell rfl .m0 (.inl ⟨(by rw [Ar.fl.len]; exact Cn), rfl⟩) (.tmp rfl .n)) ?_
  intro w1 hS
  have hS := (hS.perm (Av.perm .n)).Ay
  exact ⟨_, .inl ⟨c1, rfl, rfl⟩, hS⟩
 have c1p := kz c1
 have hgd : Page.Bs p = true ∧ 0 ≤ top ∧ top ≤ 200 := by simp at c1; exact ⟨c1.1.1, by omega, by omega⟩
 refine Aa ?_
 refine AB (.t3 1 2 4) ?_
 refine AA (Ao (Ae ?_))
 refine Bj (.t3 1 2 4) ?_
 refine Ep A4 9 1 ?_
 refine BU (.t (.t .h)) ?_
 refine BU (.t .h) ?_
 refine Wr (fun (rest : List As) (sh : Int) (ak : Bool) (ring : As) (ct : Bool) (T : Nat) (hx : Hd) (g : Hd) (zs : List As) => Page.FI top qs (Page.of p) rest hx ⟨sh, ak, ring, ct⟩ ∧ ZE T hx rest t0 p.wait qs 9 g zs) (fun (rest : List As) (sh : Int) (ak : Bool) (ring : As) (ct : Bool) (T : Nat) (hx : Hd) (g : Hd) (zs : List As) => rest.length) (fun (rest : List As) (sh : Int) (ak : Bool) (ring : As) (ct : Bool) (T : Nat) (hx : Hd) (g : Hd) (zs : List As) => []) (fun (rest : List As) (sh : Int) (ak : Bool) (ring : As) (ct : Bool) (T : Nat) (hx : Hd) (g : Hd) (zs : List As) => [Ac.own g 9 1 (zs.flatMap A4), Ac.box b1 65 (Ar.enc ⟨hx, sh, ak, ring, ct⟩)]) (qs) (p.shown) (p.B4) (p.ring) (p.cut) (t0) (p.wait) (_) (_) ?_ rfl rfl (fun rest sh ak ring ct T hx g zs hI1 => ?_)
 · exact ⟨Page.FI.start hgd.1 hl0 hs, .inl ⟨rfl, rfl, rfl, rfl, rfl⟩⟩
 obtain ⟨hI11, hor⟩ := hI1; have hl := hI11.hl; have hn := hI11.n; have hr := hI11.ring; have hs0 := hI11.s0; have hs1 := hI11.s1; dsimp only at hr hs0 hs1
 refine CA (Gt (Af GN rfl) (Gt (AF rfl EI .m1 Ar.l0 rfl rfl) (Gt (Aq rfl Tryz.underlying52 rfl) (Gt (Cd rfl rfl) (Gm rfl (BZ 23 rfl rfl (fun q => Af Ly rfl) (BZ 23 rfl rfl (fun q => AF (BV rfl q) Ct .m1 Ar.l2 rfl rfl) ?_)))))))
 refine BZ 23 rfl rfl (fun q => BO (BV rfl q)) (Gt (BH rfl rfl (fun h => h)) (Gm rfl (BZ 28 rfl rfl (fun q => Af Ig rfl) (BZ 28 rfl rfl (fun q => AF (BV rfl q) Ct .m1 Ar.l4 rfl rfl) (BZ 28 rfl rfl (fun q => BO (BV rfl q)) (Gt (BH rfl rfl (fun h => h)) (Gn (.t4 1 2 4 32) ?_)))))))
 refine Gc (fun c2 => ?_) (fun c2 => ?_)
 ·
  have c2p := kz c2
  have hc3 : 0 < rest.length ∧ ak = false ∧ ct = false := by simp at c2; exact ⟨by omega, c2.1.2, c2.2⟩
  obtain ⟨hc0, hak, hct⟩ := hc3
  obtain ⟨q, r, rfl⟩ := Bc.TQ (qs := rest) (by omega)
  refine Aa ?_
  refine AB (.t3 1 2 4) ?_
  refine AA (Ae (CA (Gm rfl (Gt (Cd rfl rfl) (Gm rfl (BZ 35 rfl rfl (fun q => Af Ix rfl) (BZ 35 rfl rfl (fun q => AF (BV rfl q) A1 .m1 Ar.l1 rfl rfl) ?_)))))))
  refine BZ 35 rfl rfl (fun q => AE rfl) (BZ 35 rfl rfl (fun q => CH (BV rfl q) (BV rfl q)) (Gt (BH rfl rfl (fun h => h)) (Gn (.t4 1 2 4 40) ?_)))
  refine Gc (fun c3 => ?_) (fun c3 => ?_)
  ·
   have c3p := kz c3
   refine Gs (Gt (Af Ly rfl) ?_)
   refine AR (AK Ar.l2 rfl rfl rfl Jr rfl (.t .h)) ?_
   refine Gn (.t2 2 4) (Gs (Gt (AZ rfl Cn .m1 (AS.id Ar.fl.len Ar.fl.one) rfl) ?_))
   refine A8 rfl Wg (.c rfl (.c rfl .n)) (fun w hS => D9 _ _ (by first | omega | (have h1 := Page.Gx ((q :: r).getD (0 : Int).toNat []); have h2 := hI11.len ((q :: r).getD (0 : Int).toNat []) (by simp); simp only [List.length_append, List.length_cons, List.length_nil] at *; omega)) w) ?_
   refine Gm rfl (Gt (AM rfl rfl) (Gt (AM rfl rfl) ?_))
   refine AR (AK (AS.id Ar.fl.len Ar.fl.one) rfl rfl rfl E4 rfl (.t .h)) ?_
   refine Gn (.t2 2 4) (Ba (AV ?_))
   refine JI rfl ?_
   refine AV (Ah (AA (Gs (Gt (AZ rfl Cn .m1 (AS.id Ar.fl.len Ar.fl.one) rfl) ?_))))
   refine AR (AK (AS.id Ar.fl.len Ar.fl.one) rfl rfl rfl E4 rfl (.t (.t .h))) ?_
   refine Ga rfl (Gn (.t2 4 5) (Ab ?_))
   refine AY rfl (.cell rfl .m2 (.inl ⟨(by rw [Ar.fl.len]; exact Cn), rfl⟩) (.tmp rfl .n)) ?_
   intro w1 hS
   have hS := (hS.perm (Av.perm (.c .h .n))).Ay
   have e := hI11.asks hak hct c3
   exact ⟨_, .inr ⟨c1, T, hx, g, zs, (by first | (rw [e]; done) | (rw [e]; rfl)), (by rw [e]; exact hI11.hl), (by rw [e]; exact hor), rfl⟩, hS⟩
  have c3p := kz c3
  refine Aa ?_
  refine AB (.t3 1 2 4) ?_
  refine AA (Gs (Gt (Af GN rfl) (Gt (AF rfl EI .m1 Ar.l0 rfl rfl) ?_)))
  refine Gt (Bm H9 (by decide) (Yn hor (Kn.Gv r0) (Kn.own .m0)) rfl rfl (by omega) (by omega)) ?_
  refine Gt (C7 rfl CB (Yn hor (Kn.Gv r0) (Kn.own .m0)) (by simp)) ?_
  refine Ga rfl (Gn (.t4 1 2 4 6) (Gs (Gt (Af GN rfl) (Gt (AF rfl EI .m1 Ar.l0 rfl rfl) ?_))))
  refine Gt (Qd Tryz.underlying52 EW rfl rfl (by decide) (by first | omega | (have h1 := Page.Gx ((q :: r).getD (0 : Int).toNat []); have h2 := hI11.len ((q :: r).getD (0 : Int).toNat []) (by simp); simp only [List.length_append, List.length_cons, List.length_nil] at *; omega))) ?_
  refine BD rfl U4 (.c rfl .n) .n (Bv _ r (by simp only [List.length_cons] at *; omega)) (fun w hS => by have h := (Kn.cut (l := 1) (r := hx.len) DD (Yn hor (Kn.Gv r0) (Kn.own .m0)) (by omega) (Nat.le_refl _) (Zw hor (Um.of k0) (Um.own .m0))) w hS; rw [show (((q :: r).take hx.len).drop 1) = r from by rw [List.take_of_length_le (by simp only [List.length_cons] at *; omega)]; rfl] at h; exact h) (fun v2 B hv => ?_)
  obtain ⟨y3, rfl, y4, rfl⟩ := hv
  refine Gt (Af GN rfl) ?_
  refine AR (AK Ar.l0 rfl rfl rfl LV rfl (.t (.t .h))) ?_
  refine Gn (.t4 1 2 4 6) (Gs (Gt (Af Ix rfl) (Gt (AF rfl A1 .m2 Ar.l1 rfl rfl) ?_)))
  refine Gt (Aw rfl rfl (IntWalk.i64_in _ (by first | omega | (have h1 := Page.Gx ((q :: r).getD (0 : Int).toNat []); have h2 := hI11.len ((q :: r).getD (0 : Int).toNat []) (by simp); simp only [List.length_append, List.length_cons, List.length_nil] at *; omega)))) ?_
  refine Gt (Jf rfl rfl) (Gt (Af Ix rfl) ?_)
  refine AR (AK Ar.l1 rfl rfl rfl C3 rfl (.t (.t .h))) ?_
  refine Gn (.t4 1 2 4 6) ?_
  refine BF (N := 9) [0, 0, 2, 6, 15, 31, 63, 63, 127] mix (by kernel_rfl) rfl ?_
  refine Pf 0 rfl (AZ rfl Cn .m2 (AS.id Ar.fl.len Ar.fl.one) rfl) (Pf 1 rfl (AE rfl) ?_)
  refine BX 2 rfl rfl (by kernel_rfl) (Kx (KX (Dr cG (.c rfl .n) (fun w hS => KD _ (hI11.len _ (by simp)) w)))) ?_
  refine Pf 3 rfl (CO rfl rfl (by first | omega | (have h1 := Page.Gx ((q :: r).getD (0 : Int).toNat []); have h2 := hI11.len ((q :: r).getD (0 : Int).toNat []) (by simp); simp only [List.length_append, List.length_cons, List.length_nil] at *; omega))) ?_
  refine BX 4 rfl rfl (by kernel_rfl) (Kx (KX (Dr Wg (.c rfl (.c rfl .n)) (fun w hS => D9 _ _ (by first | omega | (have h1 := Page.Gx ((q :: r).getD (0 : Int).toNat []); have h2 := hI11.len ((q :: r).getD (0 : Int).toNat []) (by simp); simp only [List.length_append, List.length_cons, List.length_nil] at *; omega)) w)))) ?_
  refine Pf 5 rfl (AE rfl) (Pf 6 rfl (AM rfl rfl) (Pf 7 rfl (AM rfl rfl) ?_))
  refine An 8 rfl (by kernel_rfl) ?_
  refine AR (AK (AS.id Ar.fl.len Ar.fl.one) rfl rfl rfl E4 rfl (.t (.t .h))) ?_
  refine BK rfl ⟨?_, ?_⟩
  · exact (Po rfl (AM rfl rfl) rfl rfl (Pk (Pk (Pk (Pk (Pk (Pk (Pk Au))))))))
  refine A2 (by kernel_rfl) ?_
  refine AB (.t3 1 2 4) ?_
  refine AT ?_
  refine CQ (.c .h (.c (.t .h) (.c (.t .h) .n))) ?_
  refine Cf ?_
  refine UH (r) _ _ _ _ (9) _ _ (r) ?_ ?_ (.t3 1 2 4) (.refl _)
  · exact ⟨hI11.next hak hct c3 (by assumption) rfl, .inr ⟨rfl, rfl, rfl⟩⟩
  · simp only [List.length_cons]; omega
 refine Ba (AV (AV (Ah ?_)))
 refine AB (.t2 2 4) ?_
 refine AA (Gs (Gt (AZ rfl Cn .m1 (AS.id Ar.fl.len Ar.fl.one) rfl) ?_))
 refine AR (AK (AS.id Ar.fl.len Ar.fl.one) rfl rfl rfl E4 rfl (.t (.t .h))) ?_
 refine Ga rfl (Gn (.t2 4 5) (Ab ?_))
 refine AY rfl (.cell rfl .m2 (.inl ⟨(by rw [Ar.fl.len]; exact Cn), rfl⟩) (.tmp rfl .n)) ?_
 intro w1 hS
 have hS := (hS.perm (Av.perm (.c .h .n))).Ay
 have e := hI11.Zr c2
 exact ⟨_, .inr ⟨c1, T, hx, g, zs, (by first | (rw [e]; done) | (rw [e]; rfl)), (by rw [e]; exact hI11.hl), (by rw [e]; exact hor), rfl⟩, hS⟩
theorem Dh (b : Nat) (V : AJ) (ls : Vector BE 4) (ev : List Ing.Event) (n m : Nat) (hF : AL.Fit (A3 V ls ev) n m) (hn : n ≤ 600000) (hm : m ≤ 600000) : Eu Tryz.prog 65 #[.pointer (some ⟨b, 0, none⟩)] [Ac.box b 101 (AJ.enc V), Ac.DY (B6 9 (AJ.Ap V) ls), Ac.own (AJ.last V) 56 16 ((ev).flatMap Ing.Event.enc)] (fun w => (GV 2 FV w ∧ 2 ∉ CW [Ac.box b 101 (AJ.enc V), Ac.DY (B6 9 (AJ.Ap V) ls), Ac.own (AJ.last V) 56 16 ((ev).flatMap Ing.Event.enc)]) ∧ (GV 0 AH.C4 w ∧ 0 ∉ CW [Ac.box b 101 (AJ.enc V), Ac.DY (B6 9 (AJ.Ap V) ls), Ac.own (AJ.last V) 56 16 ((ev).flatMap Ing.Event.enc)]) ∧ (GG 7 w ∧ 7 ∉ CW [Ac.box b 101 (AJ.enc V), Ac.DY (B6 9 (AJ.Ap V) ls), Ac.own (AJ.last V) 56 16 ((ev).flatMap Ing.Event.enc)]) ∧ (GG 8 w ∧ 8 ∉ CW [Ac.box b 101 (AJ.enc V), Ac.DY (B6 9 (AJ.Ap V) ls), Ac.own (AJ.last V) 56 16 ((ev).flatMap Ing.Event.enc)])) (fun v B => ∃ V' ls' ev', v = .tuple #[] ∧ A3 V' ls' ev' = AL.B2 (A3 V ls ev) ∧ B = [Ac.box b 101 (AJ.enc V'), Ac.DY (B6 9 (AJ.Ap V') ls'), Ac.own (AJ.last V') 56 16 ((ev').flatMap Ing.Event.enc)]) := by
 intro w hS0 hH
 obtain ⟨⟨gl0, gm0⟩, ⟨gl1, gm1⟩, ⟨gl2, gm2⟩, ⟨gl3, gm3⟩⟩ := hH
 refine Aj _ _ Tryz.func65 rfl rfl rfl (hS0) ?_
 refine Gs (Gm rfl (AP (AA (Ae ?_))))
 refine Bj (.t2 5 0) ?_
 refine BU (.t (.t .h)) ?_
 refine BU (.t (.t .h)) ?_
 refine BU (.t (.t .h)) ?_
 refine Gk (fun (k : Int) (V1 : AJ) (ls1 : Vector BE 4) (ev1 : List Ing.Event) => 0 ≤ k ∧ k ≤ 5 ∧ (A3 V ls ev).B2 = (A3 V1 ls1 ev1).Io (5 - k).toNat ∧ AL.Fit (A3 V1 ls1 ev1) (n + 44 * k.toNat) (m + 44 * k.toNat)) (fun (k : Int) (V1 : AJ) (ls1 : Vector BE 4) (ev1 : List Ing.Event) => (5 - k).toNat) (fun (k : Int) (V1 : AJ) (ls1 : Vector BE 4) (ev1 : List Ing.Event) => [(5, .int .i64 k)]) (fun (k : Int) (V1 : AJ) (ls1 : Vector BE 4) (ev1 : List Ing.Event) => [Ac.box b 101 (AJ.enc V1), Ac.DY (B6 9 (AJ.Ap V1) ls1), Ac.own (AJ.last V1) 56 16 (ev1.flatMap Ing.Event.enc)]) (0) (V) (ls) (ev) ?_ rfl rfl (fun k V1 ls1 ev1 hI1 => ?_)
 · exact ⟨by omega, by omega, rfl, hF⟩
 obtain ⟨hI11, hI12, hI13, hI14⟩ := hI1
 refine Gs (Gt (A5 rfl rfl) (AP (AA (Ao ?_))))
 refine Gc (fun c1 => ?_) (fun c1 => ?_)
 ·
  have c1p := kz c1
  refine Aa ?_
  refine AB (.t2 0 5) ?_
  refine AA (Ao (Ae (Gs (Ga rfl (AP (AA (CA ?_)))))))
  refine Gm rfl (AP (AA (Ae ?_)))
  refine Bj (.t4 2 7 0 5) ?_
  refine BU (.t (.t .h)) ?_
  refine BU (.t (.t .h)) ?_
  refine BU (.t (.t .h)) ?_
  refine Qx (fun (i : Int) (V2 : AJ) (ls2 : Vector BE 4) (ev2 : List Ing.Event) (c : Bool) => 0 ≤ i ∧ i ≤ 4 ∧ ((A3 V2 ls2 ev2), c) = (A3 V1 ls1 ev1).DT i.toNat) (fun (i : Int) (V2 : AJ) (ls2 : Vector BE 4) (ev2 : List Ing.Event) (c : Bool) => (4 - i).toNat) (fun (i : Int) (V2 : AJ) (ls2 : Vector BE 4) (ev2 : List Ing.Event) (c : Bool) => [(2, .bool c), (7, .int .i64 i)]) (fun (i : Int) (V2 : AJ) (ls2 : Vector BE 4) (ev2 : List Ing.Event) (c : Bool) => [Ac.box b 101 (AJ.enc V2), Ac.DY (B6 9 (AJ.Ap V2) ls2), Ac.own (AJ.last V2) 56 16 (ev2.flatMap Ing.Event.enc)]) (0) (V1) (ls1) (ev1) (false) ?_ rfl rfl (fun i V2 ls2 ev2 c hI2 => ?_)
  · exact ⟨by omega, by omega, rfl⟩
  obtain ⟨hI21, hI22, hI23⟩ := hI2
  refine Gs (Gt (A5 rfl rfl) (AP (AA (Ao ?_))))
  refine Gc (fun c2 => ?_) (fun c2 => ?_)
  ·
   have c2p := kz c2
   have hi : 0 ≤ i ∧ i < 4 := ⟨by omega, by omega⟩
   have hF2 := Ov hI14 hi.1 (by omega) hI23
   refine Aa ?_
   refine AB (.t4 0 2 5 7) ?_
   refine AA (Ao (Ae (Gs (Gm rfl (Ga rfl (Gn (.t5 0 2 3 5 7) (Gs ?_)))))))
   refine Gm rfl (Gm rfl (Gt (BS rfl) (Gt (Af FO rfl) ?_)))
   refine Gt (AQ Mq rfl rfl (by first | omega | exact hi.1 | exact hi.2) (by first | omega | exact hi.1 | exact hi.2)) ?_
   refine Ga rfl (Gn (.t5 0 2 4 5 7) (CA (Gm rfl (Gt (BS rfl) (Gt (Af IH rfl) ?_)))))
   refine Gt (AF rfl A1 .m0 ((AJ.l1.comp (AS.ar (n := 4) A0.fl (by first | omega | exact hi))).comp A0.l0) rfl rfl) ?_
   refine Gt (Ai rfl rfl) (Gn (.t6 0 2 4 5 7 19) ?_)
   refine Gc (fun c3 => ?_) (fun c3 => ?_)
   ·
    have c3p := kz c3
    refine Ba (AV (Ah ?_))
    refine AB (.t4 0 2 5 7) ?_
    refine AA (AI ?_)
    refine Gt (Aw rfl rfl (IntWalk.i64_in _ (by first | omega | exact hi.1 | exact hi.2))) ?_
    refine Gm rfl ?_
    refine AP (AB (.t4 0 2 5 7) ?_)
    refine Ji (i + 1) _ _ _ _ ?_ ?_ (.t4 2 7 0 5) (.refl _)
    · exact ⟨by omega, by omega, ((KQ hi.1 hi.2 hI23).trans (BB c3)).symm⟩
    · omega
   have c3p := kz c3
   refine Aa ?_
   refine AB (.t5 0 2 4 5 7) ?_
   refine AA ?_
   refine BU (.t (.t .h)) ?_
   refine BU (.t (.t .h)) ?_
   refine BU (.t (.t .h)) ?_
   refine PT (Lm := [_, _, _]) (fun (V3 : AJ) (ls3 : Vector BE 4) => (A3 V3 ls3 ev2) = (A3 V2 ls2 ev2).set i ((A3 V2 ls2 ev2).at_ i).B2) (fun (V3 : AJ) (ls3 : Vector BE 4) => []) (fun (V3 : AJ) (ls3 : Vector BE 4) => [Ac.box b 101 (AJ.enc V3), Ac.DY (B6 9 (AJ.Ap V3) ls3), Ac.own (AJ.last V3) 56 16 (ev2.flatMap Ing.Event.enc)]) (.t5 0 2 4 5 7) rfl ?_ (fun V3 ls3 hC => ?_)
   ·
    refine Er (k := i) hi.1 hi.2 (fun sv sl hsv hlv hln => ?_)
    refine BF (N := 17) [0, 0, 2, 6, 14, 0, 32, 96, 224, 480, 1022, 2046, 4094, 4094, 8191, 24575, 57343] mix (by kernel_rfl) rfl ?_
    refine Pf 0 rfl (AE rfl) (Pf 1 rfl (AE rfl) (Pf 2 rfl (BS rfl) (Pf 3 rfl (Af Db rfl) (Pf 4 rfl (AZ rfl Cn .m3 ((AS.BL V2 hi.1 hi.2).comp A0.l4) rfl) (Pf 5 rfl (AE rfl) (Pf 6 rfl (BS rfl) (Pf 7 rfl (Af KT rfl) ?_)))))))
    refine Pf 8 rfl (Af Pw rfl) (Pf 9 rfl (AF rfl A1 .m3 (((AS.BL V2 hi.1 hi.2).comp A0.l2).comp AN.l5) rfl rfl) ?_)
    refine An 10 rfl (by kernel_rfl) ?_
    refine BD rfl bV (.c rfl (.c rfl .n)) .n (MM _ _ _ (by rw [← hlv]; exact VM hF2 hi.1 hi.2)) (fun w hS => ⟨(Kn.own .m1) w hS, (Um.own .m1) w hS⟩) (fun v1 B hv => ?_)
    rcases hv with ⟨y2, rfl, rfl⟩ | ⟨y3, y4, y5, y6, y7, rfl, y8, y9, rfl⟩
    ·
     refine Bn rfl ⟨?_, ?_⟩
     · exact (Pk (Pk (Pk (Pk (Pk (Pk (Pk (Pk (Pk (Po rfl (AE rfl) rfl rfl Au))))))))))
     refine Pf 11 rfl (AE rfl) (Pf 12 rfl (AM rfl rfl) (Pf 13 rfl (AM rfl rfl) (Pf 14 rfl (BS rfl) (Pf 15 rfl (Af Db rfl) ?_))))
     refine An 16 rfl (by kernel_rfl) ?_
     refine AR (AK ((AS.BL V2 hi.1 hi.2).comp A0.l4) rfl rfl rfl E4 rfl (.t (.t (.t .h)))) ?_
     refine BK rfl ⟨?_, ?_⟩
     · exact (Pk (Pk (Po rfl (AM rfl rfl) rfl rfl (Pk (Pk (Pk (Pk (Pk (Pk (Pk (Pk (Pk (Pk (Pk (Pk Au)))))))))))))))
     refine A2 (by kernel_rfl) ?_
     refine AB (.t5 0 2 4 5 7) ?_
     refine CQ (.c .h (.c .h (.c .h (.c .h (.c .h .n))))) ?_
     refine RK hi.1 hi.2 (by rfl) (by rfl) (by rfl) ?_
     refine EK _ _ ?_ (.t5 0 2 4 5 7) (.refl _)
     · exact ET hi.1 hi.2 hsv hlv (f := BA.B2) (Rc hln.2.1 y2)
    refine Bn rfl ⟨?_, ?_⟩
    · exact (Pk (Pk (Pk (Pk (Pk (Pk (Pk (Pk (Pk (Po rfl (AE rfl) rfl rfl Au))))))))))
    refine Pf 11 rfl (AE rfl) (Pf 12 rfl (AM rfl rfl) (Pf 13 rfl (AM rfl rfl) (Pf 14 rfl (BS rfl) (Pf 15 rfl (Af Db rfl) ?_))))
    refine An 16 rfl (by kernel_rfl) ?_
    refine AR (AK ((AS.BL V2 hi.1 hi.2).comp A0.l4) rfl rfl rfl E4 rfl (.t (.t (.t (.t .h))))) ?_
    refine BK rfl ⟨?_, ?_⟩
    · exact (Pk (Pk (Po rfl (AM rfl rfl) rfl rfl (Pk (Pk (Pk (Pk (Pk (Pk (Pk (Pk (Pk (Pk (Pk (Pk Au)))))))))))))))
    refine A2 (by kernel_rfl) ?_
    refine AB (.t5 0 2 4 5 7) ?_
    refine CQ (.c .h (.c (.t .h) .n)) ?_
    refine Z4 y9 ?_
    refine CQ (.c (.t .h) (.c .h (.c .h (.c .h (.c .h .n))))) ?_
    refine RK hi.1 hi.2 (by rfl) (by rfl) (by rfl) ?_
    refine EK _ _ ?_ (.t5 0 2 4 5 7) (.refl _)
    · exact ET hi.1 hi.2 hsv hlv (f := BA.B2) (XP hln.2.1 y3 _)
   refine Gs (Gm rfl (Gt (BS rfl) (Gt (Af Db rfl) (Gt (Af Ig rfl) ?_))))
   refine Gt (AF rfl Ct .m0 (((AJ.l1.comp (AS.ar (n := 4) A0.fl (by first | omega | exact hi))).comp A0.l4).comp Ar.l4) rfl rfl) ?_
   refine Gn (.t6 0 2 4 5 7 40) ?_
   refine Gc (fun c4 => ?_) (fun c4 => ?_)
   ·
    have c4p := kz c4
    refine Gs (Gm rfl (Gm rfl ?_))
    refine BD rfl YP (.c rfl (.c rfl .n)) (.c .h (.c .h (.c .h .n))) (Hf _ V3 ls3 ev2 i _ _ hi (by rw [hC]; exact hF2.Wo hi.1 hi.2) (by omega) (by omega)) (fun w hS => ⟨gl0.pull gm0 hS (.c .h (.c .h (.c .h .n))), gl1.pull gm1 hS (.c .h (.c .h (.c .h .n))), gl2.pull gm2 hS (.c .h (.c .h (.c .h .n))), gl3.pull gm3 hS (.c .h (.c .h (.c .h .n)))⟩) (fun v13 B hv => ?_)
    obtain ⟨y14, y15, y16, rfl, y17, rfl⟩ := hv
    refine Gn (.t3 0 5 7) (AI (Ga rfl (AP (AT (AA (AI ?_))))))
    refine Gt (Aw rfl rfl (IntWalk.i64_in _ (by first | omega | exact hi.1 | exact hi.2))) ?_
    refine Gm rfl ?_
    refine AP (AB (.t4 0 2 5 7) ?_)
    refine Ji (i + 1) _ _ _ _ ?_ ?_ (.t4 2 7 0 5) (.refl _)
    · exact ⟨by omega, by omega, (((KQ hi.1 hi.2 hI23).trans ((AU c3).trans (BB (show _ = true from (S4 hi.1 hi.2 hC).symm.trans c4)))).trans (by rw [← hC, ← y17])).symm⟩
    · omega
   have c4p := kz c4
   refine Aa ?_
   refine AB (.t4 0 2 5 7) ?_
   refine AT (AA (AI ?_))
   refine Gt (Aw rfl rfl (IntWalk.i64_in _ (by first | omega | exact hi.1 | exact hi.2))) ?_
   refine Gm rfl ?_
   refine AP (AB (.t4 0 2 5 7) ?_)
   refine Ji (i + 1) _ _ _ _ ?_ ?_ (.t4 2 7 0 5) (.refl _)
   · exact ⟨by omega, by omega, (((KQ hi.1 hi.2 hI23).trans ((AU c3).trans (AU (show _ = false from (S4 hi.1 hi.2 hC).symm.trans c4)))).trans (by rw [← hC])).symm⟩
   · omega
  have c2p := kz c2
  obtain rfl : i = 4 := by omega
  have hE : (A3 V1 ls1 ev1).DT 4 = ((A3 V2 ls2 ev2), c) := hI23.symm
  refine Ba (AV (AV (Ah ?_)))
  refine AB (.t3 0 2 5) ?_
  refine AA (Gs (Gm rfl (Gt (BO rfl) (Gn (.t3 0 5 46) ?_))))
  refine Gc (fun c5 => ?_) (fun c5 => ?_)
  ·
   have c5p := kz c5
   refine Ab (AO (AD (AD (AO ?_))))
   refine AY rfl .n ?_
   intro w1 hS
   have hS := (hS.perm (Av.perm (.c .h (.c .h (.c .h .n))))).Ay
   refine ⟨_, ⟨V2, ls2, ev2, rfl, ?ga1, rfl⟩, hS⟩
   case ga1 => exact (hI13.trans ((My hI11 (by omega)).trans ((BB (show (!((A3 V1 ls1 ev1).DT 4).2) = true by rw [hE]; exact c5)).trans (by rw [hE])))).symm
  have c5p := kz c5
  refine Aa ?_
  refine AB (.t2 0 5) ?_
  refine AT (AA (AI ?_))
  refine Gt (Aw rfl rfl (IntWalk.i64_in _ (by first | omega | exact hi.1 | exact hi.2))) ?_
  refine Gm rfl ?_
  refine AP (AB (.t2 0 5) ?_)
  refine Cs (k + 1) _ _ _ ?_ ?_ (.t2 5 0) (.refl _)
  · exact ⟨by omega, by omega, hI13.trans ((My hI11 (by omega)).trans ((AU (show (!((A3 V1 ls1 ev1).DT 4).2) = false by rw [hE]; exact c5)).trans (by rw [hE]))), (Ov hI14 (by omega) (by omega) hI23).mono (by omega) (by omega)⟩
  · omega
 have c1p := kz c1
 refine Ba (AV (AV (Ah ?_)))
 refine Bf rfl .n ?_
 intro w1 hS
 have hS := (hS.perm (Av.perm (.c .h (.c .h (.c .h .n))))).Ay
 refine ⟨_, ⟨V1, ls1, ev1, rfl, ?ga2, rfl⟩, hS⟩
 case ga2 => exact (hI13.trans (by rw [show (5 - k).toNat = 0 by omega]; rfl)).symm
theorem OX (b : Nat) (V : AJ) (ls : Vector BE 4) (ev : List Ing.Event) (d : Int) (n m : Nat) (hF : AL.Fit (A3 V ls ev) n m) (hn : n ≤ 500000) (hm : m ≤ 500000) : Eu Tryz.prog 60 #[.pointer (some ⟨b, 0, none⟩), .int .i64 d] [Ac.box b 101 (AJ.enc V), Ac.DY (B6 9 (AJ.Ap V) ls), Ac.own (AJ.last V) 56 16 ((ev).flatMap Ing.Event.enc)] (fun w => (GV 2 FV w ∧ 2 ∉ CW [Ac.box b 101 (AJ.enc V), Ac.DY (B6 9 (AJ.Ap V) ls), Ac.own (AJ.last V) 56 16 ((ev).flatMap Ing.Event.enc)]) ∧ (GV 0 AH.C4 w ∧ 0 ∉ CW [Ac.box b 101 (AJ.enc V), Ac.DY (B6 9 (AJ.Ap V) ls), Ac.own (AJ.last V) 56 16 ((ev).flatMap Ing.Event.enc)]) ∧ (GG 7 w ∧ 7 ∉ CW [Ac.box b 101 (AJ.enc V), Ac.DY (B6 9 (AJ.Ap V) ls), Ac.own (AJ.last V) 56 16 ((ev).flatMap Ing.Event.enc)]) ∧ (GG 8 w ∧ 8 ∉ CW [Ac.box b 101 (AJ.enc V), Ac.DY (B6 9 (AJ.Ap V) ls), Ac.own (AJ.last V) 56 16 ((ev).flatMap Ing.Event.enc)])) (fun v B => ∃ V' ls' ev', v = .tuple #[] ∧ A3 V' ls' ev' = AL.Oj (A3 V ls ev) d ∧ B = [Ac.box b 101 (AJ.enc V'), Ac.DY (B6 9 (AJ.Ap V') ls'), Ac.own (AJ.last V') 56 16 ((ev').flatMap Ing.Event.enc)]) := by
 intro w hS0 hH
 obtain ⟨⟨gl0, gm0⟩, ⟨gl1, gm1⟩, ⟨gl2, gm2⟩, ⟨gl3, gm3⟩⟩ := hH
 refine Aj _ _ Tryz.func60 rfl rfl rfl (hS0) ?_
 refine CA (Gm rfl (AP (AA (Ae ?_))))
 refine Bj (.t3 8 0 1) ?_
 refine BU (.t (.t .h)) ?_
 refine BU (.t (.t .h)) ?_
 refine BU (.t (.t .h)) ?_
 refine Gk (fun (i : Int) (V1 : AJ) (ls1 : Vector BE 4) (ev1 : List Ing.Event) => 0 ≤ i ∧ i ≤ 4 ∧ (A3 V1 ls1 ev1) = AL.turns (A3 V ls ev) i.toNat) (fun (i : Int) (V1 : AJ) (ls1 : Vector BE 4) (ev1 : List Ing.Event) => (4 - i).toNat) (fun (i : Int) (V1 : AJ) (ls1 : Vector BE 4) (ev1 : List Ing.Event) => [(8, .int .i64 i)]) (fun (i : Int) (V1 : AJ) (ls1 : Vector BE 4) (ev1 : List Ing.Event) => [Ac.box b 101 (AJ.enc V1), Ac.DY (B6 9 (AJ.Ap V1) ls1), Ac.own (AJ.last V1) 56 16 (ev1.flatMap Ing.Event.enc)]) (0) (V) (ls) (ev) ?_ rfl rfl (fun i V1 ls1 ev1 hI1 => ?_)
 · exact ⟨by omega, by omega, rfl⟩
 obtain ⟨hI11, hI12, hI13⟩ := hI1
 refine Gs (Gt (A5 rfl rfl) (AP (AA (Ao ?_))))
 refine Gc (fun c1 => ?_) (fun c1 => ?_)
 ·
  have c1p := kz c1
  have hi : 0 ≤ i ∧ i < 4 := ⟨by omega, by omega⟩
  refine Aa ?_
  refine AB (.t3 0 1 8) ?_
  refine AA (Ao (Ae (Gs (Gm rfl (Ga rfl (Gn (.t4 0 1 4 8) (AI ?_)))))))
  refine Gm rfl (Gm rfl (Gm rfl (Gt (BS rfl) (Gt (Af FO rfl) ?_))))
  refine Gt (AQ Mq rfl rfl (by first | omega | exact hi.1 | exact hi.2) (by first | omega | exact hi.1 | exact hi.2)) ?_
  refine BD rfl bn (.c rfl (.c rfl .n)) (.c .h (.c .h (.c .h .n))) (PR _ V1 ls1 ev1 i (n + 44) (m + 44) hi (by rw [hI13]; exact (AL.Ja hF i.toNat (by omega)).mono (by omega) (by omega)) (by omega) (by omega)) (fun w hS => ⟨gl0.pull gm0 hS (.c .h (.c .h (.c .h .n))), gl1.pull gm1 hS (.c .h (.c .h (.c .h .n))), gl2.pull gm2 hS (.c .h (.c .h (.c .h .n))), gl3.pull gm3 hS (.c .h (.c .h (.c .h .n)))⟩) (fun v1 B hv => ?_)
  obtain ⟨y2, y3, y4, rfl, y5, rfl⟩ := hv
  refine AP (AB (.t3 0 1 8) ?_)
  refine AT (AA (AI ?_))
  refine Gt (Aw rfl rfl (IntWalk.i64_in _ (by first | omega | exact hi.1 | exact hi.2))) ?_
  refine Gm rfl ?_
  refine AP (AB (.t3 0 1 8) ?_)
  refine Cs (i + 1) _ _ _ ?_ ?_ (.t3 8 0 1) (.refl _)
  · exact ⟨by omega, by omega, y5.trans (by rw [hI13]; exact (Sn hI11).symm)⟩
  · omega
 have c1p := kz c1
 obtain rfl : i = 4 := by omega
 have hF1 := AL.Ja hF 4 (Nat.le_refl 4)
 rw [show (4 : Nat) = (4 : Int).toNat from rfl, ← hI13] at hF1
 have hrl : (AG.Ch V1.w d).2.1.length ≤ 78 := AG.O9 hF1.G9.L4 d
 have hrs := AG.Mv (draw := d) hF1.G9
 have hF4 := ((hF1.land hrs.1).HH hrs.2).mono (Nat.add_le_add_left hrl _) (Nat.add_le_add_left hrl _)
 refine Ba (AV (AV (Ah ?_)))
 refine AB (.t2 0 1) ?_
 refine AA (Gs (Gm rfl (Gt (BS rfl) (Gt (Af Du rfl) (Gt (AZ rfl BT .m0 AJ.l0 rfl) (Gm rfl ?_))))))
 refine BD rfl ba (.c rfl (.c rfl .n)) .n (LX V1.w d hF1.G9.L4) (fun w hS => gl1.pull gm1 hS .n) (fun v6 B hv => ?_)
 obtain ⟨y7, rfl, y8, rfl⟩ := hv
 refine Gm rfl (Gt (AM rfl rfl) (Gt (AM rfl rfl) (Gt (AM rfl rfl) ?_)))
 refine BG rfl Li rfl (fun b1 => ?_)
 refine AR (AK (AS.id AH.fl.len AH.fl.one) rfl rfl rfl Dt rfl .h) ?_
 refine Ga rfl (Ga rfl (Gn (.t3 0 5 6) (Gs (Gm rfl (Gt (AZ rfl BT .m0 (AS.id AH.fl.len AH.fl.one) rfl) (Gt (BS rfl) (Gt (Af Du rfl) ?_)))))))
 refine AR (AK AJ.l0 rfl rfl rfl Dt rfl (.t (.t .h))) ?_
 refine Gn (.t2 0 6) (Gs (Gm rfl (Gm rfl ?_)))
 refine BD rfl Un (.c rfl (.c rfl .n)) (.c (.t (.t .h)) (.c (.t (.t .h)) (.c (.t (.t .h)) (.c (.t .h) .n)))) (Ed _ { V1 with w := (AG.Ch V1.w d).1 } ls1 ev1 _ (AG.Ch V1.w d).2.1 _ (by assumption) (F9 hF1) (by omega) (Nat.le_trans hF1.last (by omega)) (fun e he c _ => hrs.2 e he)) (fun w hS => ⟨gl0.pull gm0 hS (.c (.t (.t .h)) (.c (.t (.t .h)) (.c (.t (.t .h)) (.c (.t .h) .n)))), gl1.pull gm1 hS (.c (.t (.t .h)) (.c (.t (.t .h)) (.c (.t (.t .h)) (.c (.t .h) .n))))⟩) (fun v10 B hv => ?_)
 obtain ⟨y11, y12, y13, rfl, y14, rfl⟩ := hv
 refine Gn (.t1 0) (AI (Gm rfl ?_))
 refine BD rfl RI (.c rfl .n) (.c .h (.c .h (.c .h .n))) (Dh _ y11 y12 y13 _ _ (by rw [y14]; exact hF4) (by omega) (by omega)) (fun w hS => ⟨gl0.pull gm0 hS (.c .h (.c .h (.c .h .n))), gl1.pull gm1 hS (.c .h (.c .h (.c .h .n))), gl2.pull gm2 hS (.c .h (.c .h (.c .h .n))), gl3.pull gm3 hS (.c .h (.c .h (.c .h .n)))⟩) (fun v15 B hv => ?_)
 obtain ⟨y16, y17, y18, rfl, y19, rfl⟩ := hv
 refine AP ?_
 refine Bf rfl .n ?_
 intro w1 hS
 have hS := (hS.perm (Av.perm (.c .h (.c .h (.c .h .n))))).Ay
 refine ⟨_, ⟨y16, y17, y18, rfl, ?ga1, rfl⟩, hS⟩
 case ga1 => rw [y19, y14, NT]; show AL.B2 (AL.HH { (A3 V1 ls1 ev1) with w := (AG.Ch ((A3 V1 ls1 ev1)).w d).1 } (AG.Ch ((A3 V1 ls1 ev1)).w d).2.1) = _; rw [hI13]; rfl
theorem FU (opt : Int) (w : World) : EF Tryz.prog 73 #[.int .i64 opt] w fun v w' => v = .tuple #[.int .i64 (AN.place opt).1, .bool (AN.place opt).2.1, .bool (AN.place opt).2.2] ∧ B3 w w' := by
 refine Aj [] [] Tryz.func73 rfl rfl rfl (St.start w []) ?_
 refine Gs (Ga rfl (Ga rfl (Ga rfl (Gn (.t1 0) (CA (Gm rfl (Gn (.t1 5) ?_)))))))
 refine Ae (Gs (Gt (Ai rfl rfl) (Ga rfl (Gn (.t2 5 6) ?_))))
 refine Gc (fun c1 => ?_) (fun c1 => ?_)
 ·
  refine Gs (Ga rfl (Ga rfl (Ga rfl (Gn (.t3 2 3 4) (Ab (AO (AD ?_)))))))
  refine AY rfl (.tmp rfl (.tmp rfl (.tmp rfl .n))) ?_
  intro w1 hS; refine ⟨?_, hS.Am⟩; simp only [AN.place, c1, ↓reduceIte, Bool.false_eq_true]; rfl
 refine Gs (Gt (Ai rfl rfl) (Ga rfl (Gn (.t2 5 8) ?_)))
 refine Gc (fun c2 => ?_) (fun c2 => ?_)
 ·
  refine Gs (Ga rfl (Ga rfl (Ga rfl (Gn (.t3 2 3 4) (Ab (AO (AD ?_)))))))
  refine AY rfl (.tmp rfl (.tmp rfl (.tmp rfl .n))) ?_
  intro w1 hS; refine ⟨?_, hS.Am⟩; simp only [AN.place, c1, c2, ↓reduceIte, Bool.false_eq_true]; rfl
 refine Gs (Gt (Ai rfl rfl) (Ga rfl (Gn (.t1 10) ?_)))
 refine Gc (fun c3 => ?_) (fun c3 => ?_)
 ·
  refine Gs (Ga rfl (Ga rfl (Ga rfl (Gn (.t3 2 3 4) (Ab (AO (AD ?_)))))))
  refine AY rfl (.tmp rfl (.tmp rfl (.tmp rfl .n))) ?_
  intro w1 hS; refine ⟨?_, hS.Am⟩; simp only [AN.place, c1, c2, c3, ↓reduceIte, Bool.false_eq_true]; rfl
 refine Aa ?_
 refine AB (.nil _) ?_
 refine AT (AA (Gs (Ga rfl (Ga rfl (Ga rfl (AP (AA ?_)))))))
 refine Ab ?_
 refine AY rfl (.tmp rfl (.tmp rfl (.tmp rfl .n))) ?_
 intro w1 hS; refine ⟨?_, hS.Am⟩; simp only [AN.place, c1, c2, c3, ↓reduceIte, Bool.false_eq_true]; rfl
theorem Fc (X : AN) (w : World) : EF Tryz.prog 55 #[.agg X.enc.toArray] w fun v w' => v = .bool X.Bs ∧ B3 w w' := by
 refine Aj [] [] Tryz.func55 rfl rfl rfl (St.start w []) ?_
 refine Gs ?_
 refine Bu rfl rfl rfl (fun b1 => ?_)
 refine Ga rfl (Gn (.t1 1) (CA (Gm rfl (AP (AA (Ae ?_))))))
 refine Bj (.t2 4 1) ?_
 refine CR (fun (k : Int) => 0 ≤ k ∧ k ≤ 3 ∧ X.Bs = (B9 3 (fun i => !X.OH i) (3 - k).toNat && (!(!decide (X.us.at 2 = 0) || !decide (X.F3.at 0 = 0)) && X.Ot))) (fun (k : Int) => (3 - k).toNat) (fun (k : Int) => [(4, .int .i64 k)]) (fun (k : Int) => []) (0) ?_ rfl rfl (fun k hI1 => ?_)
 · exact ⟨Int.le_refl _, by omega, rfl⟩
 obtain ⟨hI11, hI12, hI13⟩ := hI1
 refine Gs (Gt (A5 rfl rfl) (AP (AA (Ao ?_))))
 refine Gc (fun c1 => ?_) (fun c1 => ?_)
 ·
  have c1p := kz c1
  rw [C2 _ (by omega)] at hI13
  refine Aa ?_
  refine AB (.t2 1 4) ?_
  refine AA (Ao (Ae (Gs (Gm rfl (Ga rfl (Gn (.t3 1 3 4) (Gs ?_)))))))
  refine Gm rfl (Gt (Af J4 rfl) ?_)
  refine Gt (AQ J7 rfl rfl (by omega) (by omega)) ?_
  refine Gt (AF rfl A1 .m0 (AN.l3.comp (AS.ar (n := 3) By (by omega))) rfl rfl) ?_
  refine Gt (A5 rfl rfl) (Gm rfl (BW 12 rfl rfl (fun q => AE rfl) (BW 12 rfl rfl (fun q => Af J4 rfl) ?_)))
  refine BW 12 rfl rfl (fun q => by have q1 := q; (try simp at q1); exact AQ J7 (cF rfl q) (cF rfl q) (by omega) (by omega)) ?_
  refine BW 12 rfl rfl (fun q => by have q1 := q; (try simp at q1); exact AF (cF rfl q) A1 .m0 (AN.l3.comp (AS.ar (n := 3) By (by omega))) rfl rfl) ?_
  refine BW 12 rfl rfl (fun q => Cd (cF rfl q) rfl) ?_
  refine Gt (BR rfl rfl (fun h => by rw [h]; rfl)) ?_
  refine Gm rfl (BW 19 rfl rfl (fun q => AE rfl) (BW 19 rfl rfl (fun q => Af I3 rfl) ?_))
  refine BW 19 rfl rfl (fun q => by have q1 := q; (try simp at q1); exact AQ J7 (cF rfl q) (cF rfl q) (by omega) (by omega)) ?_
  refine BW 19 rfl rfl (fun q => by have q1 := q; (try simp at q1); exact AF (cF rfl q) A1 .m0 (AN.l4.comp (AS.ar (n := 3) By (by omega))) rfl rfl) ?_
  refine BW 19 rfl rfl (fun q => A5 (cF rfl q) rfl) ?_
  refine Gt (BR rfl rfl (fun h => by rw [h]; rfl)) ?_
  refine Gm rfl (BW 26 rfl rfl (fun q => AE rfl) (BW 26 rfl rfl (fun q => Af I3 rfl) ?_))
  refine BW 26 rfl rfl (fun q => by have q1 := q; (try simp at q1); exact AQ J7 (cF rfl q) (cF rfl q) (by omega) (by omega)) ?_
  refine BW 26 rfl rfl (fun q => by have q1 := q; (try simp at q1); exact AF (cF rfl q) A1 .m0 (AN.l4.comp (AS.ar (n := 3) By (by omega))) rfl rfl) ?_
  refine BW 26 rfl rfl (fun q => Cd (cF rfl q) rfl) ?_
  refine Gt (BR rfl rfl (fun h => by rw [h]; rfl)) ?_
  refine Gn (.t3 1 4 32) ?_
  refine Gc (fun c2 => ?_) (fun c2 => ?_)
  ·
   refine Gs (Ga rfl (Gn (.t1 2) (Ab (AO (AD (AD (AO ?_)))))))
   refine AD ?_
   refine AY rfl (.tmp rfl .n) ?_
   intro w1 hS; refine ⟨congrArg Value.bool ?_, hS.Am⟩; rw [hI13, AN.OH, c2]; rfl
  have c2p := kz c2
  refine Aa ?_
  refine AB (.t2 1 4) ?_
  refine AT (AA (AI ?_))
  refine Gt (Aw rfl rfl (IntWalk.i64_in _ (by omega))) ?_
  refine Gm rfl ?_
  refine AP (AB (.t2 1 4) ?_)
  refine B0 (k + 1) ?_ ?_ (.t2 4 1) (.refl _)
  · exact ⟨by omega, by omega, by rw [hI13, AN.OH, c2]; rfl⟩
  · omega
 have c1p := kz c1
 obtain rfl : k = 3 := by omega
 refine Ba (AV (AV (Ah ?_)))
 refine AB (.t1 1) ?_
 refine AA (CA (Gt (Af J4 rfl) ?_))
 refine Gt (AQ J7 rfl rfl (by decide) (by decide)) ?_
 refine Gt (AF rfl A1 .m0 (AN.l3.comp (AS.arr (n := 3) By (by decide) (by decide))) rfl rfl) ?_
 refine Gt (CK rfl rfl) (Gm rfl (BW 38 rfl rfl (fun q => Af I3 rfl) ?_))
 refine BW 38 rfl rfl (fun q => AQ J7 (cF rfl q) rfl (by decide) (by decide)) ?_
 refine BW 38 rfl rfl (fun q => AF (cF rfl q) A1 .m0 (AN.l4.comp (AS.arr (n := 3) By (by decide) (by decide))) rfl rfl) ?_
 refine BW 38 rfl rfl (fun q => CK (cF rfl q) rfl) ?_
 refine Gt (BR rfl rfl (fun h => by rw [h]; rfl)) ?_
 refine Gn (.t2 1 43) ?_
 refine Gc (fun c3 => ?_) (fun c3 => ?_)
 ·
  refine Gs (Ga rfl (Gn (.t1 2) (Ab (AD ?_))))
  refine AY rfl (.tmp rfl .n) ?_
  intro w1 hS; refine ⟨congrArg Value.bool ?_, hS.Am⟩; rw [hI13, c3]; rfl
 refine Aa ?_
 refine AB (.t1 1) ?_
 refine AA (Gs (Gt (Af FL rfl) (Gt (AF rfl A1 .m0 AN.l0 rfl rfl) (Gt (CH rfl rfl) (Gm rfl (BZ 47 rfl rfl (fun q => Af FL rfl) (BZ 47 rfl rfl (fun q => AF (BV rfl q) A1 .m0 AN.l0 rfl rfl) ?_)))))))
 refine BZ 47 rfl rfl (fun q => Hc (BV rfl q) rfl) (Gt (BH rfl rfl (fun h => h)) (Gm rfl (BZ 52 rfl rfl (fun q => Af FL rfl) (BZ 52 rfl rfl (fun q => AF (BV rfl q) A1 .m0 AN.l0 rfl rfl) (BZ 52 rfl rfl (fun q => Ai (BV rfl q) rfl) (BZ 52 rfl rfl (fun q => Af Kb rfl) (BZ 52 rfl rfl (fun q => AF (BV rfl q) A1 .m0 AN.l1 rfl rfl) ?_)))))))
 refine BZ 52 rfl rfl (fun q => CK (BV rfl q) rfl) (BZ 52 rfl rfl (fun q => ES Tryz.underlying4 (BV rfl q) (BV rfl q)) (Gt (BH rfl rfl (fun h => h)) (Gm rfl (BZ 61 rfl rfl (fun q => Af Kb rfl) (BZ 61 rfl rfl (fun q => AF (BV rfl q) A1 .m0 AN.l1 rfl rfl) (BZ 61 rfl rfl (fun q => Ai (BV rfl q) rfl) (BZ 61 rfl rfl (fun q => AE (BV rfl q)) ?_)))))))
 refine Cw (t := 65) rfl rfl rfl (fun qc q => Af Kb rfl) ?_
 refine Cw (t := 65) rfl rfl rfl (fun qc q => AF (BV rfl (by rw [qc, q]; rfl)) A1 .m0 AN.l1 rfl rfl) ?_
 refine Cw (t := 65) rfl rfl rfl (fun qc q => CH (BV rfl (by rw [qc, q]; rfl)) rfl) ?_
 refine Cw (t := 65) rfl rfl rfl (fun qc q => AE (BV rfl (by rw [qc, q]; rfl))) ?_
 refine DA (t := 69) rfl rfl rfl (fun qc q => Af Kb rfl) ?_
 refine DA (t := 69) rfl rfl rfl (fun qc q => AF (BV rfl (by rw [qc, q]; rfl)) A1 .m0 AN.l1 rfl rfl) ?_
 refine DA (t := 69) rfl rfl rfl (fun qc q => Hc (BV rfl (by rw [qc, q]; rfl)) rfl) ?_
 refine Cw (t := 65) rfl rfl rfl (fun qc q => BH (BV rfl (by rw [qc, q]; rfl)) rfl (fun h => by rw [qc, q, h]; rfl)) ?_
 refine BZ 61 rfl rfl (fun q => BR (BV rfl q) rfl (fun h => by rw [q, h]; rfl)) ?_
 refine Gt (BH rfl rfl (fun h => h)) (Gm rfl (BZ 76 rfl rfl (fun q => Af GK rfl) (BZ 76 rfl rfl (fun q => AF (BV rfl q) CB .m0 AN.l2 rfl rfl) (BZ 76 rfl rfl (fun q => BI rfl Tryz.underlying9 (BV rfl q)) (BZ 76 rfl rfl (fun q => Hc (BV rfl q) rfl) (Gt (BH rfl rfl (fun h => h)) (Gm rfl ?_)))))))
 refine BZ 82 rfl rfl (fun q => Af FL rfl) (BZ 82 rfl rfl (fun q => AF (BV rfl q) A1 .m0 AN.l0 rfl rfl) (BZ 82 rfl rfl (fun q => CH (BV rfl q) rfl) (BZ 82 rfl rfl (fun q => AE (BV rfl q)) ?_)))
 refine Cw (t := 86) rfl rfl rfl (fun qc q => Af GK rfl) ?_
 refine Cw (t := 86) rfl rfl rfl (fun qc q => AF (BV rfl (by rw [qc, q]; rfl)) CB .m0 AN.l2 rfl rfl) ?_
 refine Cw (t := 86) rfl rfl rfl (fun qc q => Bp (BV rfl (by rw [qc, q]; rfl)) rfl) ?_
 refine BZ 82 rfl rfl (fun q => BR (BV rfl q) rfl (fun h => by rw [q, h]; rfl)) ?_
 refine Gt (BH rfl rfl (fun h => h)) (Gm rfl (BZ 92 rfl rfl (fun q => Af Pw rfl) (BZ 92 rfl rfl (fun q => AF (BV rfl q) A1 .m0 AN.l5 rfl rfl) (BZ 92 rfl rfl (fun q => CH (BV rfl q) rfl) (Gt (BH rfl rfl (fun h => h)) (Gm rfl (BZ 97 rfl rfl (fun q => Af Pw rfl) ?_)))))))
 refine BZ 97 rfl rfl (fun q => AF (BV rfl q) A1 .m0 AN.l5 rfl rfl) (BZ 97 rfl rfl (fun q => Hc (BV rfl q) rfl) (Gt (BH rfl rfl (fun h => h)) (Ga rfl (Gn (.t1 2) (Ab ?_)))))
 refine AY rfl (.tmp rfl .n) ?_
 intro w1 hS; refine ⟨congrArg Value.bool ?_, hS.Am⟩; rw [hI13, c3]; rfl
theorem Cu (verb opt : Int) (h0 : 0 ≤ verb ∧ verb ≤ 255) (h1 : 0 ≤ opt ∧ opt ≤ 255) (w : World) : EF Tryz.prog 74 #[.int .i64 verb, .int .i64 opt] w fun v w' => v = BP (AN.U6 verb opt) ∧ B3 w w' := by
 refine Aj [] [] Tryz.func74 rfl rfl rfl (St.start w []) ?_
 refine Gs (Ga rfl (Gn (.t2 0 1) (Gs (Gm rfl ?_))))
 refine Gt (N6 Tryz.underlying5 Tryz.underlying3 rfl (IntWalk.u8_in _ (by omega))) ?_
 refine Gm rfl ?_
 refine Gt (N6 Tryz.underlying5 Tryz.underlying3 rfl (IntWalk.u8_in _ (by omega))) ?_
 refine WI (cs := B7 (n := 3) Yt (Vector.replicate 3 default)) rfl Tryz.underlying105 Ue Y4 (by decide) (by decide) (by kernel_rfl) (.cons (AS.arr (n := 3) (i := 0) al (by decide) (by decide)) rfl rfl rfl (.cons (AS.arr (n := 3) (i := 1) al (by decide) (by decide)) rfl rfl rfl (.cons (AS.arr (n := 3) (i := 2) al (by decide) (by decide)) rfl rfl rfl .nil))) ((JA al).len _) (fun b1 => ?_)
 refine Gt (Nj (s := AN.U6 verb opt) (by rw [show (AN.U6 verb opt).flatMap DE = [.int .u8 255, .int .u8 verb, .int .u8 opt] from by simp [AN.U6, DE, Rt h0.1 h0.2, Rt h1.1 h1.2]]; rfl) Tryz.underlying105 Tryz.underlying9 Tryz.underlying5 rfl (Kn.own .m0)) ?_
 refine Ga rfl (Gn (.t1 4) (Ab ?_))
 refine AY rfl (.tmp rfl .n) ?_
 intro w1 hS; refine ⟨?_, hS.Am⟩; rfl
theorem Ky (X : AN) (opt : Int) (w : World) : EF Tryz.prog 80 #[.agg X.enc.toArray, .int .i64 opt] w fun v w' => v = .tuple #[.agg (X.C8 opt).1.enc.toArray, BP (X.C8 opt).2.1, .int .i64 (X.C8 opt).2.2] ∧ B3 w w' := by
 refine Aj [] [] Tryz.func80 rfl rfl rfl (St.start w []) ?_
 refine Gs ?_
 refine Bu rfl rfl rfl (fun b1 => ?_)
 refine BG rfl Ys rfl (fun b2 => ?_)
 refine Ga rfl (Ga rfl (Gn (.t3 1 2 4) (Gs (Gm rfl ?_))))
 refine A8 rfl YQ (.c rfl .n) (fun w hS => FU _ w) ?_
 refine Gm rfl (Gt (AM rfl rfl) (Gt (AM rfl rfl) (Gt (AM rfl rfl) (Ga rfl (Ga rfl (Ga rfl (Gn (.t5 1 2 4 7 8) ?_)))))))
 refine Ao (Ae (Gs (Gt (AZ rfl Dp .m1 (AS.id AN.fl.len AN.fl.one) rfl) ?_)))
 refine A8 rfl YV (.c rfl .n) (fun w hS => Fc _ w) ?_
 refine Gt (BO rfl) (Ga rfl (Gn (.t6 1 2 4 7 8 16) ?_))
 refine Gc (fun c1 => ?_) (fun c1 => ?_)
 ·
  refine Gs (Gt (AZ rfl Dp .m1 (AS.id AN.fl.len AN.fl.one) rfl) ?_)
  refine AR (AK (AS.id AN.fl.len AN.fl.one) rfl rfl rfl Jp rfl .h) ?_
  refine Ga rfl (Ga rfl (Gn (.t3 4 5 6) (Ab (AO (AD ?_)))))
  refine AY rfl (.cell rfl .m0 (.inl ⟨(by rw [AN.fl.len]; exact Dp), rfl⟩) (.tmp rfl (.tmp rfl .n))) ?_
  intro w1 hS; refine ⟨?_, hS.Am⟩; simp only [AN.C8, c1, ↓reduceIte, Bool.false_eq_true]; rfl
 have c1p := kz c1
 refine Gs (Gm rfl (Gt (BO rfl) (Ga rfl (Gn (.t5 1 2 4 7 21) ?_))))
 refine Gc (fun c2 => ?_) (fun c2 => ?_)
 ·
  refine Gs (Gt (AZ rfl Dp .m1 (AS.id AN.fl.len AN.fl.one) rfl) ?_)
  refine AR (AK (AS.id AN.fl.len AN.fl.one) rfl rfl rfl Jp rfl .h) ?_
  refine Ga rfl (Ga rfl (Gn (.t3 4 5 6) (Ab (AO (AD ?_)))))
  refine AY rfl (.cell rfl .m0 (.inl ⟨(by rw [AN.fl.len]; exact Dp), rfl⟩) (.tmp rfl (.tmp rfl .n))) ?_
  intro w1 hS; refine ⟨?_, hS.Am⟩; simp only [AN.C8, c1, c2, ↓reduceIte, Bool.false_eq_true]; rfl
 have c2p := kz c2
 have hk := AN.NG (opt := opt) (by simpa using c2)
 have hk1 : 0 ≤ (AN.place opt).1 ∧ (AN.place opt).1 < 3 := by rcases hk with ⟨_, e⟩ | ⟨_, e⟩ <;> rw [e] <;> decide
 have ho : 0 ≤ opt ∧ opt ≤ 255 := by rcases hk with ⟨e, _⟩ | ⟨e, _⟩ <;> omega
 refine Gs (Gm rfl (Gt (Af J4 rfl) ?_))
 refine Gt (AQ J7 rfl rfl (by omega) (by omega)) ?_
 refine Gt (AF rfl A1 .m1 (AN.l3.comp (AS.ar (n := 3) By (by omega))) rfl rfl) ?_
 refine Gt (CK rfl rfl) (Ga rfl (Gn (.t5 1 2 4 7 25) ?_))
 refine Gc (fun c3 => ?_) (fun c3 => ?_)
 ·
  refine Gs (Gt (AZ rfl Dp .m1 (AS.id AN.fl.len AN.fl.one) rfl) ?_)
  refine AR (AK (AS.id AN.fl.len AN.fl.one) rfl rfl rfl Jp rfl .h) ?_
  refine Ga rfl (Ga rfl (Gn (.t3 4 5 6) (Ab (AO (AD ?_)))))
  refine AY rfl (.cell rfl .m0 (.inl ⟨(by rw [AN.fl.len]; exact Dp), rfl⟩) (.tmp rfl (.tmp rfl .n))) ?_
  intro w1 hS; refine ⟨?_, hS.Am⟩; simp only [AN.C8, c1, c2, c3, ↓reduceIte, Bool.false_eq_true]; rfl
 have c3p := kz c3
 refine Aa ?_
 refine AB (.t4 1 2 4 7) ?_
 refine AT (AA (Gs (Gm rfl (Gt (Af J4 rfl) ?_))))
 refine Gt (AQ J7 rfl rfl (by omega) (by omega)) ?_
 refine AR (AK (AN.l3.comp (AS.ar (n := 3) By (by omega))) rfl rfl rfl C3 rfl (.t .h)) ?_
 refine Gn (.t3 1 2 4) (Ao ?_)
 refine BF (N := 6) [0, 0, 2, 7, 15, 31] mix (by kernel_rfl) rfl ?_
 refine Pf 0 rfl (AZ rfl Dp .m1 (AS.id AN.fl.len AN.fl.one) rfl) (Pf 1 rfl (AE rfl) ?_)
 refine BX 2 rfl rfl (by kernel_rfl) (Kx (KX (Dr QY (.c rfl (.c rfl .n)) (fun w hS => Cu _ _ (by first | assumption | omega) (by first | assumption | omega) w)))) ?_
 refine An 3 rfl (by kernel_rfl) ?_
 refine AR (AK (AS.id AN.fl.len AN.fl.one) rfl rfl rfl Jp rfl .h) ?_
 refine BK rfl ⟨?_, ?_⟩
 · exact (Pk (Pk (Pk Au)))
 refine Pf 4 rfl (Az rfl) (Pf 5 rfl (Az rfl) ?_)
 refine A2 (by kernel_rfl) ?_
 refine AB (.t3 4 5 6) ?_
 refine AA (Ab ?_)
 refine AY rfl (.cell rfl .m0 (.inl ⟨(by rw [AN.fl.len]; exact Dp), rfl⟩) (.tmp rfl (.tmp rfl .n))) ?_
 intro w1 hS; refine ⟨?_, hS.Am⟩; simp only [AN.C8, c1, c2, c3, ↓reduceIte, Bool.false_eq_true]; rfl
theorem MT (X : AN) (opt : Int) (w : World) : EF Tryz.prog 81 #[.agg X.enc.toArray, .int .i64 opt] w fun v w' => v = .tuple #[.agg (X.Ask opt).1.enc.toArray, BP (X.Ask opt).2.1, .int .i64 (X.Ask opt).2.2] ∧ B3 w w' := by
 refine Aj [] [] Tryz.func81 rfl rfl rfl (St.start w []) ?_
 refine Gs ?_
 refine Bu rfl rfl rfl (fun b1 => ?_)
 refine BG rfl Ys rfl (fun b2 => ?_)
 refine Ga rfl (Ga rfl (Gn (.t3 1 2 4) (Gs (Gm rfl ?_))))
 refine A8 rfl YQ (.c rfl .n) (fun w hS => FU _ w) ?_
 refine Gm rfl (Gt (AM rfl rfl) (Gt (AM rfl rfl) (Gt (AM rfl rfl) (Ga rfl (Ga rfl (Ga rfl (Gn (.t5 1 2 4 7 9) ?_)))))))
 refine Ao (Ae (Gs (Gt (AZ rfl Dp .m1 (AS.id AN.fl.len AN.fl.one) rfl) ?_)))
 refine A8 rfl YV (.c rfl .n) (fun w hS => Fc _ w) ?_
 refine Gt (BO rfl) (Ga rfl (Gn (.t6 1 2 4 7 9 16) ?_))
 refine Gc (fun c1 => ?_) (fun c1 => ?_)
 ·
  refine Gs (Gt (AZ rfl Dp .m1 (AS.id AN.fl.len AN.fl.one) rfl) ?_)
  refine AR (AK (AS.id AN.fl.len AN.fl.one) rfl rfl rfl Jp rfl .h) ?_
  refine Ga rfl (Ga rfl (Gn (.t3 4 5 6) (Ab (AO (AD ?_)))))
  refine AY rfl (.cell rfl .m0 (.inl ⟨(by rw [AN.fl.len]; exact Dp), rfl⟩) (.tmp rfl (.tmp rfl .n))) ?_
  intro w1 hS; refine ⟨?_, hS.Am⟩; simp only [AN.Ask, c1, ↓reduceIte, Bool.false_eq_true]; rfl
 have c1p := kz c1
 refine Gs (Gm rfl (Gt (BO rfl) (Ga rfl (Gn (.t5 1 2 4 7 21) ?_))))
 refine Gc (fun c2 => ?_) (fun c2 => ?_)
 ·
  refine Gs (Gt (AZ rfl Dp .m1 (AS.id AN.fl.len AN.fl.one) rfl) ?_)
  refine AR (AK (AS.id AN.fl.len AN.fl.one) rfl rfl rfl Jp rfl .h) ?_
  refine Ga rfl (Ga rfl (Gn (.t3 4 5 6) (Ab (AO (AD ?_)))))
  refine AY rfl (.cell rfl .m0 (.inl ⟨(by rw [AN.fl.len]; exact Dp), rfl⟩) (.tmp rfl (.tmp rfl .n))) ?_
  intro w1 hS; refine ⟨?_, hS.Am⟩; simp only [AN.Ask, c1, c2, ↓reduceIte, Bool.false_eq_true]; rfl
 have c2p := kz c2
 have hk := AN.KR (opt := opt) (by simpa using c2)
 have hk1 : 0 ≤ (AN.place opt).1 ∧ (AN.place opt).1 < 3 := by rcases hk with ⟨_, e⟩ | ⟨_, e⟩ <;> rw [e] <;> decide
 have ho : 0 ≤ opt ∧ opt ≤ 255 := by rcases hk with ⟨e, _⟩ | ⟨e, _⟩ <;> omega
 refine Gs (Gm rfl (Gt (Af I3 rfl) ?_))
 refine Gt (AQ J7 rfl rfl (by omega) (by omega)) ?_
 refine Gt (AF rfl A1 .m1 (AN.l4.comp (AS.ar (n := 3) By (by omega))) rfl rfl) ?_
 refine Gt (CK rfl rfl) (Ga rfl (Gn (.t5 1 2 4 7 25) ?_))
 refine Gc (fun c3 => ?_) (fun c3 => ?_)
 ·
  refine Gs (Gt (AZ rfl Dp .m1 (AS.id AN.fl.len AN.fl.one) rfl) ?_)
  refine AR (AK (AS.id AN.fl.len AN.fl.one) rfl rfl rfl Jp rfl .h) ?_
  refine Ga rfl (Ga rfl (Gn (.t3 4 5 6) (Ab (AO (AD ?_)))))
  refine AY rfl (.cell rfl .m0 (.inl ⟨(by rw [AN.fl.len]; exact Dp), rfl⟩) (.tmp rfl (.tmp rfl .n))) ?_
  intro w1 hS; refine ⟨?_, hS.Am⟩; simp only [AN.Ask, c1, c2, c3, ↓reduceIte, Bool.false_eq_true]; rfl
 have c3p := kz c3
 refine Aa ?_
 refine AB (.t4 1 2 4 7) ?_
 refine AT (AA (Gs (Gm rfl (Gt (Af I3 rfl) ?_))))
 refine Gt (AQ J7 rfl rfl (by omega) (by omega)) ?_
 refine AR (AK (AN.l4.comp (AS.ar (n := 3) By (by omega))) rfl rfl rfl C3 rfl (.t .h)) ?_
 refine Gn (.t3 1 2 4) (Ao ?_)
 refine BF (N := 6) [0, 0, 2, 7, 15, 31] mix (by kernel_rfl) rfl ?_
 refine Pf 0 rfl (AZ rfl Dp .m1 (AS.id AN.fl.len AN.fl.one) rfl) (Pf 1 rfl (AE rfl) ?_)
 refine BX 2 rfl rfl (by kernel_rfl) (Kx (KX (Dr QY (.c rfl (.c rfl .n)) (fun w hS => Cu _ _ (by first | assumption | omega) (by first | assumption | omega) w)))) ?_
 refine An 3 rfl (by kernel_rfl) ?_
 refine AR (AK (AS.id AN.fl.len AN.fl.one) rfl rfl rfl Jp rfl .h) ?_
 refine BK rfl ⟨?_, ?_⟩
 · exact (Pk (Pk (Pk Au)))
 refine Pf 4 rfl (Az rfl) (Pf 5 rfl (Az rfl) ?_)
 refine A2 (by kernel_rfl) ?_
 refine AB (.t3 4 5 6) ?_
 refine AA (Ab ?_)
 refine AY rfl (.cell rfl .m0 (.inl ⟨(by rw [AN.fl.len]; exact Dp), rfl⟩) (.tmp rfl (.tmp rfl .n))) ?_
 intro w1 hS; refine ⟨?_, hS.Am⟩; simp only [AN.Ask, c1, c2, c3, ↓reduceIte, Bool.false_eq_true]; rfl
theorem QC (b : Nat) (V : AJ) (ls : Vector BE 4) (ev : List Ing.Event) (k : Int) (n m : Nat) (hk : 0 ≤ k ∧ k < 4) (hF : AL.Fit (A3 V ls ev) n m) (hn : n ≤ 500000) (hm : m ≤ 500000) : Eu Tryz.prog 61 #[.pointer (some ⟨b, 0, none⟩), .pointer (some ⟨b, 165 + k.toNat * 22, none⟩)] [Ac.box b 101 (AJ.enc V), Ac.DY (B6 9 (AJ.Ap V) ls), Ac.own (AJ.last V) 56 16 ((ev).flatMap Ing.Event.enc)] (fun w => (GV 2 FV w ∧ 2 ∉ CW [Ac.box b 101 (AJ.enc V), Ac.DY (B6 9 (AJ.Ap V) ls), Ac.own (AJ.last V) 56 16 ((ev).flatMap Ing.Event.enc)]) ∧ (GV 0 AH.C4 w ∧ 0 ∉ CW [Ac.box b 101 (AJ.enc V), Ac.DY (B6 9 (AJ.Ap V) ls), Ac.own (AJ.last V) 56 16 ((ev).flatMap Ing.Event.enc)]) ∧ (GG 7 w ∧ 7 ∉ CW [Ac.box b 101 (AJ.enc V), Ac.DY (B6 9 (AJ.Ap V) ls), Ac.own (AJ.last V) 56 16 ((ev).flatMap Ing.Event.enc)]) ∧ (GG 8 w ∧ 8 ∉ CW [Ac.box b 101 (AJ.enc V), Ac.DY (B6 9 (AJ.Ap V) ls), Ac.own (AJ.last V) 56 16 ((ev).flatMap Ing.Event.enc)])) (fun v B => ∃ V' ls' ev', v = .tuple #[] ∧ A3 V' ls' ev' = AL.RR (A3 V ls ev) k ∧ B = [Ac.box b 101 (AJ.enc V'), Ac.DY (B6 9 (AJ.Ap V') ls'), Ac.own (AJ.last V') 56 16 ((ev').flatMap Ing.Event.enc)]) := by
 intro w hS0 hH
 obtain ⟨⟨gl0, gm0⟩, ⟨gl1, gm1⟩, ⟨gl2, gm2⟩, ⟨gl3, gm3⟩⟩ := hH
 refine Aj _ _ Tryz.func61 rfl rfl rfl (hS0) ?_
 refine Ao ?_
 refine Er (k := k) hk.1 hk.2 (fun sv sl hsv hlv hln => ?_)
 refine AI (Gm rfl (Gt (A9 Uf Ui rfl (.cons A0.l0 rfl rfl rfl (.cons A0.l1 rfl rfl rfl .nil))) (Gt (BS rfl) ?_)))
 refine AR (AK (AS.BL V hk.1 hk.2) rfl rfl rfl Se rfl (.t (.t (.t .h)))) ?_
 refine Gn (.t2 0 1) (CA ?_)
 refine Gt (EY Tryz.underlying145 C3 ZY rfl (.cons (AS.arr (n := 2) (i := 0) By (by decide) (by decide)) rfl rfl rfl (.cons (AS.arr (n := 2) (i := 1) By (by decide) (by decide)) rfl rfl rfl .nil))) ?_
 refine Gm rfl (AP (AA (Ae ?_)))
 refine Bj (.t4 12 0 1 11) ?_
 refine BU (.t (.t (.t .h))) ?_
 refine De (fun (j : Int) (t : AN) (g : Page.Pg) => 0 ≤ j ∧ j ≤ 2 ∧ t = (Ef j.toNat).1 ∧ g = (Ef j.toNat).2) (fun (j : Int) (t : AN) (g : Page.Pg) => (2 - j).toNat) (fun (j : Int) (t : AN) (g : Page.Pg) => [(12, .int .i64 j)]) (fun (j : Int) (t : AN) (g : Page.Pg) => [Ac.box b 101 (I9 V k (EA t g))]) (0) (default) (⟨0, false, [], false⟩) ?_ rfl rfl (fun j t g hI1 => ?_)
 · exact ⟨by omega, by omega, rfl, rfl⟩
 obtain ⟨hI11, hI12, hI13, hI14⟩ := hI1
 refine Gs (Gt (A5 rfl rfl) (AP (AA (Ao ?_))))
 refine Gc (fun c1 => ?_) (fun c1 => ?_)
 ·
  have c1p := kz c1
  refine Aa ?_
  refine AB (.t4 0 1 11 12) ?_
  refine AA (Ao (Ae (Gs ?_)))
  refine Gt (JW By Tryz.underlying145 C3 A1 rfl rfl (by first | omega | exact hk.1 | exact hk.2 | (have h1 := FC t (Dg j); have h2 := HJ (t.C8 (Dg j)).1 (Dg j); dsimp only [Dg, EA] at *; (try simp only [List.length_nil]); omega)) (by first | omega | exact hk.1 | exact hk.2 | (have h1 := FC t (Dg j); have h2 := HJ (t.C8 (Dg j)).1 (Dg j); dsimp only [Dg, EA] at *; (try simp only [List.length_nil]); omega)) rfl) ?_
  refine Ga rfl (Gn (.t5 0 1 5 11 12) (Gs (Ga rfl (Ga rfl (Gn (.t6 0 1 5 7 11 12) (CA (Gm rfl ?_)))))))
  refine Gm rfl (Gt (BS rfl) (Gt (Af KT rfl) (Gt (AZ rfl Dp .m0 ((AS.BL V hk.1 hk.2).comp A0.l2) rfl) (Gm rfl ?_))))
  refine A8 rfl ax (.c rfl (.c rfl .n)) (fun w hS => Ky _ _ w) ?_
  refine Gm rfl (Gt (AM rfl rfl) (Gt (AM rfl rfl) (Gt (AM rfl rfl) (Gt (BS rfl) (Gt (Af KT rfl) ?_)))))
  refine AR (AK ((AS.BL V hk.1 hk.2).comp A0.l2) rfl rfl rfl Jp rfl .h) ?_
  refine Ga rfl (Gn (.t7 0 1 5 6 7 11 12) (Gs (Gm rfl (Gt (Bp rfl rfl) (Gn (.t8 0 1 5 6 7 11 12 29) ?_)))))
  refine Gc (fun c2 => ?_) (fun c2 => ?_)
  ·
   have c2p := kz c2
   refine AI (Gm rfl (Gm rfl (Gt (BS rfl) (Gt (Af KT rfl) (Gt (AZ rfl Dp .m0 ((AS.BL V hk.1 hk.2).comp A0.l2) rfl) (Gm rfl ?_))))))
   refine A8 rfl bL (.c rfl (.c rfl .n)) (fun w hS => MT _ _ w) ?_
   refine Gm rfl (Gt (AM rfl rfl) (Gt (AM rfl rfl) (Gt (AM rfl rfl) (Gt (BS rfl) (Gt (Af KT rfl) ?_)))))
   refine AR (AK ((AS.BL V hk.1 hk.2).comp A0.l2) rfl rfl rfl Jp rfl .h) ?_
   refine Ga rfl (Gn (.t6 0 1 6 7 11 12) (AI (Gm rfl (Gm rfl (Gt (BS rfl) (Gt (Af Db rfl) (Gt (AZ rfl Cn .m0 ((AS.BL V hk.1 hk.2).comp A0.l4) rfl) ?_)))))))
   refine Gm rfl (Gm rfl ?_)
   refine Gt (CO rfl rfl (by first | omega | exact hk.1 | exact hk.2 | (have h1 := FC t (Dg j); have h2 := HJ (t.C8 (Dg j)).1 (Dg j); dsimp only [Dg, EA] at *; (try simp only [List.length_nil]); omega))) ?_
   refine A8 rfl Wg (.c rfl (.c rfl .n)) (fun w hS => D9 _ _ (by simp only [List.length_append]; have h1 := FC t (Dg j); have h2 := HJ (t.C8 (Dg j)).1 (Dg j); dsimp only [Dg, EA] at *; (try simp only [List.length_nil]); omega) w) ?_
   refine Gm rfl (Gt (AM rfl rfl) (Gt (AM rfl rfl) (Gt (BS rfl) (Gt (Af Db rfl) ?_))))
   refine AR (AK ((AS.BL V hk.1 hk.2).comp A0.l4) rfl rfl rfl E4 rfl .h) ?_
   refine AP (AB (.t4 0 1 11 12) ?_)
   refine AT (AA ?_)
   refine Fh (fun _ => .h) (congrArg (I9 V k) (show _ = EA (HZ t (Dg j)) (KN t g (Dg j)) from by rw [EA, KN, show HZ t (Dg j) = _ from BB c2, show Lv t (Dg j) = _ from BB c2]; rfl)) ?_
   refine AI ?_
   refine Gt (Aw rfl rfl (IntWalk.i64_in _ (by first | omega | exact hk.1 | exact hk.2 | (have h1 := FC t (Dg j); have h2 := HJ (t.C8 (Dg j)).1 (Dg j); dsimp only [Dg, EA] at *; (try simp only [List.length_nil]); omega)))) ?_
   refine Gm rfl ?_
   refine AP (AB (.t4 0 1 11 12) ?_)
   refine Bw (j + 1) _ _ ?_ ?_ (.t4 12 0 1 11) (.refl _)
   · exact ⟨by omega, by omega, by rw [Gg hI11, ← hI13, ← hI14], by rw [Gg hI11, ← hI13, ← hI14]⟩
   · omega
  have c2p := kz c2
  refine Aa ?_
  refine AB (.t6 0 1 6 7 11 12) ?_
  refine AA (AI (Gm rfl (Gm rfl (Gt (BS rfl) (Gt (Af Db rfl) (Gt (AZ rfl Cn .m0 ((AS.BL V hk.1 hk.2).comp A0.l4) rfl) (Gm rfl ?_)))))))
  refine Gm rfl ?_
  refine Gt (CO rfl rfl (by first | omega | exact hk.1 | exact hk.2 | (have h1 := FC t (Dg j); have h2 := HJ (t.C8 (Dg j)).1 (Dg j); dsimp only [Dg, EA] at *; (try simp only [List.length_nil]); omega))) ?_
  refine A8 rfl Wg (.c rfl (.c rfl .n)) (fun w hS => D9 _ _ (by simp only [List.length_append]; have h1 := FC t (Dg j); have h2 := HJ (t.C8 (Dg j)).1 (Dg j); dsimp only [Dg, EA] at *; (try simp only [List.length_nil]); omega) w) ?_
  refine Gm rfl (Gt (AM rfl rfl) (Gt (AM rfl rfl) (Gt (BS rfl) (Gt (Af Db rfl) ?_))))
  refine AR (AK ((AS.BL V hk.1 hk.2).comp A0.l4) rfl rfl rfl E4 rfl .h) ?_
  refine AP (AB (.t4 0 1 11 12) ?_)
  refine AT (AA ?_)
  refine Fh (fun _ => .h) (congrArg (I9 V k) (show _ = EA (HZ t (Dg j)) (KN t g (Dg j)) from by rw [EA, KN, show HZ t (Dg j) = _ from AU c2, show Lv t (Dg j) = _ from AU c2]; rfl)) ?_
  refine AI ?_
  refine Gt (Aw rfl rfl (IntWalk.i64_in _ (by first | omega | exact hk.1 | exact hk.2 | (have h1 := FC t (Dg j); have h2 := HJ (t.C8 (Dg j)).1 (Dg j); dsimp only [Dg, EA] at *; (try simp only [List.length_nil]); omega)))) ?_
  refine Gm rfl ?_
  refine AP (AB (.t4 0 1 11 12) ?_)
  refine Bw (j + 1) _ _ ?_ ?_ (.t4 12 0 1 11) (.refl _)
  · exact ⟨by omega, by omega, by rw [Gg hI11, ← hI13, ← hI14], by rw [Gg hI11, ← hI13, ← hI14]⟩
  · omega
 have c1p := kz c1
 obtain rfl : j = 2 := by omega
 refine Ba (AV (AV (Ah ?_)))
 refine AB (.t2 0 1) ?_
 refine AA (Ao ?_)
 refine Ep A4 9 1 ?_
 refine Ep A4 9 1 ?_
 refine Ep A4 9 1 ?_
 refine D6 (.c (.t (.t .h)) (.c (.t .h) (.c .h (.c .h (.c (.t (.t (.t .h))) .n))))) ?_
 refine GZ hk.1 hk.2 (by rfl) (by rfl) (by rfl) ?_
 refine AI (Gm rfl (Gm rfl ?_))
 refine Ag rfl Sv (.c rfl (.c rfl (.c rfl .n))) (.c .h (.c .h (.c (.t (.t (.t .h))) .n))) (D4 _ (AJ.BL V k (EA t g)) (ls.put k ⟨[], [], []⟩) ev k _ hk (by rw [Vector.CM hk.1 hk.2]; exact Nat.zero_le _)) (fun v4 B hv => ?_)
 obtain ⟨y5, y6, y7, rfl, y8, rfl⟩ := hv
 refine Gn (.t1 0) (AI (Gm rfl ?_))
 refine BD rfl RI (.c rfl .n) (.c .h (.c .h (.c .h .n))) (Dh _ y5 y6 y7 (n + 1) m (by rw [y8, (show A3 (AJ.BL V k (EA t g)) (ls.put k ⟨[], [], []⟩) ev = AL.set (A3 V ls ev) k (Ci (EA t g) XR) from Ht V ls ev hk.1 hk.2 _ _)]; exact (hF.comes hk.1 hk.2 t g).tell hk.1 hk.2 (show AL.Hh.length ≤ _ by decide)) (by omega) (by omega)) (fun w hS => ⟨gl0.pull gm0 hS (.c .h (.c .h (.c .h .n))), gl1.pull gm1 hS (.c .h (.c .h (.c .h .n))), gl2.pull gm2 hS (.c .h (.c .h (.c .h .n))), gl3.pull gm3 hS (.c .h (.c .h (.c .h .n)))⟩) (fun v9 B hv => ?_)
 obtain ⟨y10, y11, y12, rfl, y13, rfl⟩ := hv
 refine AP ?_
 refine Bf rfl .n ?_
 intro w1 hS
 have hS := (hS.perm (Av.perm (.c .h (.c .h (.c .h .n))))).Ay
 refine ⟨_, ⟨y10, y11, y12, rfl, ?ga1, rfl⟩, hS⟩
 case ga1 => rw [y13, y8, (show A3 (AJ.BL V k (EA t g)) (ls.put k ⟨[], [], []⟩) ev = AL.set (A3 V ls ev) k (Ci (EA t g) XR) from Ht V ls ev hk.1 hk.2 _ _), hI13, hI14]; unfold AL.RR; rw [← OI]; rfl
theorem Em {α : Type} {ea : α → List Value} {o : Nat} {g : α → Int} {st : α → Int → α} (b V : Nat) (Y : α) (on : Bool) (opt yes no : Int) (h0 : 0 ≤ yes ∧ yes ≤ 255) (h1 : 0 ≤ no ∧ no ≤ 255) (h2 : 0 ≤ opt ∧ opt ≤ 255) (ln : AS ea Ax o 1 g st) : IP Tryz.prog 75 #[.pointer (some ⟨b, o, none⟩), .bool on, .int .i64 opt, .int .i64 yes, .int .i64 no] [Ac.box b V (ea Y)] (fun v B => v = BP (AN.H3 (g Y) on opt yes no) ∧ B = [Ac.box b V (ea (st Y (AN.XH on)))]) := by
 intro w hS0
 refine Aj _ _ Tryz.func75 rfl rfl rfl (hS0) ?_
 refine Gs (Ga rfl (Gn (.t5 0 1 2 3 4) (Gs (Gm rfl (Gt (BS rfl) (Gt (AF rfl A1 .m0 ln rfl rfl) (Ga rfl ?_)))))))
 refine Gn (.t6 0 1 2 3 4 11) (Gs (Gm rfl (Gt (BS rfl) ?_)))
 refine AR (AK ln rfl rfl rfl C3 rfl .h) ?_
 refine Gn (.t6 0 1 2 3 4 11) (CA (Gm rfl (AP (AA ?_))))
 refine Gc (fun c1 => ?_) (fun c1 => ?_)
 ·
  have c1p := kz c1
  refine AI (Gm rfl (Gt (BS rfl) ?_))
  refine AR (AK ln rfl rfl rfl C3 rfl .h) ?_
  refine Gn (.t5 1 2 3 4 11) (Ao (Ae (Gs (Gm rfl (Gm rfl (BZ 22 rfl rfl (fun q => AE rfl) (BZ 22 rfl rfl (fun q => Ai (BV rfl q) rfl) ?_)))))))
  refine Gt (BH rfl rfl (fun h => h)) (Ga rfl (Gn (.t6 1 2 3 4 11 20) ?_))
  refine Gc (fun c2 => ?_) (fun c2 => ?_)
  ·
   have c2p := kz c2
   refine Gs (Gm rfl (Gm rfl ?_))
   refine A8 rfl QY (.c rfl (.c rfl .n)) (fun w hS => Cu _ _ (by first | assumption | omega) (by first | assumption | omega) w) ?_
   refine Ga rfl (Gn (.t1 10) (Ab (AO (AD ?_))))
   refine AY rfl (.tmp rfl .n) ?_
   intro w1 hS
   have hS := (hS.perm (Av.perm (.c .h .n))).Ay
   exact ⟨_, ⟨by clear hS; simp_all [AN.H3, Up], by simp only [AN.XH, ln.Je, c1, c2, ↓reduceIte, Bool.false_eq_true]⟩, hS⟩
  have c2p := kz c2
  refine Gs (Gm rfl (Gt (BO rfl) (Gm rfl (BZ 32 rfl rfl (fun q => AE rfl) (BZ 32 rfl rfl (fun q => Ai (BV rfl q) rfl) (Gt (BH rfl rfl (fun h => h)) (Ga rfl ?_)))))))
  refine Gn (.t3 2 4 29) ?_
  refine Gc (fun c3 => ?_) (fun c3 => ?_)
  ·
   have c3p := kz c3
   refine Gs (Gm rfl (Gm rfl ?_))
   refine A8 rfl QY (.c rfl (.c rfl .n)) (fun w hS => Cu _ _ (by first | assumption | omega) (by first | assumption | omega) w) ?_
   refine Ga rfl (Gn (.t1 10) (Ab (AO (AD ?_))))
   refine AY rfl (.tmp rfl .n) ?_
   intro w1 hS
   have hS := (hS.perm (Av.perm (.c .h .n))).Ay
   exact ⟨_, ⟨by clear hS; simp_all [AN.H3, Up], by simp only [AN.XH, ln.Je, c1, c2, c3, ↓reduceIte, Bool.false_eq_true]⟩, hS⟩
  have c3p := kz c3
  refine Aa ?_
  refine AB (.nil _) ?_
  refine AT (AA (Gs (Ga rfl (AP (AA (Ab ?_))))))
  refine AY rfl (.tmp rfl .n) ?_
  intro w1 hS
  have hS := (hS.perm (Av.perm (.c .h .n))).Ay
  exact ⟨_, ⟨by clear hS; simp_all [AN.H3, Up], by simp only [AN.XH, ln.Je, c1, c2, c3, ↓reduceIte, Bool.false_eq_true]⟩, hS⟩
 have c1p := kz c1
 refine Aa ?_
 refine AB (.t5 1 2 3 4 11) ?_
 refine AA (Ao (Ae (Gs (Gm rfl (Gm rfl (BZ 22 rfl rfl (fun q => AE rfl) (BZ 22 rfl rfl (fun q => Ai (BV rfl q) rfl) ?_)))))))
 refine Gt (BH rfl rfl (fun h => h)) (Ga rfl (Gn (.t6 1 2 3 4 11 20) ?_))
 refine Gc (fun c4 => ?_) (fun c4 => ?_)
 ·
  have c4p := kz c4
  refine Gs (Gm rfl (Gm rfl ?_))
  refine A8 rfl QY (.c rfl (.c rfl .n)) (fun w hS => Cu _ _ (by first | assumption | omega) (by first | assumption | omega) w) ?_
  refine Ga rfl (Gn (.t1 10) (Ab (AO (AD ?_))))
  refine AY rfl (.tmp rfl .n) ?_
  intro w1 hS
  have hS := (hS.perm (Av.perm (.c .h .n))).Ay
  exact ⟨_, ⟨by clear hS; simp_all [AN.H3, Up], by simp only [AN.XH, ln.Je, c1, c4, ↓reduceIte, Bool.false_eq_true]⟩, hS⟩
 have c4p := kz c4
 refine Gs (Gm rfl (Gt (BO rfl) (Gm rfl (BZ 32 rfl rfl (fun q => AE rfl) (BZ 32 rfl rfl (fun q => Ai (BV rfl q) rfl) (Gt (BH rfl rfl (fun h => h)) (Ga rfl ?_)))))))
 refine Gn (.t3 2 4 29) ?_
 refine Gc (fun c5 => ?_) (fun c5 => ?_)
 ·
  have c5p := kz c5
  refine Gs (Gm rfl (Gm rfl ?_))
  refine A8 rfl QY (.c rfl (.c rfl .n)) (fun w hS => Cu _ _ (by first | assumption | omega) (by first | assumption | omega) w) ?_
  refine Ga rfl (Gn (.t1 10) (Ab (AO (AD ?_))))
  refine AY rfl (.tmp rfl .n) ?_
  intro w1 hS
  have hS := (hS.perm (Av.perm (.c .h .n))).Ay
  exact ⟨_, ⟨by clear hS; simp_all [AN.H3, Up], by simp only [AN.XH, ln.Je, c1, c4, c5, ↓reduceIte, Bool.false_eq_true]⟩, hS⟩
 have c5p := kz c5
 refine Aa ?_
 refine AB (.nil _) ?_
 refine AT (AA (Gs (Ga rfl (AP (AA (Ab ?_))))))
 refine AY rfl (.tmp rfl .n) ?_
 intro w1 hS
 have hS := (hS.perm (Av.perm (.c .h .n))).Ay
 exact ⟨_, ⟨by clear hS; simp_all [AN.H3, Up], by simp only [AN.XH, ln.Je, c1, c4, c5, ↓reduceIte, Bool.false_eq_true]⟩, hS⟩
theorem Ip (b : Nat) (X : AN) (verb opt : Int) (h0 : 0 ≤ opt ∧ opt ≤ 255) : IP Tryz.prog 56 #[.pointer (some ⟨b, 0, none⟩), .int .i64 verb, .int .i64 opt] [Ac.box b 69 X.enc] (fun v B => v = BP (X.Bz verb opt).2 ∧ B = [Ac.box b 69 (X.Bz verb opt).1.enc]) := by
 intro w hS0
 refine Aj _ _ Tryz.func56 rfl rfl rfl (hS0) ?_
 refine Gs (Ga rfl (Gn (.t3 0 1 2) (Gs (Gm rfl ?_))))
 refine A8 rfl YQ (.c rfl .n) (fun w hS => FU _ w) ?_
 refine Gm rfl (Gt (AM rfl rfl) (Gt (AM rfl rfl) (Gt (AM rfl rfl) (Ga rfl (Ga rfl (Ga rfl (Gn (.t6 0 1 2 7 8 9) ?_)))))))
 refine CA (Gm rfl (Gn (.t6 0 2 7 8 9 16) (Ae (Gs (Gt (Ai rfl rfl) (Ga rfl (Gn (.t7 0 2 7 8 9 16 17) ?_)))))))
 refine Gc (fun c1 => ?_) (fun c1 => ?_)
 ·
  have c1p := kz c1
  refine CA (Gm rfl (Gt (BO rfl) (Gn (.t4 0 2 7 20) ?_)))
  refine Gc (fun c2 => ?_) (fun c2 => ?_)
  ·
   have c2p := kz c2
   refine Gs (Gm rfl ?_)
   refine A8 rfl QY (.c rfl (.c rfl .n)) (fun w hS => Cu _ _ (by first | assumption | omega) (by first | assumption | omega) w) ?_
   refine Ga rfl (Gn (.t1 6) (Ab (AD (AO (AD ?_)))))
   refine AY rfl (.tmp rfl .n) ?_
   intro w1 hS
   have hS := (hS.perm (Av.perm (.c .h .n))).Ay
   exact ⟨_, ⟨by simp only [AN.Bz, c1, c2, ↓reduceIte, Bool.false_eq_true] <;> rfl, by simp only [AN.Bz, c1, c2, ↓reduceIte, Bool.false_eq_true] <;> rfl⟩, hS⟩
  have c2p := kz c2
  have hk := AN.NG (opt := opt) (by simpa using c2)
  have hk1 : 0 ≤ (AN.place opt).1 ∧ (AN.place opt).1 < 3 := by rcases hk with ⟨_, e⟩ | ⟨_, e⟩ <;> rw [e] <;> decide
  refine Aa ?_
  refine AB (.t3 0 2 7) ?_
  refine AA (Gs (Gm rfl (Gm rfl (Gt (BS rfl) (Gt (Af J4 rfl) ?_)))))
  refine Gt (AQ J7 rfl rfl (by omega) (by omega)) ?_
  refine Gm rfl ?_
  refine Ag rfl XC (.c rfl (.c rfl (.c rfl (.c rfl (.c rfl .n))))) (.c .h .n) (Em _ _ _ _ _ _ _ (by first | assumption | omega) (by first | assumption | omega) (by first | assumption | omega) (AN.l3.comp (AS.ar (n := 3) By (by omega)))) (fun v1 B hv => ?_)
  obtain ⟨rfl, rfl⟩ := hv
  refine Ga rfl (Gn (.t1 6) (Ab (AO (AD ?_))))
  refine AY rfl (.tmp rfl .n) ?_
  intro w1 hS
  have hS := (hS.perm (Av.perm (.c .h .n))).Ay
  exact ⟨_, ⟨by simp only [AN.Bz, c1, c2, ↓reduceIte, Bool.false_eq_true] <;> rfl, by simp only [AN.Bz, c1, c2, ↓reduceIte, Bool.false_eq_true] <;> rfl⟩, hS⟩
 have c1p := kz c1
 refine Gs (Gt (Ai rfl rfl) (Ga rfl (Gn (.t7 0 2 7 8 9 16 30) ?_)))
 refine Gc (fun c3 => ?_) (fun c3 => ?_)
 ·
  have c3p := kz c3
  refine Gs (Gm rfl (Gn (.t4 0 2 7 32) ?_))
  refine Gc (fun c4 => ?_) (fun c4 => ?_)
  ·
   have c4p := kz c4
   have hk := AN.NG (opt := opt) (by simpa using c4)
   have hk1 : 0 ≤ (AN.place opt).1 ∧ (AN.place opt).1 < 3 := by rcases hk with ⟨_, e⟩ | ⟨_, e⟩ <;> rw [e] <;> decide
   refine Gs (Gm rfl (Gm rfl (Gt (BS rfl) (Gt (Af J4 rfl) ?_))))
   refine Gt (AQ J7 rfl rfl (by omega) (by omega)) ?_
   refine Gm rfl ?_
   refine Ag rfl XC (.c rfl (.c rfl (.c rfl (.c rfl (.c rfl .n))))) (.c .h .n) (Em _ _ _ _ _ _ _ (by first | assumption | omega) (by first | assumption | omega) (by first | assumption | omega) (AN.l3.comp (AS.ar (n := 3) By (by omega)))) (fun v2 B hv => ?_)
   obtain ⟨rfl, rfl⟩ := hv
   refine Ga rfl (Gn (.t1 6) (Ab (AO (AD ?_))))
   refine AY rfl (.tmp rfl .n) ?_
   intro w1 hS
   have hS := (hS.perm (Av.perm (.c .h .n))).Ay
   exact ⟨_, ⟨by simp only [AN.Bz, c1, c3, c4, ↓reduceIte, Bool.false_eq_true] <;> rfl, by simp only [AN.Bz, c1, c3, c4, ↓reduceIte, Bool.false_eq_true] <;> rfl⟩, hS⟩
  refine Aa ?_
  refine AB (.nil _) ?_
  refine AT (AA (Gs (Ga rfl (AP (AA (Ab ?_))))))
  refine AY rfl (.tmp rfl .n) ?_
  intro w1 hS
  have hS := (hS.perm (Av.perm (.c .h .n))).Ay
  exact ⟨_, ⟨by simp only [AN.Bz, c1, c3, c4, ↓reduceIte, Bool.false_eq_true] <;> rfl, by simp only [AN.Bz, c1, c3, c4, ↓reduceIte, Bool.false_eq_true] <;> rfl⟩, hS⟩
 have c3p := kz c3
 refine Gs (Gt (Ai rfl rfl) (Ga rfl (Gn (.t6 0 2 7 9 16 40) ?_)))
 refine Gc (fun c5 => ?_) (fun c5 => ?_)
 ·
  have c5p := kz c5
  refine CA (Gm rfl (Gt (BO rfl) (Gn (.t4 0 2 7 43) ?_)))
  refine Gc (fun c6 => ?_) (fun c6 => ?_)
  ·
   have c6p := kz c6
   refine Gs (Gm rfl ?_)
   refine A8 rfl QY (.c rfl (.c rfl .n)) (fun w hS => Cu _ _ (by first | assumption | omega) (by first | assumption | omega) w) ?_
   refine Ga rfl (Gn (.t1 6) (Ab (AD (AO (AD ?_)))))
   refine AY rfl (.tmp rfl .n) ?_
   intro w1 hS
   have hS := (hS.perm (Av.perm (.c .h .n))).Ay
   exact ⟨_, ⟨by simp only [AN.Bz, c1, c3, c5, c6, ↓reduceIte, Bool.false_eq_true] <;> rfl, by simp only [AN.Bz, c1, c3, c5, c6, ↓reduceIte, Bool.false_eq_true] <;> rfl⟩, hS⟩
  have c6p := kz c6
  have hk := AN.KR (opt := opt) (by simpa using c6)
  have hk1 : 0 ≤ (AN.place opt).1 ∧ (AN.place opt).1 < 3 := by rcases hk with ⟨_, e⟩ | ⟨_, e⟩ <;> rw [e] <;> decide
  refine Aa ?_
  refine AB (.t3 0 2 7) ?_
  refine AA (Gs (Gm rfl (Gm rfl (Gt (BS rfl) (Gt (Af I3 rfl) ?_)))))
  refine Gt (AQ J7 rfl rfl (by omega) (by omega)) ?_
  refine Gm rfl ?_
  refine Ag rfl XC (.c rfl (.c rfl (.c rfl (.c rfl (.c rfl .n))))) (.c .h .n) (Em _ _ _ _ _ _ _ (by first | assumption | omega) (by first | assumption | omega) (by first | assumption | omega) (AN.l4.comp (AS.ar (n := 3) By (by omega)))) (fun v3 B hv => ?_)
  obtain ⟨rfl, rfl⟩ := hv
  refine Ga rfl (Gn (.t1 6) (Ab (AO (AD ?_))))
  refine AY rfl (.tmp rfl .n) ?_
  intro w1 hS
  have hS := (hS.perm (Av.perm (.c .h .n))).Ay
  exact ⟨_, ⟨by simp only [AN.Bz, c1, c3, c5, c6, ↓reduceIte, Bool.false_eq_true] <;> rfl, by simp only [AN.Bz, c1, c3, c5, c6, ↓reduceIte, Bool.false_eq_true] <;> rfl⟩, hS⟩
 have c5p := kz c5
 refine Gs (Gt (Ai rfl rfl) (Ga rfl (Gn (.t5 0 2 7 9 53) ?_)))
 refine Gc (fun c7 => ?_) (fun c7 => ?_)
 ·
  have c7p := kz c7
  refine Gs (Gm rfl (Gn (.t4 0 2 7 55) ?_))
  refine Gc (fun c8 => ?_) (fun c8 => ?_)
  ·
   have c8p := kz c8
   have hk := AN.KR (opt := opt) (by simpa using c8)
   have hk1 : 0 ≤ (AN.place opt).1 ∧ (AN.place opt).1 < 3 := by rcases hk with ⟨_, e⟩ | ⟨_, e⟩ <;> rw [e] <;> decide
   refine Gs (Gm rfl (Gm rfl (Gt (BS rfl) (Gt (Af I3 rfl) ?_))))
   refine Gt (AQ J7 rfl rfl (by omega) (by omega)) ?_
   refine Gm rfl ?_
   refine Ag rfl XC (.c rfl (.c rfl (.c rfl (.c rfl (.c rfl .n))))) (.c .h .n) (Em _ _ _ _ _ _ _ (by first | assumption | omega) (by first | assumption | omega) (by first | assumption | omega) (AN.l4.comp (AS.ar (n := 3) By (by omega)))) (fun v4 B hv => ?_)
   obtain ⟨rfl, rfl⟩ := hv
   refine Ga rfl (Gn (.t1 6) (Ab (AO (AD ?_))))
   refine AY rfl (.tmp rfl .n) ?_
   intro w1 hS
   have hS := (hS.perm (Av.perm (.c .h .n))).Ay
   exact ⟨_, ⟨by simp only [AN.Bz, c1, c3, c5, c7, c8, ↓reduceIte, Bool.false_eq_true] <;> rfl, by simp only [AN.Bz, c1, c3, c5, c7, c8, ↓reduceIte, Bool.false_eq_true] <;> rfl⟩, hS⟩
  refine Aa ?_
  refine AB (.nil _) ?_
  refine AT (AA (Gs (Ga rfl (AP (AA (Ab ?_))))))
  refine AY rfl (.tmp rfl .n) ?_
  intro w1 hS
  have hS := (hS.perm (Av.perm (.c .h .n))).Ay
  exact ⟨_, ⟨by simp only [AN.Bz, c1, c3, c5, c7, c8, ↓reduceIte, Bool.false_eq_true] <;> rfl, by simp only [AN.Bz, c1, c3, c5, c7, c8, ↓reduceIte, Bool.false_eq_true] <;> rfl⟩, hS⟩
 refine Aa ?_
 refine AB (.nil _) ?_
 refine AT (AA (Gs (Ga rfl (AP (AA (Ab ?_))))))
 refine AY rfl (.tmp rfl .n) ?_
 intro w1 hS
 have hS := (hS.perm (Av.perm (.c .h .n))).Ay
 exact ⟨_, ⟨by simp only [AN.Bz, c1, c3, c5, c7, ↓reduceIte, Bool.false_eq_true] <;> rfl, by simp only [AN.Bz, c1, c3, c5, c7, ↓reduceIte, Bool.false_eq_true] <;> rfl⟩, hS⟩
theorem GW (b : Nat) (X : AN) (c : UInt8) (h0 : X.sub.length ≤ 16) : IP Tryz.prog 57 #[.pointer (some ⟨b, 0, none⟩), .int .u8 (c.toNat : Int)] [Ac.box b 69 X.enc] (fun v B => v = .tuple #[] ∧ B = [Ac.box b 69 (X.collect c).enc]) := by
 intro w hS0
 refine Aj _ _ Tryz.func57 rfl rfl rfl (hS0) ?_
 refine Gs (Gm rfl (Gt (BS rfl) (Gt (Af GK rfl) (Gt (AF rfl CB .m0 AN.l2 rfl rfl) (Gt (BI rfl Tryz.underlying9 rfl) (Gt (A5 rfl rfl) (Gn (.t3 0 1 9) ?_)))))))
 refine Gc (fun c1 => ?_) (fun c1 => ?_)
 ·
  have c1p := kz c1
  refine BF (N := 11) [0, 1, 3, 7, 0, 16, 48, 127, 255, 511, 1023] mix (by kernel_rfl) rfl ?_
  refine Pf 0 rfl (AE rfl) (Pf 1 rfl (BS rfl) (Pf 2 rfl (Af GK rfl) (Pf 3 rfl (AF rfl CB .m0 AN.l2 rfl rfl) (Pf 4 rfl (AE rfl) ?_))))
  refine An 5 rfl (by kernel_rfl) ?_
  refine R8 rfl Tryz.underlying105 Ue Y4 rfl (by decide) (by decide) rfl rfl rfl (fun b1 => ?_)
  refine Bn rfl ⟨?_, ?_⟩
  · exact (Pk (Po rfl (AF rfl CB .m1 AN.l2 rfl rfl) rfl rfl (Po rfl (Af GK rfl) rfl rfl (Po rfl (BS rfl) rfl rfl (Po rfl (AE rfl) rfl rfl Au)))))
  refine Pf 6 rfl (Nj (s := [c]) rfl Tryz.underlying105 Tryz.underlying9 Tryz.underlying5 rfl (Kn.own .m0)) ?_
  refine Pf 7 rfl (CO rfl rfl (by simp only [List.length_cons, List.length_nil]; omega)) ?_
  refine Pf 8 rfl (BS rfl) (Pf 9 rfl (Af GK rfl) ?_)
  refine An 10 rfl (by kernel_rfl) ?_
  refine AR (AK AN.l2 rfl rfl rfl EW rfl (.t .h)) ?_
  refine BK rfl ⟨?_, ?_⟩
  · exact (Pk (Pk (Pk (Pk (Pk (Pk (Pk (Pk (Pk Au)))))))))
  refine A2 (by kernel_rfl) ?_
  refine Bf rfl .n ?_
  intro w1 hS
  have hS := (hS.perm (Av.perm (.c (.t .h) .n))).Ay
  exact ⟨_, ⟨rfl, by simp only [AN.collect, c1, ↓reduceIte, Bool.false_eq_true]⟩, hS⟩
 refine Aa ?_
 refine Bf rfl .n ?_
 intro w1 hS
 have hS := (hS.perm (Av.perm (.c .h .n))).Ay
 exact ⟨_, ⟨rfl, by simp only [AN.collect, c1, ↓reduceIte, Bool.false_eq_true]⟩, hS⟩
theorem Jn (b : Nat) (X : AN) : IP Tryz.prog 58 #[.pointer (some ⟨b, 0, none⟩)] [Ac.box b 69 X.enc] (fun v B => v = .tuple #[] ∧ B = [Ac.box b 69 X.measure.enc]) := by
 intro w hS0
 refine Aj _ _ Tryz.func58 rfl rfl rfl (hS0) ?_
 refine Gs (Gm rfl (Gt (BS rfl) (Gt (Af GK rfl) (Gt (AF rfl CB .m0 AN.l2 rfl rfl) (Gt (BI rfl Tryz.underlying9 rfl) (Gt (Ai rfl rfl) (Gm rfl ?_)))))))
 refine BZ 8 rfl rfl (fun q => AE rfl) (BZ 8 rfl rfl (fun q => BS (BV rfl q)) (BZ 8 rfl rfl (fun q => Af GK (BV rfl q)) (BZ 8 rfl rfl (fun q => AF (BV rfl q) CB .m0 AN.l2 rfl rfl) ?_)))
 refine BZ 8 rfl rfl (fun q => by have q1 := q; (try simp at q1); exact Bh Tryz.underlying9 (BV rfl q) rfl (by decide) (by omega)) ?_
 refine BZ 8 rfl rfl (fun q => Ai (BV rfl q) rfl) (Gt (BH rfl rfl (fun h => h)) (Gm rfl (BZ 16 rfl rfl (fun q => AE rfl) (BZ 16 rfl rfl (fun q => BS (BV rfl q)) (BZ 16 rfl rfl (fun q => Af I3 (BV rfl q)) ?_)))))
 refine BZ 16 rfl rfl (fun q => AQ J7 (BV rfl q) rfl (by decide) (by decide)) ?_
 refine BZ 16 rfl rfl (fun q => AF (BV rfl q) A1 .m0 (AN.l4.comp (AS.arr (n := 3) By (by decide) (by decide))) rfl rfl) ?_
 refine BZ 16 rfl rfl (fun q => Ai (BV rfl q) rfl) (Gt (BH rfl rfl (fun h => h)) (Gn (.t2 0 23) ?_))
 refine Gc (fun c1 => ?_) (fun c1 => ?_)
 ·
  have c1p := kz c1
  refine BF (N := 19) [0, 0, 2, 6, 14, 30, 62, 126, 0, 256, 768, 1792, 3840, 7936, 16382, 32766, 65535, 131071, 262143] mix (by kernel_rfl) rfl ?_
  refine Pf 0 rfl (AE rfl) (Pf 1 rfl (AE rfl) (Pf 2 rfl (BS rfl) (Pf 3 rfl (Af GK rfl) (Pf 4 rfl (AF rfl CB .m0 AN.l2 rfl rfl) ?_))))
  refine Pf 5 rfl (Bh Tryz.underlying9 rfl rfl (by decide) (by omega)) ?_
  refine Pf 6 rfl (R6 Tryz.underlying3 Tryz.underlying5 rfl) (Pf 7 rfl (Xl rfl rfl) (Pf 8 rfl (AE rfl) (Pf 9 rfl (BS rfl) (Pf 10 rfl (Af GK rfl) (Pf 11 rfl (AF rfl CB .m0 AN.l2 rfl rfl) ?_)))))
  refine Pf 12 rfl (Bh Tryz.underlying9 rfl rfl (by decide) (by omega)) ?_
  refine Pf 13 rfl (R6 Tryz.underlying3 Tryz.underlying5 rfl) (Pf 14 rfl (Yz rfl rfl) (Pf 15 rfl (Jf rfl rfl) (Pf 16 rfl (BS rfl) (Pf 17 rfl (Af Pw rfl) ?_))))
  refine An 18 rfl (by kernel_rfl) ?_
  refine AR (AK AN.l5 rfl rfl rfl C3 rfl .h) ?_
  refine BK rfl ⟨?_, ?_⟩
  · exact (Pk (Pk (Pk (Pk (Pk (Pk (Pk (Pk (Pk (Pk (Pk (Pk (Pk (Pk (Pk (Pk (Pk (Pk Au))))))))))))))))))
  refine A2 (by kernel_rfl) ?_
  refine Bf rfl .n ?_
  intro w1 hS
  have hS := (hS.perm (Av.perm (.c .h .n))).Ay
  exact ⟨_, ⟨rfl, by rw [show X.measure = _ from BB c1]; rfl⟩, hS⟩
 refine Aa ?_
 refine Bf rfl .n ?_
 intro w1 hS
 have hS := (hS.perm (Av.perm (.c .h .n))).Ay
 exact ⟨_, ⟨rfl, by rw [show X.measure = _ from AU c1]⟩, hS⟩
theorem Ld (X : AN) (u : As) (hu : u.length ≤ 140737488351232) (w : World) : EF Tryz.prog 29 #[.agg X.enc.toArray, BP u] w fun v w' => v = .tuple #[.agg (X.DN u).1.enc.toArray, BP (X.DN u).2.1, BP (X.DN u).2.2.1, .int .i64 (X.DN u).2.2.2] ∧ B3 w w' := by
 refine Aj [] [] Tryz.func29 rfl rfl rfl (St.start w []) ?_
 refine Gs ?_
 refine Bu rfl rfl rfl (fun b1 => ?_)
 refine BG rfl Ys rfl (fun b2 => ?_)
 refine Ga rfl (Ga rfl (Ga rfl (Gn (.t3 1 2 4) (CA (Gt (AZ rfl Dp .m1 (AS.id AN.fl.len AN.fl.one) rfl) ?_)))))
 refine A8 rfl YV (.c rfl .n) (fun w hS => Fc _ w) ?_
 refine Gt (BO rfl) (Gn (.t4 1 2 4 15) ?_)
 refine Gc (fun c1 => ?_) (fun c1 => ?_)
 ·
  refine Gs (Gt (AZ rfl Dp .m1 (AS.id AN.fl.len AN.fl.one) rfl) ?_)
  refine AR (AK (AS.id AN.fl.len AN.fl.one) rfl rfl rfl Jp rfl .h) ?_
  refine Ga rfl (Ga rfl (Ga rfl (Gn (.t4 4 5 6 7) (Ab (AD ?_)))))
  refine AY rfl (.cell rfl .m0 (.inl ⟨(by rw [AN.fl.len]; exact Dp), rfl⟩) (.tmp rfl (.tmp rfl (.tmp rfl .n)))) ?_
  intro w1 hS; refine ⟨?_, hS.Am⟩; rw [show X.DN u = _ from BB c1]; rfl
 have c1p := kz c1
 have hg : X.Bs = true := by simpa using c1
 refine Aa ?_
 refine AB (.t3 1 2 4) ?_
 refine AA (Gs ?_)
 refine BG rfl TB rfl (fun b3 => ?_)
 refine DI DE 5 1 ?_
 refine BG rfl TB rfl (fun b4 => ?_)
 refine DI DE 5 1 ?_
 refine AP (AA (CA (Gm rfl ?_)))
 refine NJ rfl Tryz.underlying9 Tryz.underlying105 Tryz.underlying5 rfl (fun h1 h1l => ?_)
 refine Gt (Aq rfl Tryz.underlying105 rfl) (Gm rfl (Gn (.t7 2 4 8 9 18 19 20) (Ae ?_)))
 refine Bj (.t7 20 2 4 8 9 18 19) ?_
 refine BU (.t (.t (.t (.t (.t (.t .h)))))) ?_
 refine BU (.t (.t (.t (.t (.t .h))))) ?_
 refine BU (.t (.t (.t (.t (.t .h))))) ?_
 refine BU (.t (.t (.t (.t (.t .h))))) ?_
 refine BU (.t (.t (.t (.t (.t .h))))) ?_
 refine M3 (fun (k : Int) (t : AN) (x : As) (y : As) (p : Option Addr) (h : Hd) (q : Option Addr) (g : Hd) => AN.Iy X u k t x y ∧ (p = none ∨ p = some ⟨b3, 0, none⟩) ∧ h.Z ∧ h.len = x.length ∧ (q = none ∨ q = some ⟨b4, 0, none⟩) ∧ g.Z ∧ g.len = y.length) (fun (k : Int) (t : AN) (x : As) (y : As) (p : Option Addr) (h : Hd) (q : Option Addr) (g : Hd) => ((u.length : Int) - k).toNat) (fun (k : Int) (t : AN) (x : As) (y : As) (p : Option Addr) (h : Hd) (q : Option Addr) (g : Hd) => [(20, .int .i64 k)]) (fun (k : Int) (t : AN) (x : As) (y : As) (p : Option Addr) (h : Hd) (q : Option Addr) (g : Hd) => [Ac.own g 5 1 (y.flatMap DE), Ac.box b4 107 (DH.enc ⟨q, g⟩), Ac.own h 5 1 (x.flatMap DE), Ac.box b3 107 (DH.enc ⟨p, h⟩), Ac.box b1 69 (AN.enc t)]) (0) (X) ([]) ([]) (none) (⟨none, 0, 0⟩) (none) (⟨none, 0, 0⟩) ?_ rfl rfl (fun k t x y p h q g hI1 => ?_)
 · exact ⟨AN.Iy.start (AN.Vn hg), .inl rfl, Hd.S0, rfl, .inl rfl, Hd.S0, rfl⟩
 obtain ⟨hI11, hp, hz, hl, hq, hzg, hlg⟩ := hI1; have hk0 := hI11.k0; have hk1 := hI11.k1; have hsub := hI11.sub; have hxl := hI11.xl; have hyl := hI11.yl; have hc8 := (u.getD k.toNat 0).toNat_lt; have hyb := hI11.yb
 refine Gs (Gt (A5 rfl rfl) (AP (AA (Ao ?_))))
 refine Gc (fun c2 => ?_) (fun c2 => ?_)
 ·
  have c2p := kz c2
  refine Aa ?_
  refine AB (.t7 2 4 8 9 18 19 20) ?_
  refine AA (Ao (Ae (Gs ?_)))
  refine Gt (Bm Vm (by decide) (Kn.own .m5) rfl rfl (by omega) (by omega)) ?_
  refine Gt (Wl rfl Z7 (Kn.own .m5) (by omega)) ?_
  refine Ga rfl (Gn (.t8 2 4 8 9 11 18 19 20) (Gs (Gm rfl (Gt (R6 Tryz.underlying3 Tryz.underlying5 rfl) (Ga rfl (Gn (.t9 2 4 8 9 11 12 18 19 20) (Gs ?_)))))))
  refine Gt (Af FL rfl) (Gt (AF rfl A1 .m4 AN.l0 rfl rfl) (Gn (.t10 2 4 8 9 11 12 18 19 20 27) (Ae (Gs (Gt (Ai rfl rfl) (Ga rfl (Gn (.t11 2 4 8 9 11 12 18 19 20 27 28) ?_)))))))
  refine Gc (fun c3 => ?_) (fun c3 => ?_)
  ·
   have c3p := kz c3
   refine Gs (Gm rfl (Gt (Ai rfl rfl) (Gn (.t9 2 4 8 9 11 18 19 20 31) ?_)))
   refine Gc (fun c4 => ?_) (fun c4 => ?_)
   ·
    have c4p := kz c4
    refine AI (Gt (Af FL rfl) ?_)
    refine AR (AK AN.l0 rfl rfl rfl C3 rfl (.t (.t (.t (.t .h))))) ?_
    refine AP (AB (.t7 2 4 8 9 18 19 20) ?_)
    refine AT (AT (AA (AI ?_)))
    refine Gt (Aw rfl rfl (IntWalk.i64_in _ (by omega))) ?_
    refine Gm rfl ?_
    refine AP (AB (.t7 2 4 8 9 18 19 20) ?_)
    refine CE _ _ _ _ _ _ _ _ ?_ ?_ (.t7 20 2 4 8 9 18 19) (.refl _)
    · exact ⟨hI11.next (by omega) (by simp only [AN.step, c1, c2, c3, c4, ↓reduceIte, Bool.false_eq_true]) (by simp only [AN.step, c1, c2, c3, c4, List.append_nil, ↓reduceIte, Bool.false_eq_true]) (by simp only [AN.step, c1, c2, c3, c4, List.append_nil, ↓reduceIte, Bool.false_eq_true]), by assumption, by assumption, by assumption, by assumption, by assumption, by assumption⟩
    · omega
   have c4p := kz c4
   refine AI (Gm rfl ?_)
   refine Ag rfl W3 (.c rfl (.c rfl .n)) (.c (.t (.t (.t .h))) (.c (.t (.t .h)) .n)) (CZ _ _ _ _ (by assumption) (by assumption) (by assumption) _ (by omega)) (fun v2 B hv => ?_)
   obtain ⟨y3, y4, rfl, y5, y6, y7, rfl⟩ := hv
   refine AP (AB (.t7 2 4 8 9 18 19 20) ?_)
   refine AT (AT (AA (AI ?_)))
   refine Gt (Aw rfl rfl (IntWalk.i64_in _ (by omega))) ?_
   refine Gm rfl ?_
   refine AP (AB (.t7 2 4 8 9 18 19 20) ?_)
   refine CQ (.c (.t (.t .h)) (.c (.t (.t .h)) (.c (.t .h) (.c .h (.c .h (.c .h (.c .h .n))))))) ?_
   refine Cf ?_
   refine CE _ _ _ _ _ _ _ _ ?_ ?_ (.t7 20 2 4 8 9 18 19) (.refl _)
   · exact ⟨hI11.next (by omega) (by simp only [AN.step, c1, c2, c3, c4, ↓reduceIte, Bool.false_eq_true]) (by simp only [AN.step, c1, c2, c3, c4, List.append_nil, ↓reduceIte, Bool.false_eq_true]) (by simp only [AN.step, c1, c2, c3, c4, List.append_nil, ↓reduceIte, Bool.false_eq_true]), by assumption, by assumption, by assumption, by assumption, by assumption, by assumption⟩
   · omega
  have c3p := kz c3
  refine Gs (Gt (Ai rfl rfl) (Ga rfl (Gn (.t11 2 4 8 9 11 12 18 19 20 27 35) ?_)))
  refine Gc (fun c5 => ?_) (fun c5 => ?_)
  ·
   have c5p := kz c5
   refine Gs (Gt (Af FL rfl) ?_)
   refine AR (AK AN.l0 rfl rfl rfl C3 rfl (.t (.t (.t (.t .h))))) ?_
   refine Gn (.t9 2 4 8 9 11 12 18 19 20) (Ae (Gs (Gm rfl (Gt (Ai rfl rfl) (Ga rfl (Gn (.t10 2 4 8 9 11 12 18 19 20 38) ?_))))))
   refine Gc (fun c6 => ?_) (fun c6 => ?_)
   ·
    have c6p := kz c6
    refine AI (Gm rfl ?_)
    refine Ag rfl W3 (.c rfl (.c rfl .n)) (.c (.t (.t (.t .h))) (.c (.t (.t .h)) .n)) (CZ _ _ _ _ (by assumption) (by assumption) (by assumption) _ (by omega)) (fun v8 B hv => ?_)
    obtain ⟨y9, y10, rfl, y11, y12, y13, rfl⟩ := hv
    refine AP (AB (.t7 2 4 8 9 18 19 20) ?_)
    refine AT (AT (AT (AA (AI ?_))))
    refine Gt (Aw rfl rfl (IntWalk.i64_in _ (by omega))) ?_
    refine Gm rfl ?_
    refine AP (AB (.t7 2 4 8 9 18 19 20) ?_)
    refine CQ (.c (.t (.t .h)) (.c (.t (.t .h)) (.c (.t .h) (.c .h (.c .h (.c .h (.c .h .n))))))) ?_
    refine Cf ?_
    refine CE _ _ _ _ _ _ _ _ ?_ ?_ (.t7 20 2 4 8 9 18 19) (.refl _)
    · exact ⟨hI11.next (by omega) (by simp only [AN.step, c1, c2, c3, c5, c6, ↓reduceIte, Bool.false_eq_true]) (by simp only [AN.step, c1, c2, c3, c5, c6, List.append_nil, ↓reduceIte, Bool.false_eq_true]) (by simp only [AN.step, c1, c2, c3, c5, c6, List.append_nil, ↓reduceIte, Bool.false_eq_true]), by assumption, by assumption, by assumption, by assumption, by assumption, by assumption⟩
    · omega
   have c6p := kz c6
   refine Gs (Gm rfl (Gt (Ai rfl rfl) (Ga rfl (Gn (.t9 2 4 8 9 12 18 19 20 43) ?_))))
   refine Gc (fun c7 => ?_) (fun c7 => ?_)
   ·
    have c7p := kz c7
    refine AI (Gt (Af FL rfl) ?_)
    refine AR (AK AN.l0 rfl rfl rfl C3 rfl (.t (.t (.t (.t .h))))) ?_
    refine AP (AB (.t7 2 4 8 9 18 19 20) ?_)
    refine AT (AT (AT (AA (AI ?_))))
    refine Gt (Aw rfl rfl (IntWalk.i64_in _ (by omega))) ?_
    refine Gm rfl ?_
    refine AP (AB (.t7 2 4 8 9 18 19 20) ?_)
    refine CE _ _ _ _ _ _ _ _ ?_ ?_ (.t7 20 2 4 8 9 18 19) (.refl _)
    · exact ⟨hI11.next (by omega) (by simp only [AN.step, c1, c2, c3, c5, c6, c7, ↓reduceIte, Bool.false_eq_true]) (by simp only [AN.step, c1, c2, c3, c5, c6, c7, List.append_nil, ↓reduceIte, Bool.false_eq_true]) (by simp only [AN.step, c1, c2, c3, c5, c6, c7, List.append_nil, ↓reduceIte, Bool.false_eq_true]), by assumption, by assumption, by assumption, by assumption, by assumption, by assumption⟩
    · omega
   have c7p := kz c7
   refine Gs (Gm rfl (Gt (CH rfl rfl) (Ga rfl (Gn (.t9 2 4 8 9 12 18 19 20 47) ?_))))
   refine Gc (fun c8 => ?_) (fun c8 => ?_)
   ·
    have c8p := kz c8
    refine AI (Gm rfl (Gt (Af FL rfl) ?_))
    refine AR (AK AN.l0 rfl rfl rfl C3 rfl (.t (.t (.t (.t .h))))) ?_
    refine Gt (Af Kb rfl) ?_
    refine AR (AK AN.l1 rfl rfl rfl C3 rfl (.t (.t (.t (.t .h))))) ?_
    refine AP (AB (.t7 2 4 8 9 18 19 20) ?_)
    refine AT (AT (AT (AA (AI ?_))))
    refine Gt (Aw rfl rfl (IntWalk.i64_in _ (by omega))) ?_
    refine Gm rfl ?_
    refine AP (AB (.t7 2 4 8 9 18 19 20) ?_)
    refine CE _ _ _ _ _ _ _ _ ?_ ?_ (.t7 20 2 4 8 9 18 19) (.refl _)
    · exact ⟨hI11.next (by omega) (by simp only [AN.step, c1, c2, c3, c5, c6, c7, c8, ↓reduceIte, Bool.false_eq_true]) (by simp only [AN.step, c1, c2, c3, c5, c6, c7, c8, List.append_nil, ↓reduceIte, Bool.false_eq_true]) (by simp only [AN.step, c1, c2, c3, c5, c6, c7, c8, List.append_nil, ↓reduceIte, Bool.false_eq_true]), by assumption, by assumption, by assumption, by assumption, by assumption, by assumption⟩
    · omega
   have c8p := kz c8
   refine Aa ?_
   refine AB (.t7 2 4 8 9 18 19 20) ?_
   refine AT (AT (AT (AA (AI ?_))))
   refine Gt (Aw rfl rfl (IntWalk.i64_in _ (by omega))) ?_
   refine Gm rfl ?_
   refine AP (AB (.t7 2 4 8 9 18 19 20) ?_)
   refine CE _ _ _ _ _ _ _ _ ?_ ?_ (.t7 20 2 4 8 9 18 19) (.refl _)
   · exact ⟨hI11.next (by omega) (by simp only [AN.step, c1, c2, c3, c5, c6, c7, c8, ↓reduceIte, Bool.false_eq_true]) (by simp only [AN.step, c1, c2, c3, c5, c6, c7, c8, List.append_nil, ↓reduceIte, Bool.false_eq_true]) (by simp only [AN.step, c1, c2, c3, c5, c6, c7, c8, List.append_nil, ↓reduceIte, Bool.false_eq_true]), by assumption, by assumption, by assumption, by assumption, by assumption, by assumption⟩
   · omega
  have c5p := kz c5
  refine Gs (Gt (Ai rfl rfl) (Ga rfl (Gn (.t11 2 4 8 9 11 12 18 19 20 27 53) ?_)))
  refine Gc (fun c9 => ?_) (fun c9 => ?_)
  ·
   have c9p := kz c9
   refine Gs (Gt (Af Kb rfl) (Gt (AF rfl A1 .m4 AN.l1 rfl rfl) (Gm rfl ?_)))
   refine Ag rfl bO (.c rfl (.c rfl (.c rfl .n))) (.c (.t (.t (.t (.t .h)))) .n) (Ip _ _ _ _ (by first | assumption | omega)) (fun v14 B hv => ?_)
   obtain ⟨rfl, rfl⟩ := hv
   refine Ag rfl OS (.c rfl (.c rfl .n)) (.c (.t (.t .h)) (.c (.t .h) .n)) (BJ _ _ _ _ (by assumption) (by assumption) (by assumption) _ (by have := AN.Hk t t.verb ((u.getD k.toNat 0).toNat : Int); omega)) (fun v15 B hv => ?_)
   obtain ⟨y16, y17, rfl, y18, y19, y20, rfl⟩ := hv
   refine Gn (.t7 2 4 8 9 18 19 20) (AI (Gt (Af FL rfl) ?_))
   refine AR (AK AN.l0 rfl rfl rfl C3 rfl (.t (.t .h))) ?_
   refine Gt (Af Kb rfl) ?_
   refine AR (AK AN.l1 rfl rfl rfl C3 rfl (.t (.t .h))) ?_
   refine AP (AB (.t7 2 4 8 9 18 19 20) ?_)
   refine AT (AT (AA (AI ?_)))
   refine Gt (Aw rfl rfl (IntWalk.i64_in _ (by omega))) ?_
   refine Gm rfl ?_
   refine AP (AB (.t7 2 4 8 9 18 19 20) ?_)
   refine CQ (.c (.t .h) (.c .h (.c (.t .h) (.c (.t .h) (.c .h (.c .h (.c .h .n))))))) ?_
   refine Cf ?_
   refine CE _ _ _ _ _ _ _ _ ?_ ?_ (.t7 20 2 4 8 9 18 19) (.refl _)
   · exact ⟨hI11.next (by omega) (by simp only [AN.step, c1, c2, c3, c5, c9, ↓reduceIte, Bool.false_eq_true]) (by simp only [AN.step, c1, c2, c3, c5, c9, List.append_nil, ↓reduceIte, Bool.false_eq_true]) (by simp only [AN.step, c1, c2, c3, c5, c9, List.append_nil, ↓reduceIte, Bool.false_eq_true]), by assumption, by assumption, by assumption, by assumption, by assumption, by assumption⟩
   · omega
  have c9p := kz c9
  refine Gs (Gt (Ai rfl rfl) (Ga rfl (Gn (.t11 2 4 8 9 11 12 18 19 20 27 62) ?_)))
  refine Gc (fun c10 => ?_) (fun c10 => ?_)
  ·
   have c10p := kz c10
   refine Gs (Gm rfl (Gt (Ai rfl rfl) (Gn (.t9 2 4 8 9 11 18 19 20 65) ?_)))
   refine Gc (fun c11 => ?_) (fun c11 => ?_)
   ·
    have c11p := kz c11
    refine AI (Gt (Af FL rfl) ?_)
    refine AR (AK AN.l0 rfl rfl rfl C3 rfl (.t (.t (.t (.t .h))))) ?_
    refine AP (AB (.t7 2 4 8 9 18 19 20) ?_)
    refine AT (AT (AA (AI ?_)))
    refine Gt (Aw rfl rfl (IntWalk.i64_in _ (by omega))) ?_
    refine Gm rfl ?_
    refine AP (AB (.t7 2 4 8 9 18 19 20) ?_)
    refine CE _ _ _ _ _ _ _ _ ?_ ?_ (.t7 20 2 4 8 9 18 19) (.refl _)
    · exact ⟨hI11.next (by omega) (by simp only [AN.step, c1, c2, c3, c5, c9, c10, c11, ↓reduceIte, Bool.false_eq_true]) (by simp only [AN.step, c1, c2, c3, c5, c9, c10, c11, List.append_nil, ↓reduceIte, Bool.false_eq_true]) (by simp only [AN.step, c1, c2, c3, c5, c9, c10, c11, List.append_nil, ↓reduceIte, Bool.false_eq_true]), by assumption, by assumption, by assumption, by assumption, by assumption, by assumption⟩
    · omega
   have c11p := kz c11
   refine AI (Gm rfl ?_)
   refine Ag rfl aC (.c rfl (.c rfl .n)) (.c (.t (.t (.t (.t .h)))) .n) (GW _ _ _ (by first | assumption | omega)) (fun v21 B hv => ?_)
   obtain ⟨rfl, rfl⟩ := hv
   refine AP (AB (.t7 2 4 8 9 18 19 20) ?_)
   refine AT (AT (AA (AI ?_)))
   refine Gt (Aw rfl rfl (IntWalk.i64_in _ (by omega))) ?_
   refine Gm rfl ?_
   refine AP (AB (.t7 2 4 8 9 18 19 20) ?_)
   refine CQ (.c (.t .h) (.c (.t .h) (.c (.t .h) (.c (.t .h) (.c .h (.c .h (.c .h .n))))))) ?_
   refine Cf ?_
   refine CE _ _ _ _ _ _ _ _ ?_ ?_ (.t7 20 2 4 8 9 18 19) (.refl _)
   · exact ⟨hI11.next (by omega) (by simp only [AN.step, c1, c2, c3, c5, c9, c10, c11, ↓reduceIte, Bool.false_eq_true]) (by simp only [AN.step, c1, c2, c3, c5, c9, c10, c11, List.append_nil, ↓reduceIte, Bool.false_eq_true]) (by simp only [AN.step, c1, c2, c3, c5, c9, c10, c11, List.append_nil, ↓reduceIte, Bool.false_eq_true]), by assumption, by assumption, by assumption, by assumption, by assumption, by assumption⟩
   · omega
  have c10p := kz c10
  refine Gs (Gt (Ai rfl rfl) (Ga rfl (Gn (.t10 2 4 8 9 11 12 18 19 20 69) ?_)))
  refine Gc (fun c12 => ?_) (fun c12 => ?_)
  ·
   have c12p := kz c12
   refine Gs (Gm rfl (Gn (.t10 2 4 8 9 11 12 18 19 20 71) (Ae (Gs (Gt (Ai rfl rfl) (Ga rfl (Gn (.t10 2 4 8 9 11 12 18 19 20 77) ?_)))))))
   refine Gc (fun c13 => ?_) (fun c13 => ?_)
   ·
    have c13p := kz c13
    refine Gs (Gt (Af FL rfl) ?_)
    refine AR (AK AN.l0 rfl rfl rfl C3 rfl (.t (.t (.t (.t .h))))) ?_
    refine Gn (.t8 2 4 8 9 11 18 19 20) (AI (Gm rfl ?_))
    refine Ag rfl aC (.c rfl (.c rfl .n)) (.c (.t (.t (.t (.t .h)))) .n) (GW _ _ _ (by first | assumption | omega)) (fun v22 B hv => ?_)
    obtain ⟨rfl, rfl⟩ := hv
    refine AP (AB (.t7 2 4 8 9 18 19 20) ?_)
    refine AT (AT (AT (AA (AI ?_))))
    refine Gt (Aw rfl rfl (IntWalk.i64_in _ (by omega))) ?_
    refine Gm rfl ?_
    refine AP (AB (.t7 2 4 8 9 18 19 20) ?_)
    refine CQ (.c (.t .h) (.c (.t .h) (.c (.t .h) (.c (.t .h) (.c .h (.c .h (.c .h .n))))))) ?_
    refine Cf ?_
    refine CE _ _ _ _ _ _ _ _ ?_ ?_ (.t7 20 2 4 8 9 18 19) (.refl _)
    · exact ⟨hI11.next (by omega) (by simp only [AN.step, c1, c2, c3, c5, c9, c10, c12, c13, ↓reduceIte, Bool.false_eq_true]) (by simp only [AN.step, c1, c2, c3, c5, c9, c10, c12, c13, List.append_nil, ↓reduceIte, Bool.false_eq_true]) (by simp only [AN.step, c1, c2, c3, c5, c9, c10, c12, c13, List.append_nil, ↓reduceIte, Bool.false_eq_true]), by assumption, by assumption, by assumption, by assumption, by assumption, by assumption⟩
    · omega
   have c13p := kz c13
   refine CA (Gm rfl (Gt (Ai rfl rfl) (Gn (.t8 2 4 8 9 18 19 20 73) ?_)))
   refine Gc (fun c14 => ?_) (fun c14 => ?_)
   ·
    have c14p := kz c14
    refine AI ?_
    refine Ag rfl an (.c rfl .n) (.c (.t (.t (.t (.t .h)))) .n) (Jn _ _) (fun v23 B hv => ?_)
    obtain ⟨rfl, rfl⟩ := hv
    refine Gn (.t7 2 4 8 9 18 19 20) (AI (Gt (Af FL rfl) ?_))
    refine AR (AK AN.l0 rfl rfl rfl C3 rfl .h) ?_
    refine Gt (Af GK rfl) ?_
    refine AR (AK AN.l2 rfl rfl rfl EW rfl .h) ?_
    refine AP (AB (.t7 2 4 8 9 18 19 20) ?_)
    refine AT (AT (AT (AA (AI ?_))))
    refine Gt (Aw rfl rfl (IntWalk.i64_in _ (by omega))) ?_
    refine Gm rfl ?_
    refine AP (AB (.t7 2 4 8 9 18 19 20) ?_)
    refine CQ (.c (.t .h) (.c (.t .h) (.c (.t .h) (.c (.t .h) (.c .h (.c .h (.c .h .n))))))) ?_
    refine Cf ?_
    refine CE _ _ _ _ _ _ _ _ ?_ ?_ (.t7 20 2 4 8 9 18 19) (.refl _)
    · exact ⟨hI11.next (by omega) (by simp only [AN.step, c1, c2, c3, c5, c9, c10, c12, c13, c14, ↓reduceIte, Bool.false_eq_true]) (by simp only [AN.step, c1, c2, c3, c5, c9, c10, c12, c13, c14, List.append_nil, ↓reduceIte, Bool.false_eq_true]) (by simp only [AN.step, c1, c2, c3, c5, c9, c10, c12, c13, c14, List.append_nil, ↓reduceIte, Bool.false_eq_true]), by assumption, by assumption, by assumption, by assumption, by assumption, by assumption⟩
    · omega
   have c14p := kz c14
   refine Aa ?_
   refine AB (.t7 2 4 8 9 18 19 20) ?_
   refine AA (AI (Gt (Af FL rfl) ?_))
   refine AR (AK AN.l0 rfl rfl rfl C3 rfl (.t (.t (.t (.t .h))))) ?_
   refine Gt (Af GK rfl) ?_
   refine AR (AK AN.l2 rfl rfl rfl EW rfl (.t (.t (.t (.t .h))))) ?_
   refine AP (AB (.t7 2 4 8 9 18 19 20) ?_)
   refine AT (AT (AT (AA (AI ?_))))
   refine Gt (Aw rfl rfl (IntWalk.i64_in _ (by omega))) ?_
   refine Gm rfl ?_
   refine AP (AB (.t7 2 4 8 9 18 19 20) ?_)
   refine CE _ _ _ _ _ _ _ _ ?_ ?_ (.t7 20 2 4 8 9 18 19) (.refl _)
   · exact ⟨hI11.next (by omega) (by simp only [AN.step, c1, c2, c3, c5, c9, c10, c12, c13, c14, ↓reduceIte, Bool.false_eq_true]) (by simp only [AN.step, c1, c2, c3, c5, c9, c10, c12, c13, c14, List.append_nil, ↓reduceIte, Bool.false_eq_true]) (by simp only [AN.step, c1, c2, c3, c5, c9, c10, c12, c13, c14, List.append_nil, ↓reduceIte, Bool.false_eq_true]), by assumption, by assumption, by assumption, by assumption, by assumption, by assumption⟩
   · omega
  have c12p := kz c12
  refine Aa ?_
  refine AB (.t7 2 4 8 9 18 19 20) ?_
  refine AT (AT (AA (AI ?_)))
  refine Gt (Aw rfl rfl (IntWalk.i64_in _ (by omega))) ?_
  refine Gm rfl ?_
  refine AP (AB (.t7 2 4 8 9 18 19 20) ?_)
  refine CE _ _ _ _ _ _ _ _ ?_ ?_ (.t7 20 2 4 8 9 18 19) (.refl _)
  · exact ⟨hI11.next (by omega) (by simp only [AN.step, c1, c2, c3, c5, c9, c10, c12, ↓reduceIte, Bool.false_eq_true]) (by simp only [AN.step, c1, c2, c3, c5, c9, c10, c12, List.append_nil, ↓reduceIte, Bool.false_eq_true]) (by simp only [AN.step, c1, c2, c3, c5, c9, c10, c12, List.append_nil, ↓reduceIte, Bool.false_eq_true]), by assumption, by assumption, by assumption, by assumption, by assumption, by assumption⟩
  · omega
 have c2p := kz c2
 refine Ba (AV (AV (Ah ?_)))
 refine AB (.t4 2 4 8 9) ?_
 refine AA (Ao ?_)
 refine BF (N := 7) [0, 0, 2, 7, 15, 31, 63] mix (by kernel_rfl) rfl ?_
 refine Pf 0 rfl (AZ rfl Dp .m4 (AS.id AN.fl.len AN.fl.one) rfl) ?_
 refine An 1 rfl (by kernel_rfl) ?_
 refine Ag rfl W0 (.c rfl .n) (.c (.t (.t (.t .h))) (.c (.t (.t .h)) .n)) (Co _ _ _ _ (by assumption) (by assumption) (by omega)) (fun v24 B hv => ?_)
 obtain ⟨rfl, rfl⟩ := hv
 refine Bn rfl ⟨?_, ?_⟩
 · exact (Po rfl (AZ rfl Dp .m3 (AS.id AN.fl.len AN.fl.one) rfl) rfl rfl Au)
 refine An 2 rfl (by kernel_rfl) ?_
 refine Ag rfl W0 (.c rfl .n) (.c (.t (.t .h)) (.c (.t .h) .n)) (Co _ _ _ _ (by assumption) (by assumption) (by omega)) (fun v25 B hv => ?_)
 obtain ⟨rfl, rfl⟩ := hv
 refine Bn rfl ⟨?_, ?_⟩
 · exact (Po rfl (AZ rfl Dp .m2 (AS.id AN.fl.len AN.fl.one) rfl) rfl rfl Au)
 refine An 3 rfl (by kernel_rfl) ?_
 refine AR (AK (AS.id AN.fl.len AN.fl.one) rfl rfl rfl Jp rfl (.t (.t (.t (.t .h))))) ?_
 refine BK rfl ⟨?_, ?_⟩
 · exact (Pk Au)
 refine Pf 4 rfl (Az rfl) (Pf 5 rfl (Az rfl) (Pf 6 rfl (Az rfl) ?_))
 refine A2 (by kernel_rfl) ?_
 refine AB (.t4 4 5 6 7) ?_
 refine AA (Ab ?_)
 refine AY rfl (.cell rfl .m4 (.inl ⟨(by rw [AN.fl.len]; exact Dp), rfl⟩) (.tmp rfl (.tmp rfl (.tmp rfl .n)))) ?_
 intro w1 hS; refine ⟨?_, hS.Am⟩; rw [show X.DN u = _ from AU c1, hI11.done (by omega)]; rfl
theorem GJ (b : UInt8) (w : World) : EF Tryz.prog 70 #[.int .u8 (b.toNat : Int)] w fun v w' => v = .bool (Bc.FK b) ∧ B3 w w' := by
 refine Aj [] [] Tryz.func70 rfl rfl rfl (St.start w []) ?_
 refine Gs (Ga rfl (Gn (.t1 0) (Gs (Gm rfl (Gt (CH rfl rfl) (Gm rfl (BZ 5 rfl rfl (fun q => AE rfl) ?_)))))))
 refine BZ 5 rfl rfl (fun q => A5 (BV rfl q) rfl) (Gt (BH rfl rfl (fun h => h)) (Ga rfl (Gn (.t1 2) (Ab ?_))))
 refine AY rfl (.tmp rfl .n) ?_
 intro w1 hS; refine ⟨?_, hS.Am⟩; rfl
end Go.Proofs.YtoidpggbbfncpaaGreatDoor
