/- What the functions that the law TopMemory reaches compute: walks, part 5. No condition. -/
import Derived.Test.YtoidpggbbfncpaaGreatDoorCards
import Derived.Test.YtoidpggbbfncpaaGreatDoorTie
import Derived.Deep.DeepHandedRow
import Derived.Test.YtoidpggbbfncpaaGreatDoorRows
import Derived.Test.YtoidpggbbfncpaaGreatDoorTopMemoryEc3
import Derived.Test.YtoidpggbbfncpaaGreatDoorTopMemoryRa1
import Derived.Test.YtoidpggbbfncpaaGreatDoorTopMemoryRb1
import Derived.Test.YtoidpggbbfncpaaGreatDoorTopMemoryRc1
import Derived.Test.YtoidpggbbfncpaaGreatDoorTopMemoryWalks
import Derived.Test.YtoidpggbbfncpaaGreatDoorTopMemoryWalks2
import Derived.Test.YtoidpggbbfncpaaGreatDoorTopMemoryWalks3
import Derived.Test.YtoidpggbbfncpaaGreatDoorTopMemoryWalks4
set_option linter.unusedSimpArgs false
set_option linter.unusedVariables false
set_option maxRecDepth 100000
set_option maxHeartbeats 1000000
namespace Go.Proofs.YtoidpggbbfncpaaGreatDoor
open Go Go.Ing Go.RowKit Go.ChangeShapes Go.WideShapes Go.ChangeAt
theorem Lv (X : AI) (d : Int) (hw : X.D4) : Ev Tryz.prog 78 #[.agg X.enc.toArray, .int .i64 d] [] (fun w => (GV 0 AI.C2 w ∧ 0 ∉ CR [])) (fun v B => ∃ h : Hd, v = .tuple #[.agg ((AG.Cg X d).1.enc).toArray, h.val, .int .i64 (AG.Cg X d).2.2] ∧ h.len = (AG.Cg X d).2.1.length ∧ B = [Ab.own h 56 16 ((AG.Cg X d).2.1.flatMap Ing.Event.enc)]) := by
 intro w hS0 hH
 obtain ⟨gl0, gm0⟩ := hH
 have hm := Co d
 refine Ai _ _ Tryz.func78 rfl rfl rfl (hS0) ?_
 refine Gs ?_
 refine Bw rfl rfl rfl (fun b1 => ?_)
 refine BB rfl LX rfl (fun b2 => ?_)
 refine Ga rfl (Ga rfl (Gn (.t3 1 2 4) (CB (Gt (AZ rfl BT .m1 (AS.id AI.fl.len AI.fl.one) rfl) ?_))))
 refine A8 rfl YM (.c rfl .n) (fun w hS => Gv _ w) ?_
 refine Gt (BQ rfl) (Gn (.t4 1 2 4 16) ?_)
 refine Gc (fun c1 => ?_) (fun c1 => ?_)
 ·
  refine Gs (Gt (AZ rfl BT .m1 (AS.id AI.fl.len AI.fl.one) rfl) ?_)
  refine AQ (AK (AS.id AI.fl.len AI.fl.one) rfl rfl rfl Dw rfl .h) ?_
  refine Ga rfl (Ga rfl (Gn (.t3 4 5 6) (Ac (AD ?_))))
  refine AY rfl (.cell rfl .m0 (.inl ⟨(by rw [AI.fl.len]; exact BT), rfl⟩) (.tmp rfl (.tmp rfl .n))) ?_
  intro w1 hS
  have hS := hS.Cj 56 16
  have hS := (hS.perm (Av.perm (.c .h .n))).Ay
  have hq : AG.Cg X d = _ := BC c1
  refine ⟨_, ⟨⟨none, 0, 0⟩, ?hv, ?hl, ?hB⟩, hS⟩
  case hv => rw [hq]; rfl
  case hl => rw [hq]; rfl
  case hB => rw [hq]; rfl
 have c1p := kz c1
 refine Aa ?_
 refine AB (.t3 1 2 4) ?_
 refine AA (Gs (Ga rfl (AM (AA (CB (Gm rfl (AM ?_)))))))
 refine AA (Ae ?_)
 refine Bf (.t5 7 18 1 2 4) ?_
 refine Et Ing.Event.enc 56 16 ?_
 refine BU (.t (.t .h)) ?_
 refine BU (.t .h) ?_
 refine Dh (fun (k : Int) (s : AI × List Ing.Event) (h : Hd) => 0 ≤ k ∧ k ≤ 6 ∧ s = AG.EF X d k.toNat ∧ s.1.Br = true ∧ s.1.D4 ∧ (s.2.length : Int) ≤ 13 * k ∧ h.len = s.2.length) (fun (k : Int) (s : AI × List Ing.Event) (h : Hd) => (6 - k).toNat) (fun (k : Int) (s : AI × List Ing.Event) (h : Hd) => [(7, h.val), (18, .int .i64 k)]) (fun (k : Int) (s : AI × List Ing.Event) (h : Hd) => [Ab.own h 56 16 (s.2.flatMap Ing.Event.enc), Ab.box b1 35 (AI.enc s.1)]) (0) ((X, [])) (_) ?_ rfl rfl (fun k s h hI1 => ?_)
 · exact ⟨by omega, by omega, rfl, by simpa using c1, hw, by simp, rfl⟩
 obtain ⟨hI11, hI12, hI13, hI14, hI15, hI16, hI17⟩ := hI1
 refine Gs (Gt (A5 rfl rfl) (AM (AA (Ao ?_))))
 refine Gc (fun c2 => ?_) (fun c2 => ?_)
 ·
  have c2p := kz c2
  have hbe := AG.HT hI14 hI11 (show k < 6 by omega)
  have hfo := hbe.B7
  refine Aa ?_
  refine AB (.t5 1 2 4 7 18) ?_
  refine AA (Ao (Ae (Gs (Gm rfl (Ga rfl (Gn (.t6 1 2 4 7 8 18) (Gs ?_)))))))
  refine Gm rfl (Gt (Ah Bk rfl) ?_)
  refine Gt (AR Cy rfl rfl (by first | omega | (dsimp only; omega) | (have := Co (d.tmod 3 + 3 + k); omega)) (by first | omega | (dsimp only; omega) | (have := Co (d.tmod 3 + 3 + k); omega))) ?_
  refine Gt (AZ rfl FF .m1 (AI.l2.comp (AS.arr (n := 6) Al.fl (by first | omega | (dsimp only; omega) | (have := Co (d.tmod 3 + 3 + k); omega)) (by first | omega | (dsimp only; omega) | (have := Co (d.tmod 3 + 3 + k); omega)))) rfl) ?_
  refine BB rfl K2 rfl (fun b3 => ?_)
  refine AQ (AK (AS.id Al.fl.len Al.fl.one) rfl rfl rfl Jv rfl .h) ?_
  refine Gn (.t7 1 2 4 7 8 9 18) (CB (Gt (Ah Hp rfl) (Gt (AF rfl Ct .m0 Al.l1 rfl rfl) (Gt (BQ rfl) (Gm rfl (BZ 28 rfl rfl (fun q => Ah Fq rfl) (BZ 28 rfl rfl (fun q => AF (cF rfl q) A1 .m0 Al.l5 rfl rfl) ?_)))))))
  refine BZ 28 rfl rfl (fun q => Aj (cF rfl q) rfl) ?_
  refine Gt (BR rfl rfl (fun h => by rw [h]; rfl)) ?_
  refine Gn (.t8 1 2 4 7 8 9 18 32) ?_
  refine Gc (fun c3 => ?_) (fun c3 => ?_)
  ·
   have c3p := kz c3
   refine BV (AT (Af ?_))
   refine AB (.t5 1 2 4 7 18) ?_
   refine AA (AJ ?_)
   refine Gt (Aw rfl rfl (IntWalk.i64_in _ (by first | omega | (dsimp only; omega) | (have := Co (d.tmod 3 + 3 + k); omega)))) ?_
   refine Gm rfl ?_
   refine AM (AB (.t5 1 2 4 7 18) ?_)
   refine Bu (k + 1) (s) _ ?_ ?_ (.t5 7 18 1 2 4) (.cons _ (.refl _))
   · have hrs : AG.Es d k s = _ := (BC c3)
     have hrg := AG.F4 (draw := d) hI14 hI15 hI11 (by omega)
     rw [hrs] at hrg
     exact ⟨by omega, by omega, by rw [AG.HO hI11, ← hI13, hrs], hrg.1, hrg.2.1, (by have := hrg.2.2; omega), (by first | assumption | (have hso : (AG.CK s.1 k ((s.1.AW.at k).B7 - 1) (AG.K4 d k)).out.length = 1 := rfl; (try dsimp only at *); simp only [List.length_append] at *; omega))⟩
   · omega
  have c3p := kz c3
  have hf0 : 0 ≤ ((s.1.AW.at k).B7 - 1) ∧ ((s.1.AW.at k).B7 - 1) < 6 := by omega
  have hbf := (AG.HT hI14 hf0.1 hf0.2).BM
  refine Aa ?_
  refine AB (.t7 1 2 4 7 8 9 18) ?_
  refine AA (Gs (Gt (Ah Fq rfl) (Gt (AF rfl A1 .m0 Al.l5 rfl rfl) ?_)))
  refine Gt (E8 rfl rfl (IntWalk.i64_in _ (by first | omega | (dsimp only; omega) | (have := Co (d.tmod 3 + 3 + k); omega)))) ?_
  refine Ga rfl (Gn (.t8 1 2 4 7 8 9 10 18) (Ao (Ao ?_)))
  refine BE (N := 16) [0, 0, 3, 7, 15, 31, 63, 127, 127, 511, 1023, 2047, 127, 4223, 16383, 32767] mix (by kernel_rfl) rfl ?_
  refine Pf 0 rfl (AE rfl) (Pf 1 rfl (Ah Bk rfl) ?_)
  refine Pf 2 rfl (AR Cy rfl rfl (by first | omega | (dsimp only; omega) | (have := Co (d.tmod 3 + 3 + k); omega)) (by first | omega | (dsimp only; omega) | (have := Co (d.tmod 3 + 3 + k); omega))) ?_
  refine Pf 3 rfl (Ah Hp rfl) ?_
  refine Pf 4 rfl (AF rfl Ct .m2 ((AI.l2.comp (AS.arr (n := 6) Al.fl (by first | omega | (dsimp only; omega) | (have := Co (d.tmod 3 + 3 + k); omega)) (by first | omega | (dsimp only; omega) | (have := Co (d.tmod 3 + 3 + k); omega)))).comp Al.l1) rfl rfl) ?_
  refine Pf 5 rfl (BQ rfl) (Pf 6 rfl (AE rfl) (Gp 7 42 rfl rfl rfl (fun q => AE rfl) (Gp 8 42 rfl rfl rfl (fun q => Ah Bk rfl) ?_)))
  refine BW 9 rfl rfl (by kernel_rfl) (GX (t := 42) rfl rfl (fun q => by have q1 := q; (try simp at q1); exact Hw (AR Cy (cF rfl q) (cF rfl q) (by first | omega | (dsimp only; omega) | (have := Co (d.tmod 3 + 3 + k); omega)) (by first | omega | (dsimp only; omega) | (have := Co (d.tmod 3 + 3 + k); omega))))) ?_
  refine Gp 10 42 rfl rfl rfl (fun q => Ah Cv (cF rfl q)) ?_
  refine BW 11 rfl rfl (by kernel_rfl) (GX (t := 42) rfl rfl (fun q => by have q1 := q; (try simp at q1); exact Hw (AF (cF rfl q) A1 .m2 ((AI.l2.comp (AS.arr (n := 6) Al.fl (by first | omega | (dsimp only; omega) | (have := Co (d.tmod 3 + 3 + k); omega)) (by first | omega | (dsimp only; omega) | (have := Co (d.tmod 3 + 3 + k); omega)))).comp Al.l3) rfl rfl))) ?_
  refine Gp 12 42 rfl rfl rfl (fun q => Ah Cv rfl) (Gp 13 42 rfl rfl rfl (fun q => AF (cF rfl q) A1 .m0 Al.l3 rfl rfl) (Gp 14 42 rfl rfl rfl (fun q => CT (cF rfl q) (cF rfl q)) ?_))
  refine Pf 15 rfl (BR rfl rfl (fun h => by rw [h]; rfl)) ?_
  refine A3 (by kernel_rfl) ?_
  refine AB (.t8 1 2 4 7 8 10 18 51) ?_
  refine AA ?_
  refine Gc (fun c4 => ?_) (fun c4 => ?_)
  ·
   have c4p := kz c4
   refine Gs (Gm rfl (Gt (Ah Bk rfl) ?_))
   refine Gt (AR Cy rfl rfl (by first | omega | (dsimp only; omega) | (have := Co (d.tmod 3 + 3 + k); omega)) (by first | omega | (dsimp only; omega) | (have := Co (d.tmod 3 + 3 + k); omega))) ?_
   refine Gt (Ah Fq rfl) ?_
   refine AQ (AK ((AI.l2.comp (AS.arr (n := 6) Al.fl (by first | omega | (dsimp only; omega) | (have := Co (d.tmod 3 + 3 + k); omega)) (by first | omega | (dsimp only; omega) | (have := Co (d.tmod 3 + 3 + k); omega)))).comp Al.l5) rfl rfl rfl C5 rfl (.t (.t .h))) ?_
   refine Gn (.t5 1 2 4 7 18) (BV (AT (Af (AA (AJ ?_)))))
   refine Gt (Aw rfl rfl (IntWalk.i64_in _ (by first | omega | (dsimp only; omega) | (have := Co (d.tmod 3 + 3 + k); omega)))) ?_
   refine Gm rfl ?_
   refine AM (AB (.t5 1 2 4 7 18) ?_)
   refine Bu (k + 1) ((s.1.C1 k { s.1.AW.at k with B7 := 0 }, s.2)) _ ?_ ?_ (.t5 7 18 1 2 4) (.cons _ (.refl _))
   · have hrs : AG.Es d k s = _ := ((AV c3).trans (BC c4))
     have hrg := AG.F4 (draw := d) hI14 hI15 hI11 (by omega)
     rw [hrs] at hrg
     exact ⟨by omega, by omega, by rw [AG.HO hI11, ← hI13, hrs], hrg.1, hrg.2.1, (by have := hrg.2.2; omega), (by first | assumption | (have hso : (AG.CK s.1 k ((s.1.AW.at k).B7 - 1) (AG.K4 d k)).out.length = 1 := rfl; (try dsimp only at *); simp only [List.length_append] at *; omega))⟩
   · omega
  have c4p := kz c4
  have hsf := AG.J8 (b := k) (n := AG.K4 d k) hI14 hI15 (B7 := ((s.1.AW.at k).B7 - 1)) hf0.1 hf0.2 c4p.1
  have hht := AG.Mi (draw := d) hI11
  refine Aa ?_
  refine AB (.t7 1 2 4 7 8 10 18) ?_
  refine AA (Gs (Gm rfl ?_))
  refine Gt (SH rfl rfl (by first | omega | (dsimp only; omega) | (have := Co (d.tmod 3 + 3 + k); omega))) ?_
  refine Gt (Aw rfl rfl (IntWalk.i64_in _ (by first | omega | (dsimp only; omega) | (have := Co (d.tmod 3 + 3 + k); omega)))) ?_
  refine Gm rfl ?_
  refine Gt (Aw rfl rfl (IntWalk.i64_in _ (by first | omega | (dsimp only; omega) | (have := Co (d.tmod 3 + 3 + k); omega)))) ?_
  refine Gt (SH rfl rfl (by first | omega | (dsimp only; omega) | (have := Co (d.tmod 3 + 3 + k); omega))) ?_
  refine Gt (Aw rfl rfl (IntWalk.i64_in _ (by first | omega | (dsimp only; omega) | (have := Co (d.tmod 3 + 3 + k); omega)))) ?_
  refine Ga rfl (Gn (.t8 1 2 4 7 8 10 11 18) (Gs (Gt (AZ rfl BT .m2 (AS.id AI.fl.len AI.fl.one) rfl) (Gm rfl (Gt (BD TH S5 rfl (.cons Ad.l0 rfl rfl rfl (.cons Ad.l1 rfl rfl rfl .nil))) ?_)))))
  refine Bw rfl rfl rfl (fun b4 => ?_)
  refine Ga rfl (Gn (.t8 1 2 4 7 10 11 12 18) (Gs (Gm rfl (Gm rfl (Gm rfl (Gt (BD NO Hj rfl (.cons Ing.Event.l0 rfl rfl rfl (.cons Ing.Event.l3 rfl rfl rfl (.cons Ing.Event.l5 rfl rfl rfl .nil)))) ?_))))))
  refine DC Ing.Event.enc 56 16 ?_
  refine Ag rfl Nr (.c rfl (.c rfl .n)) (.c (.t .h) (.c .h .n)) (CL _ ⟨s.1, k, []⟩ _ { AG.GR 14 with other := ((s.1.AW.at k).B7 - 1), n := AG.K4 d k } rfl (show 0 ≤ k ∧ k < 6 by omega) (show ((s.1.AW.at k).B7 - 1) < 6 by omega) (Nat.zero_le _)) (fun v3 B hv => ?_)
  obtain ⟨y4, rfl, y5, rfl⟩ := hv
  refine Gn (.t8 1 2 4 7 10 11 12 18) (Ao ?_)
  refine BE (N := 16) [0, 0, 0, 0, 12, 28, 60, 0, 252, 508, 1, 1025, 3073, 8191, 16383, 32767] mix (by kernel_rfl) rfl ?_
  refine Pf 0 rfl (AE rfl) (Pf 1 rfl (AE rfl) (Pf 2 rfl (AE rfl) (Pf 3 rfl (Ah Bk rfl) ?_)))
  refine Pf 4 rfl (AR Cy rfl rfl (by first | omega | (dsimp only; omega) | (have := Co (d.tmod 3 + 3 + k); omega)) (by first | omega | (dsimp only; omega) | (have := Co (d.tmod 3 + 3 + k); omega))) ?_
  refine Pf 5 rfl (Ah JV rfl) ?_
  refine Pf 6 rfl (AF rfl A1 .m4 ((AI.l2.comp (AS.arr (n := 6) Al.fl (by first | omega | (dsimp only; omega) | (have := Co (d.tmod 3 + 3 + k); omega)) (by first | omega | (dsimp only; omega) | (have := Co (d.tmod 3 + 3 + k); omega)))).comp Al.l4) rfl rfl) ?_
  refine Pf 7 rfl (AE rfl) ?_
  refine Pf 8 rfl (E8 rfl rfl (IntWalk.i64_in _ (by first | omega | (dsimp only; omega) | (have := Co (d.tmod 3 + 3 + k); omega)))) ?_
  refine Pf 9 rfl (LN rfl rfl) (Pf 10 rfl (BS rfl) (Pf 11 rfl (Ah A6 rfl) (Pf 12 rfl (Ah Bk rfl) ?_)))
  refine Pf 13 rfl (AR Cy rfl rfl (by first | omega | (dsimp only; omega) | (have := Co (d.tmod 3 + 3 + k); omega)) (by first | omega | (dsimp only; omega) | (have := Co (d.tmod 3 + 3 + k); omega))) ?_
  refine Pf 14 rfl (Ah JV rfl) ?_
  refine An 15 rfl (by kernel_rfl) ?_
  refine AQ (AK (((Ad.l0.comp AI.l2).comp (AS.arr (n := 6) Al.fl (by first | omega | (dsimp only; omega) | (have := Co (d.tmod 3 + 3 + k); omega)) (by first | omega | (dsimp only; omega) | (have := Co (d.tmod 3 + 3 + k); omega)))).comp Al.l4) rfl rfl rfl C5 rfl .h) ?_
  refine BK rfl ⟨?_, ?_⟩
  · exact (Pk (Pk (Pk (Pk (Pk (Pk (Pk (Pk (Pk (Pk (Pk (Pk (Pk (Pk (Pk As)))))))))))))))
  refine A3 (by kernel_rfl) ?_
  refine AB (.t7 1 2 4 7 10 12 18) ?_
  refine AA (Ao ?_)
  have hl1 : y4.len = 1 := y5
  refine AJ (Gm rfl (Gm rfl (Gt (BS rfl) (Gt (Ah CH rfl) (Gt (AF rfl DU .m0 Ad.l2 rfl rfl) ?_)))))
  refine CW Ing.Event.fl rfl Tryz.underlying53 MN Hj rfl Tp (by decide) (by decide) rfl rfl (fun w hS => Src.De Tryz.underlying53 ((Kn.own .m1) w hS)) (by (try dsimp only at *); omega) (fun _ => (.t (.t (.t .h)))) (fun h6 h6l h6z => ?_)
  refine Ga rfl (Gn (.t7 1 2 4 7 10 12 18) (Gs (Gm rfl (Gt (BS rfl) (Gt (Ah A6 rfl) (Gt (AZ rfl BT .m0 Ad.l0 rfl) ?_))))))
  refine AQ (AK (AS.id AI.fl.len AI.fl.one) rfl rfl rfl Dw rfl (.t (.t (.t (.t .h))))) ?_
  refine Gn (.t6 1 2 4 7 10 18) (Gs (Gm rfl (Gt (Ah Bk rfl) ?_)))
  refine Gt (AR Cy rfl rfl (by first | omega | (dsimp only; omega) | (have := Co (d.tmod 3 + 3 + k); omega)) (by first | omega | (dsimp only; omega) | (have := Co (d.tmod 3 + 3 + k); omega))) ?_
  refine Gt (Ah JV rfl) ?_
  refine Gt (AF rfl A1 .m4 ((AI.l2.comp (AS.arr (n := 6) Al.fl (by first | omega | (dsimp only; omega) | (have := Co (d.tmod 3 + 3 + k); omega)) (by first | omega | (dsimp only; omega) | (have := Co (d.tmod 3 + 3 + k); omega)))).comp Al.l4) rfl rfl) ?_
  refine Gt (Aj rfl rfl) (Gn (.t7 1 2 4 7 10 18 102) ?_)
  refine Gc (fun c5 => ?_) (fun c5 => ?_)
  ·
   have c5p := kz c5
   refine Gs (Ga rfl (Gn (.t6 1 2 4 7 10 18) (Gs (Gt (AZ rfl BT .m4 (AS.id AI.fl.len AI.fl.one) rfl) (Gm rfl ?_)))))
   refine BF rfl cI (.c rfl (.c rfl .n)) .n (Nk (AG.CK s.1 k ((s.1.AW.at k).B7 - 1) (AG.K4 d k)).w ((s.1.AW.at k).B7 - 1) hsf) (fun w hS => gl0.pull gm0 hS .n) (fun v7 B hv => ?_)
   obtain ⟨y8, rfl, y9, rfl⟩ := hv
   refine Gm rfl (Gt (AL rfl rfl) (Gt (AL rfl rfl) ?_))
   refine AQ (AK (AS.id AI.fl.len AI.fl.one) rfl rfl rfl Dw rfl (.t (.t (.t (.t (.t .h)))))) ?_
   refine Ga rfl (Gn (.t6 1 2 4 7 13 18) ?_)
   have hl2 : y8.len ≤ 12 := by rw [y9]; exact (AG.Oy hsf).2.2
   refine AJ (Gm rfl (Gm rfl ?_))
   refine CW Ing.Event.fl rfl Tryz.underlying53 MN Hj rfl Tp (by decide) (by decide) rfl rfl (fun w hS => Src.De Tryz.underlying53 ((Kn.own .m0) w hS)) (by (try dsimp only at *); omega) (fun _ => (.t (.t (.t (.t .h))))) (fun h11 h11l h11z => ?_)
   refine Ga rfl ?_
   refine AM (AB (.t5 1 2 4 7 18) ?_)
   refine AU (AA (AJ ?_))
   refine Gt (Aw rfl rfl (IntWalk.i64_in _ (by first | omega | (dsimp only; omega) | (have := Co (d.tmod 3 + 3 + k); omega)))) ?_
   refine Gm rfl ?_
   refine AM (AB (.t5 1 2 4 7 18) ?_)
   refine Bu (k + 1) (((AG.Ie (AG.CK s.1 k ((s.1.AW.at k).B7 - 1) (AG.K4 d k)).w ((s.1.AW.at k).B7 - 1)).w, (s.2 ++ (AG.CK s.1 k ((s.1.AW.at k).B7 - 1) (AG.K4 d k)).out) ++ (AG.Ie (AG.CK s.1 k ((s.1.AW.at k).B7 - 1) (AG.K4 d k)).w ((s.1.AW.at k).B7 - 1)).out)) _ ?_ ?_ (.t5 7 18 1 2 4) (.cons _ (.cons _ (.cons _ (.cons _ (.refl _)))))
   · have hrs : AG.Es d k s = _ := ((AV c3).trans ((AV c4).trans (BC c5)))
     have hrg := AG.F4 (draw := d) hI14 hI15 hI11 (by omega)
     rw [hrs] at hrg
     exact ⟨by omega, by omega, by rw [AG.HO hI11, ← hI13, hrs], hrg.1, hrg.2.1, (by have := hrg.2.2; omega), (by first | assumption | (have hso : (AG.CK s.1 k ((s.1.AW.at k).B7 - 1) (AG.K4 d k)).out.length = 1 := rfl; (try dsimp only at *); simp only [List.length_append] at *; omega))⟩
   · omega
  have c5p := kz c5
  refine Aa ?_
  refine AB (.t5 1 2 4 7 18) ?_
  refine AU (AA (AJ ?_))
  refine Gt (Aw rfl rfl (IntWalk.i64_in _ (by first | omega | (dsimp only; omega) | (have := Co (d.tmod 3 + 3 + k); omega)))) ?_
  refine Gm rfl ?_
  refine AM (AB (.t5 1 2 4 7 18) ?_)
  refine Bu (k + 1) (((AG.CK s.1 k ((s.1.AW.at k).B7 - 1) (AG.K4 d k)).w, s.2 ++ (AG.CK s.1 k ((s.1.AW.at k).B7 - 1) (AG.K4 d k)).out)) _ ?_ ?_ (.t5 7 18 1 2 4) (.cons _ (.cons _ (.cons _ (.refl _))))
  · have hrs : AG.Es d k s = _ := ((AV c3).trans ((AV c4).trans (AV c5)))
    have hrg := AG.F4 (draw := d) hI14 hI15 hI11 (by omega)
    rw [hrs] at hrg
    exact ⟨by omega, by omega, by rw [AG.HO hI11, ← hI13, hrs], hrg.1, hrg.2.1, (by have := hrg.2.2; omega), (by first | assumption | (have hso : (AG.CK s.1 k ((s.1.AW.at k).B7 - 1) (AG.K4 d k)).out.length = 1 := rfl; (try dsimp only at *); simp only [List.length_append] at *; omega))⟩
  · omega
 have c2p := kz c2
 obtain rfl : k = 6 := by omega
 refine BV (AT (AT (Af ?_)))
 refine AB (.t3 2 4 7) ?_
 refine AA (Gs (Gt (AZ rfl BT .m1 (AS.id AI.fl.len AI.fl.one) rfl) (Gm rfl ?_)))
 refine AQ (AK (AS.id AI.fl.len AI.fl.one) rfl rfl rfl Dw rfl (.t (.t .h))) ?_
 refine Ga rfl (Ga rfl (Gn (.t3 4 5 6) (Ac ?_)))
 refine AY rfl (.cell rfl .m2 (.inl ⟨(by rw [AI.fl.len]; exact BT), rfl⟩) (.tmp rfl (.tmp rfl .n))) ?_
 intro w1 hS
 have hS := (hS.perm (Av.perm (.c .h .n))).Ay
 have hq : AG.Cg X d = ((AG.EF X d 6).1, (AG.EF X d 6).2, 0) := AV c1
 have hs6 : s = AG.EF X d 6 := hI13
 rw [← hs6] at hq
 refine ⟨_, ⟨h, ?hv, ?hl, ?hB⟩, hS⟩
 case hv => rw [hq]; (try rfl)
 case hl => rw [hq]; exact hI17
 case hB => rw [hq]; (try rfl)
theorem ED (p : Ar) (s : Au) (hs : s.length ≤ 9000000000000000000) (w : World) : EG Tryz.prog 62 #[.agg p.enc.toArray, BO s] w fun v w' => v = .tuple #[.agg (Ar.enc ⟨p.wait, (Page.send p s).1.shown, (Page.send p s).1.B5, (Page.send p s).1.ring, (Page.send p s).1.cut⟩).toArray, .int .i64 (Page.send p s).2] ∧ B6 w w' := by
 refine Ai [] [] Tryz.func62 rfl rfl rfl (St.start w []) ?_
 refine Gs ?_
 refine Bw rfl rfl rfl (fun b1 => ?_)
 refine BB rfl Qf rfl (fun b2 => ?_)
 refine Ga rfl (Gn (.t3 1 2 4) (Ao (Ae (Gs (Gt (AZ rfl Cm .m1 (AS.id Ar.fl.len Ar.fl.one) rfl) ?_)))))
 refine A8 rfl Yj (.c rfl .n) (fun w hS => GM _ w) ?_
 refine Gt (BQ rfl) (Ga rfl (Gn (.t4 1 2 4 6) ?_))
 refine Gc (fun c1 => ?_) (fun c1 => ?_)
 ·
  refine Gs (Gt (AZ rfl Cm .m1 (AS.id Ar.fl.len Ar.fl.one) rfl) ?_)
  refine AQ (AK (AS.id Ar.fl.len Ar.fl.one) rfl rfl rfl Ez rfl .h) ?_
  refine Ga rfl (Gn (.t2 4 5) (Ac (AP (AD ?_))))
  refine AY rfl (.cell rfl .m0 (.inl ⟨(by rw [Ar.fl.len]; exact Cm), rfl⟩) (.tmp rfl .n)) ?_
  intro w1 hS; refine ⟨?_, hS.Am⟩; simp only [Page.send, Page.put, Page.of, c1, ↓reduceIte, Bool.false_eq_true]; rfl
 have c1p := kz c1
 have hg := (Page.Gz p).1 (by simpa using c1)
 refine Gs (Gt (Ah Ih rfl) (Gt (AF rfl Ct .m1 Ar.l4 rfl rfl) (Ga rfl (Gn (.t4 1 2 4 11) ?_))))
 refine Gc (fun c2 => ?_) (fun c2 => ?_)
 ·
  refine Gs (Gt (AZ rfl Cm .m1 (AS.id Ar.fl.len Ar.fl.one) rfl) ?_)
  refine AQ (AK (AS.id Ar.fl.len Ar.fl.one) rfl rfl rfl Ez rfl .h) ?_
  refine Ga rfl (Gn (.t2 4 5) (Ac (AP (AD ?_))))
  refine AY rfl (.cell rfl .m0 (.inl ⟨(by rw [Ar.fl.len]; exact Cm), rfl⟩) (.tmp rfl .n)) ?_
  intro w1 hS; refine ⟨?_, hS.Am⟩; rw [show Page.send p s = (Page.of p, 6) from by simp only [Page.send, c1, c2, ↓reduceIte, Bool.false_eq_true]]; rfl
 have c2p := kz c2
 refine Gs (Gm rfl (Gt (BI rfl Tryz.underlying9 rfl) (Gt (Ah Hs rfl) (Gt (AF rfl CC .m1 Ar.l3 rfl rfl) (Gt (BI rfl Tryz.underlying9 rfl) ?_)))))
 refine Gt (E8 rfl rfl (IntWalk.i64_in _ (by first | omega | (simp at *; omega)))) ?_
 refine Gt (Cf rfl rfl) (Ga rfl (Gn (.t4 1 2 4 15) ?_))
 refine Gc (fun c3 => ?_) (fun c3 => ?_)
 ·
  refine Gs (Gt (Ah Ih rfl) ?_)
  refine AQ (AK Ar.l4 rfl rfl rfl Jt rfl (.t .h)) ?_
  refine Gn (.t2 2 4) (Gs (Gt (AZ rfl Cm .m1 (AS.id Ar.fl.len Ar.fl.one) rfl) ?_))
  refine AQ (AK (AS.id Ar.fl.len Ar.fl.one) rfl rfl rfl Ez rfl .h) ?_
  refine Ga rfl (Gn (.t2 4 5) (Ac (AP (AD ?_))))
  refine AY rfl (.cell rfl .m0 (.inl ⟨(by rw [Ar.fl.len]; exact Cm), rfl⟩) (.tmp rfl .n)) ?_
  intro w1 hS; refine ⟨?_, hS.Am⟩; simp only [Page.send, Page.put, Page.of, c1, c2, c3, ↓reduceIte, Bool.false_eq_true]; rfl
 have c3p := kz c3
 refine Aa ?_
 refine AB (.t3 1 2 4) ?_
 refine AU (AA (Gs (Gt (Ah Hs rfl) (Gt (AF rfl CC .m1 Ar.l3 rfl rfl) (Gm rfl ?_)))))
 refine Gt (CQ rfl rfl (by first | omega | (simp at *; omega))) ?_
 refine Gt (Ah Hs rfl) ?_
 refine AQ (AK Ar.l3 rfl rfl rfl EM rfl (.t .h)) ?_
 refine Gn (.t2 2 4) (Gs (Gt (AZ rfl Cm .m1 (AS.id Ar.fl.len Ar.fl.one) rfl) ?_))
 refine AQ (AK (AS.id Ar.fl.len Ar.fl.one) rfl rfl rfl Ez rfl .h) ?_
 refine Ga rfl (Gn (.t2 4 5) (Ac ?_))
 refine AY rfl (.cell rfl .m0 (.inl ⟨(by rw [Ar.fl.len]; exact Cm), rfl⟩) (.tmp rfl .n)) ?_
 intro w1 hS; refine ⟨?_, hS.Am⟩; simp only [Page.send, Page.put, Page.of, c1, c2, c3, ↓reduceIte, Bool.false_eq_true]; rfl
theorem HG (b : Nat) (m : Int) (h0 : 0 < m) (h1 : m ≤ 281474976710656) : Ic Tryz.prog 186 #[.pointer (some ⟨b, 0, none⟩), .int .i64 m] [Ab.box b 107 (DJ.enc ⟨some ⟨b, 0, none⟩, ⟨none, 0, 0⟩⟩)] (fun v B => ∃ h', v = .tuple #[] ∧ h'.Z ∧ h'.len = 0 ∧ B = [Ab.box b 107 (DJ.enc ⟨some ⟨b, 0, none⟩, h'⟩), Ab.own h' 5 1 (([] : Au).flatMap DH)]) := by
 intro w hS0
 refine Ai _ _ Tryz.func186 rfl rfl rfl (hS0) ?_
 refine Ao ?_
 refine BE (N := 16) [0, 1, 3, 7, 15, 31, 0, 127, 255, 0, 512, 1536, 3584, 7680, 16383, 32767] mix (by kernel_rfl) rfl ?_
 refine Pf 0 rfl (AE rfl) (Pf 1 rfl (BS rfl) (Pf 2 rfl (Ah Eo rfl) (Pf 3 rfl (AF rfl Hh .m0 DJ.l1 rfl rfl) (Pf 4 rfl (LC rfl Tryz.underlying105 rfl) ?_))))
 refine Pf 5 rfl (VH rfl rfl (IntWalk.i64_in _ (by first | omega | (dsimp only; omega)))) ?_
 refine Pf 6 rfl (AE rfl) ?_
 refine Pf 7 rfl (Aw rfl rfl (IntWalk.i64_in _ (by first | omega | (dsimp only; omega)))) ?_
 refine Pf 9 rfl (AE rfl) (Pf 10 rfl (BS rfl) (Pf 11 rfl (Ah Eo rfl) (Pf 12 rfl (AF rfl Hh .m0 DJ.l1 rfl rfl) (Pf 13 rfl (Aq rfl Tryz.underlying105 rfl) ?_))))
 refine An 8 rfl (by kernel_rfl) ?_
 refine Q5 (ps := #[3]) rfl Tryz.func193 (by kernel_rfl) (by kernel_rfl) (by kernel_rfl) (by kernel_rfl) Tryz.underlying105 Us rfl (by first | omega | (dsimp only; omega)) (by first | omega | (dsimp only; omega)) (fun b1 b1c b1x b1l b1k => ?_)
 refine Bm rfl ⟨?_, ?_⟩
 · exact (Po rfl (Aq rfl Tryz.underlying105 rfl) rfl rfl (Po rfl (AF rfl Hh .m1 DJ.l1 rfl rfl) rfl rfl (Po rfl (Ah Eo rfl) rfl rfl (Po rfl (BS rfl) rfl rfl (Po rfl (AE rfl) rfl rfl (Pk (Pk (Pk (Pk (Pk (Pk (Pk (Pk As)))))))))))))
 refine An 14 rfl (by kernel_rfl) ?_
 refine Ja U4 rfl Tryz.underlying105 Us rfl rfl (by first | omega | (dsimp only; omega)) (by first | omega | (dsimp only; omega)) (fun _ => .h) ?_
 refine Bm rfl ⟨?_, ?_⟩
 · exact (Pk (Pk (Pk (Pk (Pk (Pk (Pk (Pk (Pk (Pk (Pk (Pk (Pk As)))))))))))))
 refine Pf 15 rfl (Az rfl) ?_
 refine A3 (by kernel_rfl) ?_
 refine AB (.t2 0 4) ?_
 refine AA (Gs (Gm rfl (Gm rfl (Gt (BS rfl) (Gt (Ah Eo rfl) (Gt (AF rfl Hh .m1 DJ.l1 rfl rfl) (Gt (Vc rfl Tryz.underlying105 Us rfl rfl) ?_)))))))
 refine Gn (.t2 0 4) (AJ (Gm rfl (Gm rfl (Gt (BS rfl) (Gt (Ah Eo rfl) ?_)))))
 refine AQ (AK DJ.l1 rfl rfl rfl TO rfl (.t .h)) ?_
 refine AM ?_
 refine Bh rfl .n ?_
 intro w1 hS
 have hS := (hS.perm (Av.perm (.c (.t .h) (.c .h .n)))).Ay
 exact ⟨_, ⟨_, rfl, ⟨by intro a h; cases h; rfl, fun _ => by dsimp only at b1k ⊢; omega⟩, rfl, rfl⟩, hS⟩
theorem HM (b : Nat) (m : Int) (h0 : 0 ≤ m) (h1 : m ≤ 281474976710656) : Ic Tryz.prog 175 #[.pointer (some ⟨b, 0, none⟩), .int .i64 m] [Ab.box b 107 (DJ.enc ⟨none, ⟨none, 0, 0⟩⟩)] (fun v B => ∃ h', v = .tuple #[] ∧ h'.Z ∧ h'.len = 0 ∧ B = [Ab.box b 107 (DJ.enc ⟨some ⟨b, 0, none⟩, h'⟩), Ab.own h' 5 1 (([] : Au).flatMap DH)]) := by
 intro w hS0
 refine Ai _ _ Tryz.func175 rfl rfl rfl (hS0) ?_
 refine Gs (Gm rfl ?_)
 refine Ag rfl Yz (.c rfl .n) (.c .h .n) (C0 _ _ _ (.inl rfl)) (fun v1 B hv => ?_)
 obtain ⟨rfl, rfl⟩ := hv
 refine Gn (.t2 0 1) (CB (Gm rfl (Gt (A5 rfl rfl) (Gn (.t3 0 1 7) ?_))))
 refine Da rfl (by simp; omega) ?_
 refine Aa ?_
 refine AB (.t2 0 1) ?_
 refine AA (Ao ?_)
 refine BE (N := 13) [0, 1, 3, 7, 15, 0, 32, 96, 224, 480, 1023, 0, 4095] mix (by kernel_rfl) rfl ?_
 refine Pf 0 rfl (AE rfl) (Pf 1 rfl (BS rfl) (Pf 2 rfl (Ah Eo rfl) (Pf 3 rfl (AF rfl Hh .m0 DJ.l1 rfl rfl) (Pf 4 rfl (LC rfl Tryz.underlying105 rfl) (Pf 5 rfl (AE rfl) (Pf 6 rfl (BS rfl) (Pf 7 rfl (Ah Eo rfl) ?_)))))))
 refine Pf 8 rfl (AF rfl Hh .m0 DJ.l1 rfl rfl) (Pf 9 rfl (Aq rfl Tryz.underlying105 rfl) ?_)
 refine Pf 10 rfl (E8 rfl rfl (IntWalk.i64_in _ (by first | omega | (dsimp only; omega)))) ?_
 refine Pf 11 rfl (AE rfl) (Pf 12 rfl (A5 rfl rfl) ?_)
 refine A3 (by kernel_rfl) ?_
 refine AB (.t3 0 1 21) ?_
 refine AA ?_
 refine Gc (fun c1 => ?_) (fun c1 => ?_)
 ·
  have c1p := kz c1
  refine AJ (Gm rfl (Gm rfl ?_))
  refine Ag rfl Zg (.c rfl (.c rfl .n)) (.c .h .n) (HG _ _ (by dsimp only at *; omega) h1) (fun v2 B hv => ?_)
  obtain ⟨y3, rfl, y4, y5, rfl⟩ := hv
  refine AM ?_
  refine Bh rfl .n ?_
  intro w1 hS
  have hS := (hS.perm (Av.perm (.c .h (.c .h .n)))).Ay
  exact ⟨_, ⟨_, rfl, by assumption, by assumption, rfl⟩, hS⟩
 refine Aa ?_
 refine Bh rfl .n ?_
 intro w1 hS
 have hS := hS.Cj 5 1
 have hS := (hS.perm (Av.perm (.c (.t .h) (.c .h .n)))).Ay
 exact ⟨_, ⟨_, rfl, Hd.TC, rfl, rfl⟩, hS⟩
theorem JG (s : Au) (hs : s.length ≤ 70368744000000) (w : World) : EG Tryz.prog 158 #[BO s, BO [255], BO [255, 255], .int .i64 (-1)] w fun v w' => v = BO (Page.escape s) ∧ B6 w w' := by
 have hcl := List.count_le_length (a := (255 : UInt8)) (l := s)
 refine Ai [] [] Tryz.func158 rfl rfl rfl (St.start w []) ?_
 refine Gs (Ga rfl (Gn (.t4 0 1 2 3) (CB (Gm rfl (Gm rfl (Gt (Bo rfl rfl) (Gm rfl ?_)))))))
 refine BZ 19 rfl rfl (fun q => AE rfl) (BZ 19 rfl rfl (fun q => Aj (cF rfl q) rfl) ?_)
 refine Gt (BR rfl rfl (fun h => by rw [h]; rfl)) ?_
 refine Gn (.t5 0 1 2 3 22) ?_
 refine Da rfl (by simp) ?_
 refine Aa ?_
 refine AB (.t4 0 1 2 3) ?_
 refine AA (CB (Gm rfl (Gm rfl ?_)))
 refine A8 rfl Xw (.c rfl (.c rfl .n)) (fun w hS => G1 _ 255 w) ?_
 refine Ga rfl (Gn (.t5 0 1 2 3 9) (Gs (Gm rfl (Gt (Aj rfl rfl) (Gn (.t6 0 1 2 3 9 28) ?_)))))
 refine Gc (fun c1 => ?_) (fun c1 => ?_)
 ·
  have c1p := kz c1
  refine Gs (Gm rfl (Ga rfl (Gn (.t1 8) (Ac (AD ?_)))))
  refine AY rfl (.tmp rfl .n) ?_
  intro w1 hS; refine ⟨?_, hS.Am⟩; have e : s.count 255 = 0 := by simp at c1; omega
  rw [Page.L6 _ e]; rfl
 have c1p := kz c1
 refine Gs (Gm rfl (Gt (A5 rfl rfl) (Gm rfl (BZ 32 rfl rfl (fun q => AE rfl) (BZ 32 rfl rfl (fun q => AE rfl) (BZ 32 rfl rfl (fun q => A5 (cF rfl q) (cF rfl q)) ?_))))))
 refine Gt (BR rfl rfl (fun h => by rw [h]; rfl)) ?_
 refine Gn (.t6 0 1 2 3 9 36) ?_
 refine FL rfl rfl ?_
 refine AJ (Gm rfl (Ga rfl (Gn (.t4 0 1 2 3) (Gs ?_))))
 refine BB rfl Su rfl (fun b1 => ?_)
 refine DC DH 5 1 ?_
 refine AM (AA (Gs (Gm rfl (Gt (BI rfl Tryz.underlying9 rfl) (Gm rfl (Gm rfl (Gt (BI rfl Tryz.underlying9 rfl) ?_)))))))
 refine Gm rfl (Gt (BI rfl Tryz.underlying9 rfl) ?_)
 refine Gt (E8 rfl rfl (IntWalk.i64_in _ (by (try simp only [List.length_cons, List.length_nil]); omega))) ?_
 refine Gt (VH rfl rfl (IntWalk.i64_in _ (by (try simp only [List.length_cons, List.length_nil]); omega))) ?_
 refine Gt (Aw rfl rfl (IntWalk.i64_in _ (by (try simp only [List.length_cons, List.length_nil]); omega))) ?_
 refine Ag rfl Zw (.c rfl (.c rfl .n)) (.c (.t .h) .n) (HM _ _ (by simp only [List.length_cons, List.length_nil]; omega) (by simp only [List.length_cons, List.length_nil]; omega)) (fun v1 B hv => ?_)
 obtain ⟨y2, rfl, y3, y4, rfl⟩ := hv
 refine Gn (.t5 0 1 2 3 10) (Gs (Ga rfl (AM (AA (CB (Gm rfl (Gt (BI rfl Tryz.underlying9 rfl) ?_)))))))
 refine Gt (Cf rfl rfl) (Gn (.t7 0 1 2 3 10 11 51) ?_)
 refine FL rfl (by simp) ?_
 refine Gs (Gm rfl (Gm rfl (Gn (.t7 0 1 2 10 11 52 53) (Ae ?_))))
 refine Bf (.t7 11 53 0 1 2 10 52) ?_
 refine BU (.t .h) ?_
 refine BU (.t .h) ?_
 refine RP (fun (k : Int) (start : Int) (x : Au) (p : Option Addr) (h : Hd) => Page.Pe s (s.count 255) k start x ∧ (p = none ∨ p = some ⟨b1, 0, none⟩) ∧ h.Z ∧ h.len = x.length) (fun (k : Int) (start : Int) (x : Au) (p : Option Addr) (h : Hd) => ((s.count 255 : Int) - k).toNat) (fun (k : Int) (start : Int) (x : Au) (p : Option Addr) (h : Hd) => [(11, .int .i64 start), (53, .int .i64 k)]) (fun (k : Int) (start : Int) (x : Au) (p : Option Addr) (h : Hd) => [Ab.box b1 107 (DJ.enc ⟨p, h⟩), Ab.own h 5 1 (x.flatMap DH)]) (0) (0) ([]) (_) (_) ?_ rfl rfl (fun k start x p h hI1 => ?_)
 · exact ⟨Page.Pe.start rfl, .inr rfl, by assumption, by assumption⟩
 obtain ⟨hI11, hp, hz, hl⟩ := hI1; have hk0 := hI11.k0; have hs0 := hI11.s0; have hs1 := hI11.s1; have hxl := hI11.xl
 refine Gs (Gt (A5 rfl rfl) (AM (AA (Ao ?_))))
 refine Gc (fun c2 => ?_) (fun c2 => ?_)
 ·
  have c2p := kz c2
  obtain ⟨i, hi, hlt, hR⟩ := hI11.idx (by omega)
  rw [← hi] at hR hlt
  refine Aa ?_
  refine AB (.t7 0 1 2 10 11 52 53) ?_
  refine AA (Ao (Ae (Gs (Gm rfl (Gm rfl (Gm rfl ?_))))))
  refine Gt (GG Tryz.underlying9 rfl rfl (by (try simp only [List.length_cons, List.length_nil]); omega) (by (try simp only [List.length_cons, List.length_nil]); omega)) ?_
  refine Gm rfl ?_
  refine A8 rfl Vl (.c rfl (.c rfl .n)) (fun w hS => E9 _ 255 w) ?_
  refine Gt (Aw rfl rfl (IntWalk.i64_in _ (by (try simp only [List.length_cons, List.length_nil]); omega))) ?_
  refine Ga rfl (Gn (.t8 0 1 2 10 11 12 52 53) (Gs (Gm rfl (Gm rfl (Gm rfl ?_)))))
  refine Gt (W7 Tryz.underlying9 rfl rfl rfl (by (try simp only [List.length_cons, List.length_nil]); omega) (by (try simp only [List.length_cons, List.length_nil]); omega) (by (try simp only [List.length_cons, List.length_nil]); omega)) ?_
  refine Ag rfl OX (.c rfl (.c rfl .n)) (.c .h (.c .h .n)) (BJ _ _ _ _ (by assumption) (by assumption) (by assumption) _ (by (try simp only [List.length_drop, List.length_take, List.length_append, List.length_cons, List.length_nil]); omega)) (fun v6 B hv => ?_)
  obtain ⟨y7, y8, rfl, y9, y10, y11, rfl⟩ := hv
  refine Gn (.t7 0 1 2 10 12 52 53) (Gs (Gm rfl ?_))
  refine Ag rfl OX (.c rfl (.c rfl .n)) (.c .h (.c .h .n)) (BJ _ _ _ _ (by assumption) (by assumption) (by assumption) _ (by (try simp only [List.length_drop, List.length_take, List.length_append, List.length_cons, List.length_nil]); omega)) (fun v12 B hv => ?_)
  obtain ⟨y13, y14, rfl, y15, y16, y17, rfl⟩ := hv
  refine Gn (.t7 0 1 2 10 12 52 53) (AJ (Gm rfl (Gm rfl (Gt (BI rfl Tryz.underlying9 rfl) ?_))))
  refine Gt (Aw rfl rfl (IntWalk.i64_in _ (by (try simp only [List.length_cons, List.length_nil]); omega))) ?_
  refine Ga rfl ?_
  refine AM (AB (.t7 0 1 2 10 11 52 53) ?_)
  refine AU (AA (AJ ?_))
  refine Gt (Aw rfl rfl (IntWalk.i64_in _ (by (try simp only [List.length_cons, List.length_nil]); omega))) ?_
  refine Gm rfl ?_
  refine AM (AB (.t7 0 1 2 10 11 52 53) ?_)
  refine Jf (k + 1) _ _ _ _ ?_ ?_ (.t7 11 53 0 1 2 10 52) (.refl _)
  · exact ⟨hR, by assumption, by assumption, by assumption⟩
  · omega
 have c2p := kz c2
 refine BV (AT (AT (Af ?_)))
 refine AB (.t3 0 10 11) ?_
 refine AA (Gs (Gm rfl (Gm rfl ?_)))
 refine Gt (GG Tryz.underlying9 rfl rfl (by (try simp only [List.length_cons, List.length_nil]); omega) (by (try simp only [List.length_cons, List.length_nil]); omega)) ?_
 refine Ag rfl OX (.c rfl (.c rfl .n)) (.c .h (.c .h .n)) (BJ _ _ _ _ (by assumption) (by assumption) (by assumption) _ (by (try simp only [List.length_drop, List.length_take, List.length_append, List.length_cons, List.length_nil]); omega)) (fun v18 B hv => ?_)
 obtain ⟨y19, y20, rfl, y21, y22, y23, rfl⟩ := hv
 refine Gn (.t1 10) (Gs ?_)
 refine Ag rfl Xm (.c rfl .n) (.c .h (.c .h .n)) (Cp _ _ _ _ (by assumption) (by assumption) (by (try simp only [List.length_append, List.length_drop]); omega)) (fun v24 B hv => ?_)
 obtain ⟨rfl, rfl⟩ := hv
 refine Ga rfl (Gn (.t1 8) (Ac ?_))
 refine AY rfl (.tmp rfl .n) ?_
 intro w1 hS; refine ⟨?_, hS.Am⟩; rw [← hI11.done (by omega)]; rfl
theorem IG (s : Au) (hs : s.length ≤ 70368744000000) (w : World) : EG Tryz.prog 126 #[BO s, BO [255], BO [255, 255]] w fun v w' => v = BO (Page.escape s) ∧ B6 w w' := by
 refine Ai [] [] Tryz.func126 rfl rfl rfl (St.start w []) ?_
 refine Gs (Ga rfl (Gn (.t3 0 1 2) (Gs (Gm rfl (Gm rfl (Gm rfl ?_))))))
 refine A8 rfl Zf (.c rfl (.c rfl (.c rfl (.c rfl .n)))) (fun w hS => JG _ (by first | assumption | omega) w) ?_
 refine Ga rfl (Gn (.t1 6) (Ac ?_))
 refine AY rfl (.tmp rfl .n) ?_
 intro w1 hS; refine ⟨?_, hS.Am⟩; rfl
theorem KM (s : Au) (hs : s.length ≤ 70368744000000) (w : World) : EG Tryz.prog 98 #[BO s] w fun v w' => v = BO (Page.escape s) ∧ B6 w w' := by
 refine Ai [] [] Tryz.func98 rfl rfl rfl (St.start w []) ?_
 refine Gs (Ga rfl (Gn (.t1 0) (Gs (Gm rfl ?_))))
 refine A8 rfl Zq (.c rfl (.c rfl (.c rfl .n))) (fun w hS => IG _ (by first | assumption | omega) w) ?_
 refine Ga rfl (Gn (.t1 2) (Ac ?_))
 refine AY rfl (.tmp rfl .n) ?_
 intro w1 hS; refine ⟨?_, hS.Am⟩; rfl
theorem MS {t0 : Nat} (p : Ar) (qs : List Au) (top : Int) (hs : ∀ s ∈ qs, s.length ≤ 70368744000000) : Ev Tryz.prog 83 #[.agg p.enc.toArray, .int .i64 top] [] (fun w => Rd w p.wait t0 1 (qs.flatMap A4) ∧ p.wait.len ≤ p.wait.cap) (fun v B => ((!Page.Br p || decide (top < 0) || decide (200 < top)) = true ∧ v = .tuple #[.agg p.enc.toArray, .int .i64 2] ∧ B = []) ∨ ((!Page.Br p || decide (top < 0) || decide (200 < top)) = false ∧ ∃ (T : Nat) (h' g : Hd) (zs : List Au), v = .tuple #[.agg (Ar.enc ⟨h', (Page.B3 top qs (Page.of p)).1.shown, (Page.B3 top qs (Page.of p)).1.B5, (Page.B3 top qs (Page.of p)).1.ring, (Page.B3 top qs (Page.of p)).1.cut⟩).toArray, .int .i64 0] ∧ h'.len = (Page.B3 top qs (Page.of p)).2.length ∧ ZJ T h' (Page.B3 top qs (Page.of p)).2 t0 p.wait qs 9 g zs ∧ B = [Ab.own g 9 1 (zs.flatMap A4)])) := by
 intro w hS0 hH
 obtain ⟨r0, k0⟩ := hH
 have hl0 := r0.KV DB (by decide)
 refine Ai _ _ Tryz.func83 rfl rfl rfl (hS0) ?_
 refine Gs ?_
 refine Bw rfl rfl rfl (fun b1 => ?_)
 refine BB rfl Qf rfl (fun b2 => ?_)
 refine Ga rfl (Gn (.t3 1 2 4) (CB (Gt (AZ rfl Cm .m1 (AS.id Ar.fl.len Ar.fl.one) rfl) ?_)))
 refine A8 rfl Yj (.c rfl .n) (fun w hS => GM _ w) ?_
 refine Gt (BQ rfl) (Gm rfl (BZ 10 rfl rfl (fun q => AE rfl) (BZ 10 rfl rfl (fun q => A5 (cF rfl q) rfl) ?_)))
 refine Gt (BR rfl rfl (fun h => by rw [h]; rfl)) ?_
 refine Gm rfl (BZ 14 rfl rfl (fun q => AE rfl) (BZ 14 rfl rfl (fun q => Cf (cF rfl q) rfl) ?_))
 refine Gt (BR rfl rfl (fun h => by rw [h]; rfl)) ?_
 refine Gn (.t4 1 2 4 17) ?_
 refine Gc (fun c1 => ?_) (fun c1 => ?_)
 ·
  refine Gs (Gt (AZ rfl Cm .m1 (AS.id Ar.fl.len Ar.fl.one) rfl) ?_)
  refine AQ (AK (AS.id Ar.fl.len Ar.fl.one) rfl rfl rfl Ez rfl .h) ?_
  refine Ga rfl (Gn (.t2 4 5) (Ac (AD ?_)))
  refine AY rfl (.cell rfl .m0 (.inl ⟨(by rw [Ar.fl.len]; exact Cm), rfl⟩) (.tmp rfl .n)) ?_
  intro w1 hS
  have hS := (hS.perm (Av.perm .n)).Ay
  exact ⟨_, .inl ⟨c1, rfl, rfl⟩, hS⟩
 have c1p := kz c1
 have hgd : Page.Br p = true ∧ 0 ≤ top ∧ top ≤ 200 := by simp at c1; exact ⟨c1.1.1, by omega, by omega⟩
 refine Aa ?_
 refine AB (.t3 1 2 4) ?_
 refine AA (Ao (Ae ?_))
 refine Bf (.t3 1 2 4) ?_
 refine Et A4 9 1 ?_
 refine BU (.t (.t .h)) ?_
 refine BU (.t .h) ?_
 refine V0 (fun (rest : List Au) (sh : Int) (ak : Bool) (ring : Au) (ct : Bool) (T : Nat) (hx : Hd) (g : Hd) (zs : List Au) => Page.FI top qs (Page.of p) rest hx ⟨sh, ak, ring, ct⟩ ∧ ZJ T hx rest t0 p.wait qs 9 g zs) (fun (rest : List Au) (sh : Int) (ak : Bool) (ring : Au) (ct : Bool) (T : Nat) (hx : Hd) (g : Hd) (zs : List Au) => rest.length) (fun (rest : List Au) (sh : Int) (ak : Bool) (ring : Au) (ct : Bool) (T : Nat) (hx : Hd) (g : Hd) (zs : List Au) => []) (fun (rest : List Au) (sh : Int) (ak : Bool) (ring : Au) (ct : Bool) (T : Nat) (hx : Hd) (g : Hd) (zs : List Au) => [Ab.own g 9 1 (zs.flatMap A4), Ab.box b1 65 (Ar.enc ⟨hx, sh, ak, ring, ct⟩)]) (qs) (p.shown) (p.B5) (p.ring) (p.cut) (t0) (p.wait) (_) (_) ?_ rfl rfl (fun rest sh ak ring ct T hx g zs hI1 => ?_)
 · exact ⟨Page.FI.start hgd.1 hl0 hs, .inl ⟨rfl, rfl, rfl, rfl, rfl⟩⟩
 obtain ⟨hI11, hor⟩ := hI1; have hl := hI11.hl; have hn := hI11.n; have hr := hI11.ring; have hs0 := hI11.s0; have hs1 := hI11.s1; dsimp only at hr hs0 hs1
 refine CB (Gt (Ah FO rfl) (Gt (AF rfl Du .m1 Ar.l0 rfl rfl) (Gt (Aq rfl Tryz.underlying52 rfl) (Gt (Cf rfl rfl) (Gm rfl (Ba 23 rfl rfl (fun q => Ah Lb rfl) (Ba 23 rfl rfl (fun q => AF (BX rfl q) Ct .m1 Ar.l2 rfl rfl) ?_)))))))
 refine Ba 23 rfl rfl (fun q => BQ (BX rfl q)) (Gt (BH rfl rfl (fun h => h)) (Gm rfl (Ba 28 rfl rfl (fun q => Ah Ih rfl) (Ba 28 rfl rfl (fun q => AF (BX rfl q) Ct .m1 Ar.l4 rfl rfl) (Ba 28 rfl rfl (fun q => BQ (BX rfl q)) (Gt (BH rfl rfl (fun h => h)) (Gn (.t4 1 2 4 32) ?_)))))))
 refine Gc (fun c2 => ?_) (fun c2 => ?_)
 ·
  have c2p := kz c2
  have hc3 : 0 < rest.length ∧ ak = false ∧ ct = false := by simp at c2; exact ⟨by omega, c2.1.2, c2.2⟩
  obtain ⟨hc0, hak, hct⟩ := hc3
  obtain ⟨q, r, rfl⟩ := Bc.TF (qs := rest) (by omega)
  refine Aa ?_
  refine AB (.t3 1 2 4) ?_
  refine AA (Ae (CB (Gm rfl (Gt (Cf rfl rfl) (Gm rfl (Ba 35 rfl rfl (fun q => Ah JJ rfl) (Ba 35 rfl rfl (fun q => AF (BX rfl q) A1 .m1 Ar.l1 rfl rfl) ?_)))))))
  refine Ba 35 rfl rfl (fun q => AE rfl) (Ba 35 rfl rfl (fun q => CI (BX rfl q) (BX rfl q)) (Gt (BH rfl rfl (fun h => h)) (Gn (.t4 1 2 4 40) ?_)))
  refine Gc (fun c3 => ?_) (fun c3 => ?_)
  ·
   have c3p := kz c3
   refine Gs (Gt (Ah Lb rfl) ?_)
   refine AQ (AK Ar.l2 rfl rfl rfl Jt rfl (.t .h)) ?_
   refine Gn (.t2 2 4) (Gs (Gt (AZ rfl Cm .m1 (AS.id Ar.fl.len Ar.fl.one) rfl) ?_))
   refine A8 rfl WG (.c rfl (.c rfl .n)) (fun w hS => ED _ _ (by first | omega | (have h1 := Page.G3 ((q :: r).getD (0 : Int).toNat []); have h2 := hI11.len ((q :: r).getD (0 : Int).toNat []) (by simp); simp only [List.length_append, List.length_cons, List.length_nil] at *; omega)) w) ?_
   refine Gm rfl (Gt (AL rfl rfl) (Gt (AL rfl rfl) ?_))
   refine AQ (AK (AS.id Ar.fl.len Ar.fl.one) rfl rfl rfl Ez rfl (.t .h)) ?_
   refine Gn (.t2 2 4) (BV (AT ?_))
   refine JI rfl ?_
   refine AT (Af (AA (Gs (Gt (AZ rfl Cm .m1 (AS.id Ar.fl.len Ar.fl.one) rfl) ?_))))
   refine AQ (AK (AS.id Ar.fl.len Ar.fl.one) rfl rfl rfl Ez rfl (.t (.t .h))) ?_
   refine Ga rfl (Gn (.t2 4 5) (Ac ?_))
   refine AY rfl (.cell rfl .m2 (.inl ⟨(by rw [Ar.fl.len]; exact Cm), rfl⟩) (.tmp rfl .n)) ?_
   intro w1 hS
   have hS := (hS.perm (Av.perm (.c .h .n))).Ay
   have e := hI11.asks hak hct c3
   exact ⟨_, .inr ⟨c1, T, hx, g, zs, (by first | (rw [e]; done) | (rw [e]; rfl)), (by rw [e]; exact hI11.hl), (by rw [e]; exact hor), rfl⟩, hS⟩
  have c3p := kz c3
  refine Aa ?_
  refine AB (.t3 1 2 4) ?_
  refine AA (Gs (Gt (Ah FO rfl) (Gt (AF rfl Du .m1 Ar.l0 rfl rfl) ?_)))
  refine Gt (Bg Gu (by decide) (Y4 hor (Kn.Gx r0) (Kn.own .m0)) rfl rfl (by omega) (by omega)) ?_
  refine Gt (C9 rfl CC (Y4 hor (Kn.Gx r0) (Kn.own .m0)) (by simp)) ?_
  refine Ga rfl (Gn (.t4 1 2 4 6) (Gs (Gt (Ah FO rfl) (Gt (AF rfl Du .m1 Ar.l0 rfl rfl) ?_))))
  refine Gt (Q2 Tryz.underlying52 EM rfl rfl (by decide) (by first | omega | (have h1 := Page.G3 ((q :: r).getD (0 : Int).toNat []); have h2 := hI11.len ((q :: r).getD (0 : Int).toNat []) (by simp); simp only [List.length_append, List.length_cons, List.length_nil] at *; omega))) ?_
  refine BF rfl UE (.c rfl .n) .n (Bv _ r (by simp only [List.length_cons] at *; omega)) (fun w hS => by have h := (Kn.cut (l := 1) (r := hx.len) DB (Y4 hor (Kn.Gx r0) (Kn.own .m0)) (by omega) (Nat.le_refl _) (aB hor (Tk.of k0) (Tk.own .m0))) w hS; rw [show (((q :: r).take hx.len).drop 1) = r from by rw [List.take_of_length_le (by simp only [List.length_cons] at *; omega)]; rfl] at h; exact h) (fun v2 B hv => ?_)
  obtain ⟨y3, rfl, y4, rfl⟩ := hv
  refine Gt (Ah FO rfl) ?_
  refine AQ (AK Ar.l0 rfl rfl rfl Lj rfl (.t (.t .h))) ?_
  refine Gn (.t4 1 2 4 6) (Gs (Gt (Ah JJ rfl) (Gt (AF rfl A1 .m2 Ar.l1 rfl rfl) ?_)))
  refine Gt (Aw rfl rfl (IntWalk.i64_in _ (by first | omega | (have h1 := Page.G3 ((q :: r).getD (0 : Int).toNat []); have h2 := hI11.len ((q :: r).getD (0 : Int).toNat []) (by simp); simp only [List.length_append, List.length_cons, List.length_nil] at *; omega)))) ?_
  refine Gt (LF rfl rfl) (Gt (Ah JJ rfl) ?_)
  refine AQ (AK Ar.l1 rfl rfl rfl C5 rfl (.t (.t .h))) ?_
  refine Gn (.t4 1 2 4 6) ?_
  refine BE (N := 9) [0, 0, 2, 6, 15, 31, 63, 63, 127] mix (by kernel_rfl) rfl ?_
  refine Pf 0 rfl (AZ rfl Cm .m2 (AS.id Ar.fl.len Ar.fl.one) rfl) (Pf 1 rfl (AE rfl) ?_)
  refine BW 2 rfl rfl (by kernel_rfl) (LH (Ka (Dv bd (.c rfl .n) (fun w hS => KM _ (hI11.len _ (by simp)) w)))) ?_
  refine Pf 3 rfl (CQ rfl rfl (by first | omega | (have h1 := Page.G3 ((q :: r).getD (0 : Int).toNat []); have h2 := hI11.len ((q :: r).getD (0 : Int).toNat []) (by simp); simp only [List.length_append, List.length_cons, List.length_nil] at *; omega))) ?_
  refine BW 4 rfl rfl (by kernel_rfl) (LH (Ka (Dv WG (.c rfl (.c rfl .n)) (fun w hS => ED _ _ (by first | omega | (have h1 := Page.G3 ((q :: r).getD (0 : Int).toNat []); have h2 := hI11.len ((q :: r).getD (0 : Int).toNat []) (by simp); simp only [List.length_append, List.length_cons, List.length_nil] at *; omega)) w)))) ?_
  refine Pf 5 rfl (AE rfl) (Pf 6 rfl (AL rfl rfl) (Pf 7 rfl (AL rfl rfl) ?_))
  refine An 8 rfl (by kernel_rfl) ?_
  refine AQ (AK (AS.id Ar.fl.len Ar.fl.one) rfl rfl rfl Ez rfl (.t (.t .h))) ?_
  refine BK rfl ⟨?_, ?_⟩
  · exact (Po rfl (AL rfl rfl) rfl rfl (Pk (Pk (Pk (Pk (Pk (Pk (Pk As))))))))
  refine A3 (by kernel_rfl) ?_
  refine AB (.t3 1 2 4) ?_
  refine AU ?_
  refine CG (.c .h (.c (.t .h) (.c (.t .h) .n))) ?_
  refine CV ?_
  refine UL (r) _ _ _ _ (9) _ _ (r) ?_ ?_ (.t3 1 2 4) (.refl _)
  · exact ⟨hI11.next hak hct c3 (by assumption) rfl, .inr ⟨rfl, rfl, rfl⟩⟩
  · simp only [List.length_cons]; omega
 refine BV (AT (AT (Af ?_)))
 refine AB (.t2 2 4) ?_
 refine AA (Gs (Gt (AZ rfl Cm .m1 (AS.id Ar.fl.len Ar.fl.one) rfl) ?_))
 refine AQ (AK (AS.id Ar.fl.len Ar.fl.one) rfl rfl rfl Ez rfl (.t (.t .h))) ?_
 refine Ga rfl (Gn (.t2 4 5) (Ac ?_))
 refine AY rfl (.cell rfl .m2 (.inl ⟨(by rw [Ar.fl.len]; exact Cm), rfl⟩) (.tmp rfl .n)) ?_
 intro w1 hS
 have hS := (hS.perm (Av.perm (.c .h .n))).Ay
 have e := hI11.aU c2
 exact ⟨_, .inr ⟨c1, T, hx, g, zs, (by first | (rw [e]; done) | (rw [e]; rfl)), (by rw [e]; exact hI11.hl), (by rw [e]; exact hor), rfl⟩, hS⟩
theorem Dj (b : Nat) (V : AH) (ls : Vector BG 4) (ev : List Ing.Event) (n m : Nat) (hF : AN.Fit (A2 V ls ev) n m) (hn : n ≤ 600000) (hm : m ≤ 600000) : Ev Tryz.prog 65 #[.pointer (some ⟨b, 0, none⟩)] [Ab.box b 101 (AH.enc V), Ab.C3 (Bt 9 (AH.Ap V) ls), Ab.own (AH.last V) 56 16 ((ev).flatMap Ing.Event.enc)] (fun w => (GV 2 E7 w ∧ 2 ∉ CR [Ab.box b 101 (AH.enc V), Ab.C3 (Bt 9 (AH.Ap V) ls), Ab.own (AH.last V) 56 16 ((ev).flatMap Ing.Event.enc)]) ∧ (GV 0 AI.C2 w ∧ 0 ∉ CR [Ab.box b 101 (AH.enc V), Ab.C3 (Bt 9 (AH.Ap V) ls), Ab.own (AH.last V) 56 16 ((ev).flatMap Ing.Event.enc)]) ∧ (F2 7 w ∧ 7 ∉ CR [Ab.box b 101 (AH.enc V), Ab.C3 (Bt 9 (AH.Ap V) ls), Ab.own (AH.last V) 56 16 ((ev).flatMap Ing.Event.enc)]) ∧ (F2 8 w ∧ 8 ∉ CR [Ab.box b 101 (AH.enc V), Ab.C3 (Bt 9 (AH.Ap V) ls), Ab.own (AH.last V) 56 16 ((ev).flatMap Ing.Event.enc)])) (fun v B => ∃ V' ls' ev', v = .tuple #[] ∧ A2 V' ls' ev' = AN.B3 (A2 V ls ev) ∧ B = [Ab.box b 101 (AH.enc V'), Ab.C3 (Bt 9 (AH.Ap V') ls'), Ab.own (AH.last V') 56 16 ((ev').flatMap Ing.Event.enc)]) := by
 intro w hS0 hH
 obtain ⟨⟨gl0, gm0⟩, ⟨gl1, gm1⟩, ⟨gl2, gm2⟩, ⟨gl3, gm3⟩⟩ := hH
 refine Ai _ _ Tryz.func65 rfl rfl rfl (hS0) ?_
 refine Gs (Gm rfl (AM (AA (Ae ?_))))
 refine Bf (.t2 5 0) ?_
 refine BU (.t (.t .h)) ?_
 refine BU (.t (.t .h)) ?_
 refine BU (.t (.t .h)) ?_
 refine IF (fun (k : Int) (V1 : AH) (ls1 : Vector BG 4) (ev1 : List Ing.Event) => 0 ≤ k ∧ k ≤ 5 ∧ (A2 V ls ev).B3 = (A2 V1 ls1 ev1).Ip (5 - k).toNat ∧ AN.Fit (A2 V1 ls1 ev1) (n + 44 * k.toNat) (m + 44 * k.toNat)) (fun (k : Int) (V1 : AH) (ls1 : Vector BG 4) (ev1 : List Ing.Event) => (5 - k).toNat) (fun (k : Int) (V1 : AH) (ls1 : Vector BG 4) (ev1 : List Ing.Event) => [(5, .int .i64 k)]) (fun (k : Int) (V1 : AH) (ls1 : Vector BG 4) (ev1 : List Ing.Event) => [Ab.box b 101 (AH.enc V1), Ab.C3 (Bt 9 (AH.Ap V1) ls1), Ab.own (AH.last V1) 56 16 (ev1.flatMap Ing.Event.enc)]) (0) (V) (ls) (ev) ?_ rfl rfl (fun k V1 ls1 ev1 hI1 => ?_)
 · exact ⟨by omega, by omega, rfl, hF⟩
 obtain ⟨hI11, hI12, hI13, hI14⟩ := hI1
 refine Gs (Gt (A5 rfl rfl) (AM (AA (Ao ?_))))
 refine Gc (fun c1 => ?_) (fun c1 => ?_)
 ·
  have c1p := kz c1
  refine Aa ?_
  refine AB (.t2 0 5) ?_
  refine AA (Ao (Ae (Gs (Ga rfl (AM (AA (CB ?_)))))))
  refine Gm rfl (AM (AA (Ae ?_)))
  refine Bf (.t4 2 7 0 5) ?_
  refine BU (.t (.t .h)) ?_
  refine BU (.t (.t .h)) ?_
  refine BU (.t (.t .h)) ?_
  refine RP (fun (i : Int) (V2 : AH) (ls2 : Vector BG 4) (ev2 : List Ing.Event) (c : Bool) => 0 ≤ i ∧ i ≤ 4 ∧ ((A2 V2 ls2 ev2), c) = (A2 V1 ls1 ev1).DY i.toNat) (fun (i : Int) (V2 : AH) (ls2 : Vector BG 4) (ev2 : List Ing.Event) (c : Bool) => (4 - i).toNat) (fun (i : Int) (V2 : AH) (ls2 : Vector BG 4) (ev2 : List Ing.Event) (c : Bool) => [(2, .bool c), (7, .int .i64 i)]) (fun (i : Int) (V2 : AH) (ls2 : Vector BG 4) (ev2 : List Ing.Event) (c : Bool) => [Ab.box b 101 (AH.enc V2), Ab.C3 (Bt 9 (AH.Ap V2) ls2), Ab.own (AH.last V2) 56 16 (ev2.flatMap Ing.Event.enc)]) (0) (V1) (ls1) (ev1) (false) ?_ rfl rfl (fun i V2 ls2 ev2 c hI2 => ?_)
  · exact ⟨by omega, by omega, rfl⟩
  obtain ⟨hI21, hI22, hI23⟩ := hI2
  refine Gs (Gt (A5 rfl rfl) (AM (AA (Ao ?_))))
  refine Gc (fun c2 => ?_) (fun c2 => ?_)
  ·
   have c2p := kz c2
   have hi : 0 ≤ i ∧ i < 4 := ⟨by omega, by omega⟩
   have hF2 := Og hI14 hi.1 (by omega) hI23
   refine Aa ?_
   refine AB (.t4 0 2 5 7) ?_
   refine AA (Ao (Ae (Gs (Gm rfl (Ga rfl (Gn (.t5 0 2 3 5 7) (Gs ?_)))))))
   refine Gm rfl (Gm rfl (Gt (BS rfl) (Gt (Ah FV rfl) ?_)))
   refine Gt (AR N4 rfl rfl (by first | omega | exact hi.1 | exact hi.2) (by first | omega | exact hi.1 | exact hi.2)) ?_
   refine Ga rfl (Gn (.t5 0 2 4 5 7) (CB (Gm rfl (Gt (BS rfl) (Gt (Ah Ik rfl) ?_)))))
   refine Gt (AF rfl A1 .m0 ((AH.l1.comp (AS.ar (n := 4) A0.fl (by first | omega | exact hi))).comp A0.l0) rfl rfl) ?_
   refine Gt (Aj rfl rfl) (Gn (.t6 0 2 4 5 7 19) ?_)
   refine Gc (fun c3 => ?_) (fun c3 => ?_)
   ·
    have c3p := kz c3
    refine BV (AT (Af ?_))
    refine AB (.t4 0 2 5 7) ?_
    refine AA (AJ ?_)
    refine Gt (Aw rfl rfl (IntWalk.i64_in _ (by first | omega | exact hi.1 | exact hi.2))) ?_
    refine Gm rfl ?_
    refine AM (AB (.t4 0 2 5 7) ?_)
    refine Jf (i + 1) _ _ _ _ ?_ ?_ (.t4 2 7 0 5) (.refl _)
    · exact ⟨by omega, by omega, ((KN hi.1 hi.2 hI23).trans (BC c3)).symm⟩
    · omega
   have c3p := kz c3
   refine Aa ?_
   refine AB (.t5 0 2 4 5 7) ?_
   refine AA ?_
   refine BU (.t (.t .h)) ?_
   refine BU (.t (.t .h)) ?_
   refine BU (.t (.t .h)) ?_
   refine PO (Lm := [_, _, _]) (fun (V3 : AH) (ls3 : Vector BG 4) => (A2 V3 ls3 ev2) = (A2 V2 ls2 ev2).set i ((A2 V2 ls2 ev2).at_ i).B3) (fun (V3 : AH) (ls3 : Vector BG 4) => []) (fun (V3 : AH) (ls3 : Vector BG 4) => [Ab.box b 101 (AH.enc V3), Ab.C3 (Bt 9 (AH.Ap V3) ls3), Ab.own (AH.last V3) 56 16 (ev2.flatMap Ing.Event.enc)]) (.t5 0 2 4 5 7) rfl ?_ (fun V3 ls3 hC => ?_)
   ·
    refine Eu (k := i) hi.1 hi.2 (fun sv sl hsv hlv hln => ?_)
    refine BE (N := 17) [0, 0, 2, 6, 14, 0, 32, 96, 224, 480, 1022, 2046, 4094, 4094, 8191, 24575, 57343] mix (by kernel_rfl) rfl ?_
    refine Pf 0 rfl (AE rfl) (Pf 1 rfl (AE rfl) (Pf 2 rfl (BS rfl) (Pf 3 rfl (Ah Df rfl) (Pf 4 rfl (AZ rfl Cm .m3 ((AS.BL V2 hi.1 hi.2).comp A0.l4) rfl) (Pf 5 rfl (AE rfl) (Pf 6 rfl (BS rfl) (Pf 7 rfl (Ah KZ rfl) ?_)))))))
    refine Pf 8 rfl (Ah QN rfl) (Pf 9 rfl (AF rfl A1 .m3 (((AS.BL V2 hi.1 hi.2).comp A0.l2).comp AO.l5) rfl rfl) ?_)
    refine An 10 rfl (by kernel_rfl) ?_
    refine BF rfl ax (.c rfl (.c rfl .n)) .n (MS _ _ _ (by rw [← hlv]; exact WI hF2 hi.1 hi.2)) (fun w hS => ⟨(Kn.own .m1) w hS, (Tk.own .m1) w hS⟩) (fun v1 B hv => ?_)
    rcases hv with ⟨y2, rfl, rfl⟩ | ⟨y3, y4, y5, y6, y7, rfl, y8, y9, rfl⟩
    ·
     refine Bm rfl ⟨?_, ?_⟩
     · exact (Pk (Pk (Pk (Pk (Pk (Pk (Pk (Pk (Pk (Po rfl (AE rfl) rfl rfl As))))))))))
     refine Pf 11 rfl (AE rfl) (Pf 12 rfl (AL rfl rfl) (Pf 13 rfl (AL rfl rfl) (Pf 14 rfl (BS rfl) (Pf 15 rfl (Ah Df rfl) ?_))))
     refine An 16 rfl (by kernel_rfl) ?_
     refine AQ (AK ((AS.BL V2 hi.1 hi.2).comp A0.l4) rfl rfl rfl Ez rfl (.t (.t (.t .h)))) ?_
     refine BK rfl ⟨?_, ?_⟩
     · exact (Pk (Pk (Po rfl (AL rfl rfl) rfl rfl (Pk (Pk (Pk (Pk (Pk (Pk (Pk (Pk (Pk (Pk (Pk (Pk As)))))))))))))))
     refine A3 (by kernel_rfl) ?_
     refine AB (.t5 0 2 4 5 7) ?_
     refine CG (.c .h (.c .h (.c .h (.c .h (.c .h .n))))) ?_
     refine QU hi.1 hi.2 (by rfl) (by rfl) (by rfl) ?_
     refine EN _ _ ?_ (.t5 0 2 4 5 7) (.refl _)
     · exact EW hi.1 hi.2 hsv hlv (f := BA.B3) (RB hln.2.1 y2)
    refine Bm rfl ⟨?_, ?_⟩
    · exact (Pk (Pk (Pk (Pk (Pk (Pk (Pk (Pk (Pk (Po rfl (AE rfl) rfl rfl As))))))))))
    refine Pf 11 rfl (AE rfl) (Pf 12 rfl (AL rfl rfl) (Pf 13 rfl (AL rfl rfl) (Pf 14 rfl (BS rfl) (Pf 15 rfl (Ah Df rfl) ?_))))
    refine An 16 rfl (by kernel_rfl) ?_
    refine AQ (AK ((AS.BL V2 hi.1 hi.2).comp A0.l4) rfl rfl rfl Ez rfl (.t (.t (.t (.t .h))))) ?_
    refine BK rfl ⟨?_, ?_⟩
    · exact (Pk (Pk (Po rfl (AL rfl rfl) rfl rfl (Pk (Pk (Pk (Pk (Pk (Pk (Pk (Pk (Pk (Pk (Pk (Pk As)))))))))))))))
    refine A3 (by kernel_rfl) ?_
    refine AB (.t5 0 2 4 5 7) ?_
    refine CG (.c .h (.c (.t .h) .n)) ?_
    refine aK y9 ?_
    refine CG (.c (.t .h) (.c .h (.c .h (.c .h (.c .h .n))))) ?_
    refine QU hi.1 hi.2 (by rfl) (by rfl) (by rfl) ?_
    refine EN _ _ ?_ (.t5 0 2 4 5 7) (.refl _)
    · exact EW hi.1 hi.2 hsv hlv (f := BA.B3) (Wx hln.2.1 y3 _)
   refine Gs (Gm rfl (Gt (BS rfl) (Gt (Ah Df rfl) (Gt (Ah Ih rfl) ?_))))
   refine Gt (AF rfl Ct .m0 (((AH.l1.comp (AS.ar (n := 4) A0.fl (by first | omega | exact hi))).comp A0.l4).comp Ar.l4) rfl rfl) ?_
   refine Gn (.t6 0 2 4 5 7 40) ?_
   refine Gc (fun c4 => ?_) (fun c4 => ?_)
   ·
    have c4p := kz c4
    refine Gs (Gm rfl (Gm rfl ?_))
    refine BF rfl Ys (.c rfl (.c rfl .n)) (.c .h (.c .h (.c .h .n))) (Hl _ V3 ls3 ev2 i _ _ hi (by rw [hC]; exact hF2.VX hi.1 hi.2) (by omega) (by omega)) (fun w hS => ⟨gl0.pull gm0 hS (.c .h (.c .h (.c .h .n))), gl1.pull gm1 hS (.c .h (.c .h (.c .h .n))), gl2.pull gm2 hS (.c .h (.c .h (.c .h .n))), gl3.pull gm3 hS (.c .h (.c .h (.c .h .n)))⟩) (fun v13 B hv => ?_)
    obtain ⟨y14, y15, y16, rfl, y17, rfl⟩ := hv
    refine Gn (.t3 0 5 7) (AJ (Ga rfl (AM (AU (AA (AJ ?_))))))
    refine Gt (Aw rfl rfl (IntWalk.i64_in _ (by first | omega | exact hi.1 | exact hi.2))) ?_
    refine Gm rfl ?_
    refine AM (AB (.t4 0 2 5 7) ?_)
    refine Jf (i + 1) _ _ _ _ ?_ ?_ (.t4 2 7 0 5) (.refl _)
    · exact ⟨by omega, by omega, (((KN hi.1 hi.2 hI23).trans ((AV c3).trans (BC (show _ = true from (S1 hi.1 hi.2 hC).symm.trans c4)))).trans (by rw [← hC, ← y17])).symm⟩
    · omega
   have c4p := kz c4
   refine Aa ?_
   refine AB (.t4 0 2 5 7) ?_
   refine AU (AA (AJ ?_))
   refine Gt (Aw rfl rfl (IntWalk.i64_in _ (by first | omega | exact hi.1 | exact hi.2))) ?_
   refine Gm rfl ?_
   refine AM (AB (.t4 0 2 5 7) ?_)
   refine Jf (i + 1) _ _ _ _ ?_ ?_ (.t4 2 7 0 5) (.refl _)
   · exact ⟨by omega, by omega, (((KN hi.1 hi.2 hI23).trans ((AV c3).trans (AV (show _ = false from (S1 hi.1 hi.2 hC).symm.trans c4)))).trans (by rw [← hC])).symm⟩
   · omega
  have c2p := kz c2
  obtain rfl : i = 4 := by omega
  have hE : (A2 V1 ls1 ev1).DY 4 = ((A2 V2 ls2 ev2), c) := hI23.symm
  refine BV (AT (AT (Af ?_)))
  refine AB (.t3 0 2 5) ?_
  refine AA (Gs (Gm rfl (Gt (BQ rfl) (Gn (.t3 0 5 46) ?_))))
  refine Gc (fun c5 => ?_) (fun c5 => ?_)
  ·
   have c5p := kz c5
   refine Ac (AP (AD (AD (AP ?_))))
   refine AY rfl .n ?_
   intro w1 hS
   have hS := (hS.perm (Av.perm (.c .h (.c .h (.c .h .n))))).Ay
   refine ⟨_, ⟨V2, ls2, ev2, rfl, ?ga1, rfl⟩, hS⟩
   case ga1 => exact (hI13.trans ((M7 hI11 (by omega)).trans ((BC (show (!((A2 V1 ls1 ev1).DY 4).2) = true by rw [hE]; exact c5)).trans (by rw [hE])))).symm
  have c5p := kz c5
  refine Aa ?_
  refine AB (.t2 0 5) ?_
  refine AU (AA (AJ ?_))
  refine Gt (Aw rfl rfl (IntWalk.i64_in _ (by first | omega | exact hi.1 | exact hi.2))) ?_
  refine Gm rfl ?_
  refine AM (AB (.t2 0 5) ?_)
  refine Cz (k + 1) _ _ _ ?_ ?_ (.t2 5 0) (.refl _)
  · exact ⟨by omega, by omega, hI13.trans ((M7 hI11 (by omega)).trans ((AV (show (!((A2 V1 ls1 ev1).DY 4).2) = false by rw [hE]; exact c5)).trans (by rw [hE]))), (Og hI14 (by omega) (by omega) hI23).mono (by omega) (by omega)⟩
  · omega
 have c1p := kz c1
 refine BV (AT (AT (Af ?_)))
 refine Bh rfl .n ?_
 intro w1 hS
 have hS := (hS.perm (Av.perm (.c .h (.c .h (.c .h .n))))).Ay
 refine ⟨_, ⟨V1, ls1, ev1, rfl, ?ga2, rfl⟩, hS⟩
 case ga2 => exact (hI13.trans (by rw [show (5 - k).toNat = 0 by omega]; rfl)).symm
theorem OU (b : Nat) (V : AH) (ls : Vector BG 4) (ev : List Ing.Event) (d : Int) (n m : Nat) (hF : AN.Fit (A2 V ls ev) n m) (hn : n ≤ 500000) (hm : m ≤ 500000) : Ev Tryz.prog 60 #[.pointer (some ⟨b, 0, none⟩), .int .i64 d] [Ab.box b 101 (AH.enc V), Ab.C3 (Bt 9 (AH.Ap V) ls), Ab.own (AH.last V) 56 16 ((ev).flatMap Ing.Event.enc)] (fun w => (GV 2 E7 w ∧ 2 ∉ CR [Ab.box b 101 (AH.enc V), Ab.C3 (Bt 9 (AH.Ap V) ls), Ab.own (AH.last V) 56 16 ((ev).flatMap Ing.Event.enc)]) ∧ (GV 0 AI.C2 w ∧ 0 ∉ CR [Ab.box b 101 (AH.enc V), Ab.C3 (Bt 9 (AH.Ap V) ls), Ab.own (AH.last V) 56 16 ((ev).flatMap Ing.Event.enc)]) ∧ (F2 7 w ∧ 7 ∉ CR [Ab.box b 101 (AH.enc V), Ab.C3 (Bt 9 (AH.Ap V) ls), Ab.own (AH.last V) 56 16 ((ev).flatMap Ing.Event.enc)]) ∧ (F2 8 w ∧ 8 ∉ CR [Ab.box b 101 (AH.enc V), Ab.C3 (Bt 9 (AH.Ap V) ls), Ab.own (AH.last V) 56 16 ((ev).flatMap Ing.Event.enc)])) (fun v B => ∃ V' ls' ev', v = .tuple #[] ∧ A2 V' ls' ev' = AN.Oo (A2 V ls ev) d ∧ B = [Ab.box b 101 (AH.enc V'), Ab.C3 (Bt 9 (AH.Ap V') ls'), Ab.own (AH.last V') 56 16 ((ev').flatMap Ing.Event.enc)]) := by
 intro w hS0 hH
 obtain ⟨⟨gl0, gm0⟩, ⟨gl1, gm1⟩, ⟨gl2, gm2⟩, ⟨gl3, gm3⟩⟩ := hH
 refine Ai _ _ Tryz.func60 rfl rfl rfl (hS0) ?_
 refine CB (Gm rfl (AM (AA (Ae ?_))))
 refine Bf (.t3 8 0 1) ?_
 refine BU (.t (.t .h)) ?_
 refine BU (.t (.t .h)) ?_
 refine BU (.t (.t .h)) ?_
 refine IF (fun (i : Int) (V1 : AH) (ls1 : Vector BG 4) (ev1 : List Ing.Event) => 0 ≤ i ∧ i ≤ 4 ∧ (A2 V1 ls1 ev1) = AN.turns (A2 V ls ev) i.toNat) (fun (i : Int) (V1 : AH) (ls1 : Vector BG 4) (ev1 : List Ing.Event) => (4 - i).toNat) (fun (i : Int) (V1 : AH) (ls1 : Vector BG 4) (ev1 : List Ing.Event) => [(8, .int .i64 i)]) (fun (i : Int) (V1 : AH) (ls1 : Vector BG 4) (ev1 : List Ing.Event) => [Ab.box b 101 (AH.enc V1), Ab.C3 (Bt 9 (AH.Ap V1) ls1), Ab.own (AH.last V1) 56 16 (ev1.flatMap Ing.Event.enc)]) (0) (V) (ls) (ev) ?_ rfl rfl (fun i V1 ls1 ev1 hI1 => ?_)
 · exact ⟨by omega, by omega, rfl⟩
 obtain ⟨hI11, hI12, hI13⟩ := hI1
 refine Gs (Gt (A5 rfl rfl) (AM (AA (Ao ?_))))
 refine Gc (fun c1 => ?_) (fun c1 => ?_)
 ·
  have c1p := kz c1
  have hi : 0 ≤ i ∧ i < 4 := ⟨by omega, by omega⟩
  refine Aa ?_
  refine AB (.t3 0 1 8) ?_
  refine AA (Ao (Ae (Gs (Gm rfl (Ga rfl (Gn (.t4 0 1 4 8) (AJ ?_)))))))
  refine Gm rfl (Gm rfl (Gm rfl (Gt (BS rfl) (Gt (Ah FV rfl) ?_))))
  refine Gt (AR N4 rfl rfl (by first | omega | exact hi.1 | exact hi.2) (by first | omega | exact hi.1 | exact hi.2)) ?_
  refine BF rfl cA (.c rfl (.c rfl .n)) (.c .h (.c .h (.c .h .n))) (Pl _ V1 ls1 ev1 i (n + 44) (m + 44) hi (by rw [hI13]; exact (AN.Jk hF i.toNat (by omega)).mono (by omega) (by omega)) (by omega) (by omega)) (fun w hS => ⟨gl0.pull gm0 hS (.c .h (.c .h (.c .h .n))), gl1.pull gm1 hS (.c .h (.c .h (.c .h .n))), gl2.pull gm2 hS (.c .h (.c .h (.c .h .n))), gl3.pull gm3 hS (.c .h (.c .h (.c .h .n)))⟩) (fun v1 B hv => ?_)
  obtain ⟨y2, y3, y4, rfl, y5, rfl⟩ := hv
  refine AM (AB (.t3 0 1 8) ?_)
  refine AU (AA (AJ ?_))
  refine Gt (Aw rfl rfl (IntWalk.i64_in _ (by first | omega | exact hi.1 | exact hi.2))) ?_
  refine Gm rfl ?_
  refine AM (AB (.t3 0 1 8) ?_)
  refine Cz (i + 1) _ _ _ ?_ ?_ (.t3 8 0 1) (.refl _)
  · exact ⟨by omega, by omega, y5.trans (by rw [hI13]; exact (Rw hI11).symm)⟩
  · omega
 have c1p := kz c1
 obtain rfl : i = 4 := by omega
 have hF1 := AN.Jk hF 4 (Nat.le_refl 4)
 rw [show (4 : Nat) = (4 : Int).toNat from rfl, ← hI13] at hF1
 have hrl : (AG.Cg V1.w d).2.1.length ≤ 78 := AG.O1 hF1.HE.MH d
 have hrs := AG.N0 (draw := d) hF1.HE
 have hF4 := ((hF1.land hrs.1).HI hrs.2).mono (Nat.add_le_add_left hrl _) (Nat.add_le_add_left hrl _)
 refine BV (AT (AT (Af ?_)))
 refine AB (.t2 0 1) ?_
 refine AA (Gs (Gm rfl (Gt (BS rfl) (Gt (Ah Dx rfl) (Gt (AZ rfl BT .m0 AH.l0 rfl) (Gm rfl ?_))))))
 refine BF rfl bu (.c rfl (.c rfl .n)) .n (Lv V1.w d hF1.HE.MH) (fun w hS => gl1.pull gm1 hS .n) (fun v6 B hv => ?_)
 obtain ⟨y7, rfl, y8, rfl⟩ := hv
 refine Gm rfl (Gt (AL rfl rfl) (Gt (AL rfl rfl) (Gt (AL rfl rfl) ?_)))
 refine BB rfl LX rfl (fun b1 => ?_)
 refine AQ (AK (AS.id AI.fl.len AI.fl.one) rfl rfl rfl Dw rfl .h) ?_
 refine Ga rfl (Ga rfl (Gn (.t3 0 5 6) (Gs (Gm rfl (Gt (AZ rfl BT .m0 (AS.id AI.fl.len AI.fl.one) rfl) (Gt (BS rfl) (Gt (Ah Dx rfl) ?_)))))))
 refine AQ (AK AH.l0 rfl rfl rfl Dw rfl (.t (.t .h))) ?_
 refine Gn (.t2 0 6) (Gs (Gm rfl (Gm rfl ?_)))
 refine BF rfl Ti (.c rfl (.c rfl .n)) (.c (.t (.t .h)) (.c (.t (.t .h)) (.c (.t (.t .h)) (.c (.t .h) .n)))) (En _ { V1 with w := (AG.Cg V1.w d).1 } ls1 ev1 _ (AG.Cg V1.w d).2.1 _ (by assumption) (GF hF1) (by omega) (Nat.le_trans hF1.last (by omega)) (fun e he c _ => hrs.2 e he)) (fun w hS => ⟨gl0.pull gm0 hS (.c (.t (.t .h)) (.c (.t (.t .h)) (.c (.t (.t .h)) (.c (.t .h) .n)))), gl1.pull gm1 hS (.c (.t (.t .h)) (.c (.t (.t .h)) (.c (.t (.t .h)) (.c (.t .h) .n))))⟩) (fun v10 B hv => ?_)
 obtain ⟨y11, y12, y13, rfl, y14, rfl⟩ := hv
 refine Gn (.t1 0) (AJ (Gm rfl ?_))
 refine BF rfl Qw (.c rfl .n) (.c .h (.c .h (.c .h .n))) (Dj _ y11 y12 y13 _ _ (by rw [y14]; exact hF4) (by omega) (by omega)) (fun w hS => ⟨gl0.pull gm0 hS (.c .h (.c .h (.c .h .n))), gl1.pull gm1 hS (.c .h (.c .h (.c .h .n))), gl2.pull gm2 hS (.c .h (.c .h (.c .h .n))), gl3.pull gm3 hS (.c .h (.c .h (.c .h .n)))⟩) (fun v15 B hv => ?_)
 obtain ⟨y16, y17, y18, rfl, y19, rfl⟩ := hv
 refine AM ?_
 refine Bh rfl .n ?_
 intro w1 hS
 have hS := (hS.perm (Av.perm (.c .h (.c .h (.c .h .n))))).Ay
 refine ⟨_, ⟨y16, y17, y18, rfl, ?ga1, rfl⟩, hS⟩
 case ga1 => rw [y19, y14, Nu]; show AN.B3 (AN.HI { (A2 V1 ls1 ev1) with w := (AG.Cg ((A2 V1 ls1 ev1)).w d).1 } (AG.Cg ((A2 V1 ls1 ev1)).w d).2.1) = _; rw [hI13]; rfl
theorem FN (opt : Int) (w : World) : EG Tryz.prog 73 #[.int .i64 opt] w fun v w' => v = .tuple #[.int .i64 (AO.place opt).1, .bool (AO.place opt).2.1, .bool (AO.place opt).2.2] ∧ B6 w w' := by
 refine Ai [] [] Tryz.func73 rfl rfl rfl (St.start w []) ?_
 refine Gs (Ga rfl (Ga rfl (Ga rfl (Gn (.t1 0) (CB (Gm rfl (Gn (.t1 5) ?_)))))))
 refine Ae (Gs (Gt (Aj rfl rfl) (Ga rfl (Gn (.t2 5 6) ?_))))
 refine Gc (fun c1 => ?_) (fun c1 => ?_)
 ·
  refine Gs (Ga rfl (Ga rfl (Ga rfl (Gn (.t3 2 3 4) (Ac (AP (AD ?_)))))))
  refine AY rfl (.tmp rfl (.tmp rfl (.tmp rfl .n))) ?_
  intro w1 hS; refine ⟨?_, hS.Am⟩; simp only [AO.place, c1, ↓reduceIte, Bool.false_eq_true]; rfl
 refine Gs (Gt (Aj rfl rfl) (Ga rfl (Gn (.t2 5 8) ?_)))
 refine Gc (fun c2 => ?_) (fun c2 => ?_)
 ·
  refine Gs (Ga rfl (Ga rfl (Ga rfl (Gn (.t3 2 3 4) (Ac (AP (AD ?_)))))))
  refine AY rfl (.tmp rfl (.tmp rfl (.tmp rfl .n))) ?_
  intro w1 hS; refine ⟨?_, hS.Am⟩; simp only [AO.place, c1, c2, ↓reduceIte, Bool.false_eq_true]; rfl
 refine Gs (Gt (Aj rfl rfl) (Ga rfl (Gn (.t1 10) ?_)))
 refine Gc (fun c3 => ?_) (fun c3 => ?_)
 ·
  refine Gs (Ga rfl (Ga rfl (Ga rfl (Gn (.t3 2 3 4) (Ac (AP (AD ?_)))))))
  refine AY rfl (.tmp rfl (.tmp rfl (.tmp rfl .n))) ?_
  intro w1 hS; refine ⟨?_, hS.Am⟩; simp only [AO.place, c1, c2, c3, ↓reduceIte, Bool.false_eq_true]; rfl
 refine Aa ?_
 refine AB (.nil _) ?_
 refine AU (AA (Gs (Ga rfl (Ga rfl (Ga rfl (AM (AA ?_)))))))
 refine Ac ?_
 refine AY rfl (.tmp rfl (.tmp rfl (.tmp rfl .n))) ?_
 intro w1 hS; refine ⟨?_, hS.Am⟩; simp only [AO.place, c1, c2, c3, ↓reduceIte, Bool.false_eq_true]; rfl
theorem Fp (X : AO) (w : World) : EG Tryz.prog 55 #[.agg X.enc.toArray] w fun v w' => v = .bool X.Br ∧ B6 w w' := by
 refine Ai [] [] Tryz.func55 rfl rfl rfl (St.start w []) ?_
 refine Gs ?_
 refine Bw rfl rfl rfl (fun b1 => ?_)
 refine Ga rfl (Gn (.t1 1) (CB (Gm rfl (AM (AA (Ae ?_))))))
 refine Bf (.t2 4 1) ?_
 refine CJ (fun (k : Int) => 0 ≤ k ∧ k ≤ 3 ∧ X.Br = (CA 3 (fun i => !X.NC i) (3 - k).toNat && (!(!decide (X.us.at 2 = 0) || !decide (X.GD.at 0 = 0)) && X.Oi))) (fun (k : Int) => (3 - k).toNat) (fun (k : Int) => [(4, .int .i64 k)]) (fun (k : Int) => []) (0) ?_ rfl rfl (fun k hI1 => ?_)
 · exact ⟨Int.le_refl _, by omega, rfl⟩
 obtain ⟨hI11, hI12, hI13⟩ := hI1
 refine Gs (Gt (A5 rfl rfl) (AM (AA (Ao ?_))))
 refine Gc (fun c1 => ?_) (fun c1 => ?_)
 ·
  have c1p := kz c1
  rw [C6 _ (by omega)] at hI13
  refine Aa ?_
  refine AB (.t2 1 4) ?_
  refine AA (Ao (Ae (Gs (Gm rfl (Ga rfl (Gn (.t3 1 3 4) (Gs ?_)))))))
  refine Gm rfl (Gt (Ah KB rfl) ?_)
  refine Gt (AR KK rfl rfl (by omega) (by omega)) ?_
  refine Gt (AF rfl A1 .m0 (AO.l3.comp (AS.ar (n := 3) Bz (by omega))) rfl rfl) ?_
  refine Gt (A5 rfl rfl) (Gm rfl (BZ 12 rfl rfl (fun q => AE rfl) (BZ 12 rfl rfl (fun q => Ah KB rfl) ?_)))
  refine BZ 12 rfl rfl (fun q => by have q1 := q; (try simp at q1); exact AR KK (cF rfl q) (cF rfl q) (by omega) (by omega)) ?_
  refine BZ 12 rfl rfl (fun q => by have q1 := q; (try simp at q1); exact AF (cF rfl q) A1 .m0 (AO.l3.comp (AS.ar (n := 3) Bz (by omega))) rfl rfl) ?_
  refine BZ 12 rfl rfl (fun q => Cf (cF rfl q) rfl) ?_
  refine Gt (BR rfl rfl (fun h => by rw [h]; rfl)) ?_
  refine Gm rfl (BZ 19 rfl rfl (fun q => AE rfl) (BZ 19 rfl rfl (fun q => Ah JU rfl) ?_))
  refine BZ 19 rfl rfl (fun q => by have q1 := q; (try simp at q1); exact AR KK (cF rfl q) (cF rfl q) (by omega) (by omega)) ?_
  refine BZ 19 rfl rfl (fun q => by have q1 := q; (try simp at q1); exact AF (cF rfl q) A1 .m0 (AO.l4.comp (AS.ar (n := 3) Bz (by omega))) rfl rfl) ?_
  refine BZ 19 rfl rfl (fun q => A5 (cF rfl q) rfl) ?_
  refine Gt (BR rfl rfl (fun h => by rw [h]; rfl)) ?_
  refine Gm rfl (BZ 26 rfl rfl (fun q => AE rfl) (BZ 26 rfl rfl (fun q => Ah JU rfl) ?_))
  refine BZ 26 rfl rfl (fun q => by have q1 := q; (try simp at q1); exact AR KK (cF rfl q) (cF rfl q) (by omega) (by omega)) ?_
  refine BZ 26 rfl rfl (fun q => by have q1 := q; (try simp at q1); exact AF (cF rfl q) A1 .m0 (AO.l4.comp (AS.ar (n := 3) Bz (by omega))) rfl rfl) ?_
  refine BZ 26 rfl rfl (fun q => Cf (cF rfl q) rfl) ?_
  refine Gt (BR rfl rfl (fun h => by rw [h]; rfl)) ?_
  refine Gn (.t3 1 4 32) ?_
  refine Gc (fun c2 => ?_) (fun c2 => ?_)
  ·
   refine Gs (Ga rfl (Gn (.t1 2) (Ac (AP (AD (AD (AP ?_)))))))
   refine AD ?_
   refine AY rfl (.tmp rfl .n) ?_
   intro w1 hS; refine ⟨congrArg Value.bool ?_, hS.Am⟩; rw [hI13, AO.NC, c2]; rfl
  have c2p := kz c2
  refine Aa ?_
  refine AB (.t2 1 4) ?_
  refine AU (AA (AJ ?_))
  refine Gt (Aw rfl rfl (IntWalk.i64_in _ (by omega))) ?_
  refine Gm rfl ?_
  refine AM (AB (.t2 1 4) ?_)
  refine Bx (k + 1) ?_ ?_ (.t2 4 1) (.refl _)
  · exact ⟨by omega, by omega, by rw [hI13, AO.NC, c2]; rfl⟩
  · omega
 have c1p := kz c1
 obtain rfl : k = 3 := by omega
 refine BV (AT (AT (Af ?_)))
 refine AB (.t1 1) ?_
 refine AA (CB (Gt (Ah KB rfl) ?_))
 refine Gt (AR KK rfl rfl (by decide) (by decide)) ?_
 refine Gt (AF rfl A1 .m0 (AO.l3.comp (AS.arr (n := 3) Bz (by decide) (by decide))) rfl rfl) ?_
 refine Gt (CT rfl rfl) (Gm rfl (BZ 38 rfl rfl (fun q => Ah JU rfl) ?_))
 refine BZ 38 rfl rfl (fun q => AR KK (cF rfl q) rfl (by decide) (by decide)) ?_
 refine BZ 38 rfl rfl (fun q => AF (cF rfl q) A1 .m0 (AO.l4.comp (AS.arr (n := 3) Bz (by decide) (by decide))) rfl rfl) ?_
 refine BZ 38 rfl rfl (fun q => CT (cF rfl q) rfl) ?_
 refine Gt (BR rfl rfl (fun h => by rw [h]; rfl)) ?_
 refine Gn (.t2 1 43) ?_
 refine Gc (fun c3 => ?_) (fun c3 => ?_)
 ·
  refine Gs (Ga rfl (Gn (.t1 2) (Ac (AD ?_))))
  refine AY rfl (.tmp rfl .n) ?_
  intro w1 hS; refine ⟨congrArg Value.bool ?_, hS.Am⟩; rw [hI13, c3]; rfl
 refine Aa ?_
 refine AB (.t1 1) ?_
 refine AA (Gs (Gt (Ah FR rfl) (Gt (AF rfl A1 .m0 AO.l0 rfl rfl) (Gt (CI rfl rfl) (Gm rfl (Ba 47 rfl rfl (fun q => Ah FR rfl) (Ba 47 rfl rfl (fun q => AF (BX rfl q) A1 .m0 AO.l0 rfl rfl) ?_)))))))
 refine Ba 47 rfl rfl (fun q => Hr (BX rfl q) rfl) (Gt (BH rfl rfl (fun h => h)) (Gm rfl (Ba 52 rfl rfl (fun q => Ah FR rfl) (Ba 52 rfl rfl (fun q => AF (BX rfl q) A1 .m0 AO.l0 rfl rfl) (Ba 52 rfl rfl (fun q => Aj (BX rfl q) rfl) (Ba 52 rfl rfl (fun q => Ah KO rfl) (Ba 52 rfl rfl (fun q => AF (BX rfl q) A1 .m0 AO.l1 rfl rfl) ?_)))))))
 refine Ba 52 rfl rfl (fun q => CT (BX rfl q) rfl) (Ba 52 rfl rfl (fun q => EV Tryz.underlying4 (BX rfl q) (BX rfl q)) (Gt (BH rfl rfl (fun h => h)) (Gm rfl (Ba 61 rfl rfl (fun q => Ah KO rfl) (Ba 61 rfl rfl (fun q => AF (BX rfl q) A1 .m0 AO.l1 rfl rfl) (Ba 61 rfl rfl (fun q => Aj (BX rfl q) rfl) (Ba 61 rfl rfl (fun q => AE (BX rfl q)) ?_)))))))
 refine Cw (t := 65) rfl rfl rfl (fun qc q => Ah KO rfl) ?_
 refine Cw (t := 65) rfl rfl rfl (fun qc q => AF (BX rfl (by rw [qc, q]; rfl)) A1 .m0 AO.l1 rfl rfl) ?_
 refine Cw (t := 65) rfl rfl rfl (fun qc q => CI (BX rfl (by rw [qc, q]; rfl)) rfl) ?_
 refine Cw (t := 65) rfl rfl rfl (fun qc q => AE (BX rfl (by rw [qc, q]; rfl))) ?_
 refine DE (t := 69) rfl rfl rfl (fun qc q => Ah KO rfl) ?_
 refine DE (t := 69) rfl rfl rfl (fun qc q => AF (BX rfl (by rw [qc, q]; rfl)) A1 .m0 AO.l1 rfl rfl) ?_
 refine DE (t := 69) rfl rfl rfl (fun qc q => Hr (BX rfl (by rw [qc, q]; rfl)) rfl) ?_
 refine Cw (t := 65) rfl rfl rfl (fun qc q => BH (BX rfl (by rw [qc, q]; rfl)) rfl (fun h => by rw [qc, q, h]; rfl)) ?_
 refine Ba 61 rfl rfl (fun q => BR (BX rfl q) rfl (fun h => by rw [q, h]; rfl)) ?_
 refine Gt (BH rfl rfl (fun h => h)) (Gm rfl (Ba 76 rfl rfl (fun q => Ah GK rfl) (Ba 76 rfl rfl (fun q => AF (BX rfl q) CC .m0 AO.l2 rfl rfl) (Ba 76 rfl rfl (fun q => BI rfl Tryz.underlying9 (BX rfl q)) (Ba 76 rfl rfl (fun q => Hr (BX rfl q) rfl) (Gt (BH rfl rfl (fun h => h)) (Gm rfl ?_)))))))
 refine Ba 82 rfl rfl (fun q => Ah FR rfl) (Ba 82 rfl rfl (fun q => AF (BX rfl q) A1 .m0 AO.l0 rfl rfl) (Ba 82 rfl rfl (fun q => CI (BX rfl q) rfl) (Ba 82 rfl rfl (fun q => AE (BX rfl q)) ?_)))
 refine Cw (t := 86) rfl rfl rfl (fun qc q => Ah GK rfl) ?_
 refine Cw (t := 86) rfl rfl rfl (fun qc q => AF (BX rfl (by rw [qc, q]; rfl)) CC .m0 AO.l2 rfl rfl) ?_
 refine Cw (t := 86) rfl rfl rfl (fun qc q => Bo (BX rfl (by rw [qc, q]; rfl)) rfl) ?_
 refine Ba 82 rfl rfl (fun q => BR (BX rfl q) rfl (fun h => by rw [q, h]; rfl)) ?_
 refine Gt (BH rfl rfl (fun h => h)) (Gm rfl (Ba 92 rfl rfl (fun q => Ah QN rfl) (Ba 92 rfl rfl (fun q => AF (BX rfl q) A1 .m0 AO.l5 rfl rfl) (Ba 92 rfl rfl (fun q => CI (BX rfl q) rfl) (Gt (BH rfl rfl (fun h => h)) (Gm rfl (Ba 97 rfl rfl (fun q => Ah QN rfl) ?_)))))))
 refine Ba 97 rfl rfl (fun q => AF (BX rfl q) A1 .m0 AO.l5 rfl rfl) (Ba 97 rfl rfl (fun q => Hr (BX rfl q) rfl) (Gt (BH rfl rfl (fun h => h)) (Ga rfl (Gn (.t1 2) (Ac ?_)))))
 refine AY rfl (.tmp rfl .n) ?_
 intro w1 hS; refine ⟨congrArg Value.bool ?_, hS.Am⟩; rw [hI13, c3]; rfl
theorem Cu (verb opt : Int) (h0 : 0 ≤ verb ∧ verb ≤ 255) (h1 : 0 ≤ opt ∧ opt ≤ 255) (w : World) : EG Tryz.prog 74 #[.int .i64 verb, .int .i64 opt] w fun v w' => v = BO (AO.U3 verb opt) ∧ B6 w w' := by
 refine Ai [] [] Tryz.func74 rfl rfl rfl (St.start w []) ?_
 refine Gs (Ga rfl (Gn (.t2 0 1) (Gs (Gm rfl ?_))))
 refine Gt (NZ Tryz.underlying5 Tryz.underlying3 rfl (IntWalk.u8_in _ (by omega))) ?_
 refine Gm rfl ?_
 refine Gt (NZ Tryz.underlying5 Tryz.underlying3 rfl (IntWalk.u8_in _ (by omega))) ?_
 refine VZ (cs := B8 (n := 3) YY (Vector.replicate 3 default)) rfl Tryz.underlying105 Us YT (by decide) (by decide) (by kernel_rfl) (.cons (AS.arr (n := 3) (i := 0) aj (by decide) (by decide)) rfl rfl rfl (.cons (AS.arr (n := 3) (i := 1) aj (by decide) (by decide)) rfl rfl rfl (.cons (AS.arr (n := 3) (i := 2) aj (by decide) (by decide)) rfl rfl rfl .nil))) ((I9 aj).len _) (fun b1 => ?_)
 refine Gt (M3 (s := AO.U3 verb opt) (by rw [show (AO.U3 verb opt).flatMap DH = [.int .u8 255, .int .u8 verb, .int .u8 opt] from by simp [AO.U3, DH, Ro h0.1 h0.2, Ro h1.1 h1.2]]; rfl) Tryz.underlying105 Tryz.underlying9 Tryz.underlying5 rfl (Kn.own .m0)) ?_
 refine Ga rfl (Gn (.t1 4) (Ac ?_))
 refine AY rfl (.tmp rfl .n) ?_
 intro w1 hS; refine ⟨?_, hS.Am⟩; rfl
theorem LJ (X : AO) (opt : Int) (w : World) : EG Tryz.prog 80 #[.agg X.enc.toArray, .int .i64 opt] w fun v w' => v = .tuple #[.agg (X.DD opt).1.enc.toArray, BO (X.DD opt).2.1, .int .i64 (X.DD opt).2.2] ∧ B6 w w' := by
 refine Ai [] [] Tryz.func80 rfl rfl rfl (St.start w []) ?_
 refine Gs ?_
 refine Bw rfl rfl rfl (fun b1 => ?_)
 refine BB rfl Ye rfl (fun b2 => ?_)
 refine Ga rfl (Ga rfl (Gn (.t3 1 2 4) (Gs (Gm rfl ?_))))
 refine A8 rfl Y2 (.c rfl .n) (fun w hS => FN _ w) ?_
 refine Gm rfl (Gt (AL rfl rfl) (Gt (AL rfl rfl) (Gt (AL rfl rfl) (Ga rfl (Ga rfl (Ga rfl (Gn (.t5 1 2 4 7 8) ?_)))))))
 refine Ao (Ae (Gs (Gt (AZ rfl Dq .m1 (AS.id AO.fl.len AO.fl.one) rfl) ?_)))
 refine A8 rfl Yk (.c rfl .n) (fun w hS => Fp _ w) ?_
 refine Gt (BQ rfl) (Ga rfl (Gn (.t6 1 2 4 7 8 16) ?_))
 refine Gc (fun c1 => ?_) (fun c1 => ?_)
 ·
  refine Gs (Gt (AZ rfl Dq .m1 (AS.id AO.fl.len AO.fl.one) rfl) ?_)
  refine AQ (AK (AS.id AO.fl.len AO.fl.one) rfl rfl rfl Jr rfl .h) ?_
  refine Ga rfl (Ga rfl (Gn (.t3 4 5 6) (Ac (AP (AD ?_)))))
  refine AY rfl (.cell rfl .m0 (.inl ⟨(by rw [AO.fl.len]; exact Dq), rfl⟩) (.tmp rfl (.tmp rfl .n))) ?_
  intro w1 hS; refine ⟨?_, hS.Am⟩; simp only [AO.DD, c1, ↓reduceIte, Bool.false_eq_true]; rfl
 have c1p := kz c1
 refine Gs (Gm rfl (Gt (BQ rfl) (Ga rfl (Gn (.t5 1 2 4 7 21) ?_))))
 refine Gc (fun c2 => ?_) (fun c2 => ?_)
 ·
  refine Gs (Gt (AZ rfl Dq .m1 (AS.id AO.fl.len AO.fl.one) rfl) ?_)
  refine AQ (AK (AS.id AO.fl.len AO.fl.one) rfl rfl rfl Jr rfl .h) ?_
  refine Ga rfl (Ga rfl (Gn (.t3 4 5 6) (Ac (AP (AD ?_)))))
  refine AY rfl (.cell rfl .m0 (.inl ⟨(by rw [AO.fl.len]; exact Dq), rfl⟩) (.tmp rfl (.tmp rfl .n))) ?_
  intro w1 hS; refine ⟨?_, hS.Am⟩; simp only [AO.DD, c1, c2, ↓reduceIte, Bool.false_eq_true]; rfl
 have c2p := kz c2
 have hk := AO.NX (opt := opt) (by simpa using c2)
 have hk1 : 0 ≤ (AO.place opt).1 ∧ (AO.place opt).1 < 3 := by rcases hk with ⟨_, e⟩ | ⟨_, e⟩ <;> rw [e] <;> decide
 have ho : 0 ≤ opt ∧ opt ≤ 255 := by rcases hk with ⟨e, _⟩ | ⟨e, _⟩ <;> omega
 refine Gs (Gm rfl (Gt (Ah KB rfl) ?_))
 refine Gt (AR KK rfl rfl (by omega) (by omega)) ?_
 refine Gt (AF rfl A1 .m1 (AO.l3.comp (AS.ar (n := 3) Bz (by omega))) rfl rfl) ?_
 refine Gt (CT rfl rfl) (Ga rfl (Gn (.t5 1 2 4 7 25) ?_))
 refine Gc (fun c3 => ?_) (fun c3 => ?_)
 ·
  refine Gs (Gt (AZ rfl Dq .m1 (AS.id AO.fl.len AO.fl.one) rfl) ?_)
  refine AQ (AK (AS.id AO.fl.len AO.fl.one) rfl rfl rfl Jr rfl .h) ?_
  refine Ga rfl (Ga rfl (Gn (.t3 4 5 6) (Ac (AP (AD ?_)))))
  refine AY rfl (.cell rfl .m0 (.inl ⟨(by rw [AO.fl.len]; exact Dq), rfl⟩) (.tmp rfl (.tmp rfl .n))) ?_
  intro w1 hS; refine ⟨?_, hS.Am⟩; simp only [AO.DD, c1, c2, c3, ↓reduceIte, Bool.false_eq_true]; rfl
 have c3p := kz c3
 refine Aa ?_
 refine AB (.t4 1 2 4 7) ?_
 refine AU (AA (Gs (Gm rfl (Gt (Ah KB rfl) ?_))))
 refine Gt (AR KK rfl rfl (by omega) (by omega)) ?_
 refine AQ (AK (AO.l3.comp (AS.ar (n := 3) Bz (by omega))) rfl rfl rfl C5 rfl (.t .h)) ?_
 refine Gn (.t3 1 2 4) (Ao ?_)
 refine BE (N := 6) [0, 0, 2, 7, 15, 31] mix (by kernel_rfl) rfl ?_
 refine Pf 0 rfl (AZ rfl Dq .m1 (AS.id AO.fl.len AO.fl.one) rfl) (Pf 1 rfl (AE rfl) ?_)
 refine BW 2 rfl rfl (by kernel_rfl) (LH (Ka (Dv RF (.c rfl (.c rfl .n)) (fun w hS => Cu _ _ (by first | assumption | omega) (by first | assumption | omega) w)))) ?_
 refine An 3 rfl (by kernel_rfl) ?_
 refine AQ (AK (AS.id AO.fl.len AO.fl.one) rfl rfl rfl Jr rfl .h) ?_
 refine BK rfl ⟨?_, ?_⟩
 · exact (Pk (Pk (Pk As)))
 refine Pf 4 rfl (Az rfl) (Pf 5 rfl (Az rfl) ?_)
 refine A3 (by kernel_rfl) ?_
 refine AB (.t3 4 5 6) ?_
 refine AA (Ac ?_)
 refine AY rfl (.cell rfl .m0 (.inl ⟨(by rw [AO.fl.len]; exact Dq), rfl⟩) (.tmp rfl (.tmp rfl .n))) ?_
 intro w1 hS; refine ⟨?_, hS.Am⟩; simp only [AO.DD, c1, c2, c3, ↓reduceIte, Bool.false_eq_true]; rfl
theorem MZ (X : AO) (opt : Int) (w : World) : EG Tryz.prog 81 #[.agg X.enc.toArray, .int .i64 opt] w fun v w' => v = .tuple #[.agg (X.Ask opt).1.enc.toArray, BO (X.Ask opt).2.1, .int .i64 (X.Ask opt).2.2] ∧ B6 w w' := by
 refine Ai [] [] Tryz.func81 rfl rfl rfl (St.start w []) ?_
 refine Gs ?_
 refine Bw rfl rfl rfl (fun b1 => ?_)
 refine BB rfl Ye rfl (fun b2 => ?_)
 refine Ga rfl (Ga rfl (Gn (.t3 1 2 4) (Gs (Gm rfl ?_))))
 refine A8 rfl Y2 (.c rfl .n) (fun w hS => FN _ w) ?_
 refine Gm rfl (Gt (AL rfl rfl) (Gt (AL rfl rfl) (Gt (AL rfl rfl) (Ga rfl (Ga rfl (Ga rfl (Gn (.t5 1 2 4 7 9) ?_)))))))
 refine Ao (Ae (Gs (Gt (AZ rfl Dq .m1 (AS.id AO.fl.len AO.fl.one) rfl) ?_)))
 refine A8 rfl Yk (.c rfl .n) (fun w hS => Fp _ w) ?_
 refine Gt (BQ rfl) (Ga rfl (Gn (.t6 1 2 4 7 9 16) ?_))
 refine Gc (fun c1 => ?_) (fun c1 => ?_)
 ·
  refine Gs (Gt (AZ rfl Dq .m1 (AS.id AO.fl.len AO.fl.one) rfl) ?_)
  refine AQ (AK (AS.id AO.fl.len AO.fl.one) rfl rfl rfl Jr rfl .h) ?_
  refine Ga rfl (Ga rfl (Gn (.t3 4 5 6) (Ac (AP (AD ?_)))))
  refine AY rfl (.cell rfl .m0 (.inl ⟨(by rw [AO.fl.len]; exact Dq), rfl⟩) (.tmp rfl (.tmp rfl .n))) ?_
  intro w1 hS; refine ⟨?_, hS.Am⟩; simp only [AO.Ask, c1, ↓reduceIte, Bool.false_eq_true]; rfl
 have c1p := kz c1
 refine Gs (Gm rfl (Gt (BQ rfl) (Ga rfl (Gn (.t5 1 2 4 7 21) ?_))))
 refine Gc (fun c2 => ?_) (fun c2 => ?_)
 ·
  refine Gs (Gt (AZ rfl Dq .m1 (AS.id AO.fl.len AO.fl.one) rfl) ?_)
  refine AQ (AK (AS.id AO.fl.len AO.fl.one) rfl rfl rfl Jr rfl .h) ?_
  refine Ga rfl (Ga rfl (Gn (.t3 4 5 6) (Ac (AP (AD ?_)))))
  refine AY rfl (.cell rfl .m0 (.inl ⟨(by rw [AO.fl.len]; exact Dq), rfl⟩) (.tmp rfl (.tmp rfl .n))) ?_
  intro w1 hS; refine ⟨?_, hS.Am⟩; simp only [AO.Ask, c1, c2, ↓reduceIte, Bool.false_eq_true]; rfl
 have c2p := kz c2
 have hk := AO.KJ (opt := opt) (by simpa using c2)
 have hk1 : 0 ≤ (AO.place opt).1 ∧ (AO.place opt).1 < 3 := by rcases hk with ⟨_, e⟩ | ⟨_, e⟩ <;> rw [e] <;> decide
 have ho : 0 ≤ opt ∧ opt ≤ 255 := by rcases hk with ⟨e, _⟩ | ⟨e, _⟩ <;> omega
 refine Gs (Gm rfl (Gt (Ah JU rfl) ?_))
 refine Gt (AR KK rfl rfl (by omega) (by omega)) ?_
 refine Gt (AF rfl A1 .m1 (AO.l4.comp (AS.ar (n := 3) Bz (by omega))) rfl rfl) ?_
 refine Gt (CT rfl rfl) (Ga rfl (Gn (.t5 1 2 4 7 25) ?_))
 refine Gc (fun c3 => ?_) (fun c3 => ?_)
 ·
  refine Gs (Gt (AZ rfl Dq .m1 (AS.id AO.fl.len AO.fl.one) rfl) ?_)
  refine AQ (AK (AS.id AO.fl.len AO.fl.one) rfl rfl rfl Jr rfl .h) ?_
  refine Ga rfl (Ga rfl (Gn (.t3 4 5 6) (Ac (AP (AD ?_)))))
  refine AY rfl (.cell rfl .m0 (.inl ⟨(by rw [AO.fl.len]; exact Dq), rfl⟩) (.tmp rfl (.tmp rfl .n))) ?_
  intro w1 hS; refine ⟨?_, hS.Am⟩; simp only [AO.Ask, c1, c2, c3, ↓reduceIte, Bool.false_eq_true]; rfl
 have c3p := kz c3
 refine Aa ?_
 refine AB (.t4 1 2 4 7) ?_
 refine AU (AA (Gs (Gm rfl (Gt (Ah JU rfl) ?_))))
 refine Gt (AR KK rfl rfl (by omega) (by omega)) ?_
 refine AQ (AK (AO.l4.comp (AS.ar (n := 3) Bz (by omega))) rfl rfl rfl C5 rfl (.t .h)) ?_
 refine Gn (.t3 1 2 4) (Ao ?_)
 refine BE (N := 6) [0, 0, 2, 7, 15, 31] mix (by kernel_rfl) rfl ?_
 refine Pf 0 rfl (AZ rfl Dq .m1 (AS.id AO.fl.len AO.fl.one) rfl) (Pf 1 rfl (AE rfl) ?_)
 refine BW 2 rfl rfl (by kernel_rfl) (LH (Ka (Dv RF (.c rfl (.c rfl .n)) (fun w hS => Cu _ _ (by first | assumption | omega) (by first | assumption | omega) w)))) ?_
 refine An 3 rfl (by kernel_rfl) ?_
 refine AQ (AK (AS.id AO.fl.len AO.fl.one) rfl rfl rfl Jr rfl .h) ?_
 refine BK rfl ⟨?_, ?_⟩
 · exact (Pk (Pk (Pk As)))
 refine Pf 4 rfl (Az rfl) (Pf 5 rfl (Az rfl) ?_)
 refine A3 (by kernel_rfl) ?_
 refine AB (.t3 4 5 6) ?_
 refine AA (Ac ?_)
 refine AY rfl (.cell rfl .m0 (.inl ⟨(by rw [AO.fl.len]; exact Dq), rfl⟩) (.tmp rfl (.tmp rfl .n))) ?_
 intro w1 hS; refine ⟨?_, hS.Am⟩; simp only [AO.Ask, c1, c2, c3, ↓reduceIte, Bool.false_eq_true]; rfl
theorem P4 (b : Nat) (V : AH) (ls : Vector BG 4) (ev : List Ing.Event) (k : Int) (n m : Nat) (hk : 0 ≤ k ∧ k < 4) (hF : AN.Fit (A2 V ls ev) n m) (hn : n ≤ 500000) (hm : m ≤ 500000) : Ev Tryz.prog 61 #[.pointer (some ⟨b, 0, none⟩), .pointer (some ⟨b, 165 + k.toNat * 22, none⟩)] [Ab.box b 101 (AH.enc V), Ab.C3 (Bt 9 (AH.Ap V) ls), Ab.own (AH.last V) 56 16 ((ev).flatMap Ing.Event.enc)] (fun w => (GV 2 E7 w ∧ 2 ∉ CR [Ab.box b 101 (AH.enc V), Ab.C3 (Bt 9 (AH.Ap V) ls), Ab.own (AH.last V) 56 16 ((ev).flatMap Ing.Event.enc)]) ∧ (GV 0 AI.C2 w ∧ 0 ∉ CR [Ab.box b 101 (AH.enc V), Ab.C3 (Bt 9 (AH.Ap V) ls), Ab.own (AH.last V) 56 16 ((ev).flatMap Ing.Event.enc)]) ∧ (F2 7 w ∧ 7 ∉ CR [Ab.box b 101 (AH.enc V), Ab.C3 (Bt 9 (AH.Ap V) ls), Ab.own (AH.last V) 56 16 ((ev).flatMap Ing.Event.enc)]) ∧ (F2 8 w ∧ 8 ∉ CR [Ab.box b 101 (AH.enc V), Ab.C3 (Bt 9 (AH.Ap V) ls), Ab.own (AH.last V) 56 16 ((ev).flatMap Ing.Event.enc)])) (fun v B => ∃ V' ls' ev', v = .tuple #[] ∧ A2 V' ls' ev' = AN.RG (A2 V ls ev) k ∧ B = [Ab.box b 101 (AH.enc V'), Ab.C3 (Bt 9 (AH.Ap V') ls'), Ab.own (AH.last V') 56 16 ((ev').flatMap Ing.Event.enc)]) := by
 intro w hS0 hH
 obtain ⟨⟨gl0, gm0⟩, ⟨gl1, gm1⟩, ⟨gl2, gm2⟩, ⟨gl3, gm3⟩⟩ := hH
 refine Ai _ _ Tryz.func61 rfl rfl rfl (hS0) ?_
 refine Ao ?_
 refine Eu (k := k) hk.1 hk.2 (fun sv sl hsv hlv hln => ?_)
 refine AJ (Gm rfl (Gt (BD Ty Up rfl (.cons A0.l0 rfl rfl rfl (.cons A0.l1 rfl rfl rfl .nil))) (Gt (BS rfl) ?_)))
 refine AQ (AK (AS.BL V hk.1 hk.2) rfl rfl rfl Rp rfl (.t (.t (.t .h)))) ?_
 refine Gn (.t2 0 1) (CB ?_)
 refine Gt (Em Tryz.underlying145 C5 ZR rfl (.cons (AS.arr (n := 2) (i := 0) Bz (by decide) (by decide)) rfl rfl rfl (.cons (AS.arr (n := 2) (i := 1) Bz (by decide) (by decide)) rfl rfl rfl .nil))) ?_
 refine Gm rfl (AM (AA (Ae ?_)))
 refine Bf (.t4 12 0 1 11) ?_
 refine BU (.t (.t (.t .h))) ?_
 refine Dh (fun (j : Int) (t : AO) (g : Page.Pg) => 0 ≤ j ∧ j ≤ 2 ∧ t = (Ej j.toNat).1 ∧ g = (Ej j.toNat).2) (fun (j : Int) (t : AO) (g : Page.Pg) => (2 - j).toNat) (fun (j : Int) (t : AO) (g : Page.Pg) => [(12, .int .i64 j)]) (fun (j : Int) (t : AO) (g : Page.Pg) => [Ab.box b 101 (I4 V k (EB t g))]) (0) (default) (⟨0, false, [], false⟩) ?_ rfl rfl (fun j t g hI1 => ?_)
 · exact ⟨by omega, by omega, rfl, rfl⟩
 obtain ⟨hI11, hI12, hI13, hI14⟩ := hI1
 refine Gs (Gt (A5 rfl rfl) (AM (AA (Ao ?_))))
 refine Gc (fun c1 => ?_) (fun c1 => ?_)
 ·
  have c1p := kz c1
  refine Aa ?_
  refine AB (.t4 0 1 11 12) ?_
  refine AA (Ao (Ae (Gs ?_)))
  refine Gt (JY Bz Tryz.underlying145 C5 A1 rfl rfl (by first | omega | exact hk.1 | exact hk.2 | (have h1 := FD t (Dk j); have h2 := HN (t.DD (Dk j)).1 (Dk j); dsimp only [Dk, EB] at *; (try simp only [List.length_nil]); omega)) (by first | omega | exact hk.1 | exact hk.2 | (have h1 := FD t (Dk j); have h2 := HN (t.DD (Dk j)).1 (Dk j); dsimp only [Dk, EB] at *; (try simp only [List.length_nil]); omega)) rfl) ?_
  refine Ga rfl (Gn (.t5 0 1 5 11 12) (Gs (Ga rfl (Ga rfl (Gn (.t6 0 1 5 7 11 12) (CB (Gm rfl ?_)))))))
  refine Gm rfl (Gt (BS rfl) (Gt (Ah KZ rfl) (Gt (AZ rfl Dq .m0 ((AS.BL V hk.1 hk.2).comp A0.l2) rfl) (Gm rfl ?_))))
  refine A8 rfl ba (.c rfl (.c rfl .n)) (fun w hS => LJ _ _ w) ?_
  refine Gm rfl (Gt (AL rfl rfl) (Gt (AL rfl rfl) (Gt (AL rfl rfl) (Gt (BS rfl) (Gt (Ah KZ rfl) ?_)))))
  refine AQ (AK ((AS.BL V hk.1 hk.2).comp A0.l2) rfl rfl rfl Jr rfl .h) ?_
  refine Ga rfl (Gn (.t7 0 1 5 6 7 11 12) (Gs (Gm rfl (Gt (Bo rfl rfl) (Gn (.t8 0 1 5 6 7 11 12 29) ?_)))))
  refine Gc (fun c2 => ?_) (fun c2 => ?_)
  ·
   have c2p := kz c2
   refine AJ (Gm rfl (Gm rfl (Gt (BS rfl) (Gt (Ah KZ rfl) (Gt (AZ rfl Dq .m0 ((AS.BL V hk.1 hk.2).comp A0.l2) rfl) (Gm rfl ?_))))))
   refine A8 rfl bh (.c rfl (.c rfl .n)) (fun w hS => MZ _ _ w) ?_
   refine Gm rfl (Gt (AL rfl rfl) (Gt (AL rfl rfl) (Gt (AL rfl rfl) (Gt (BS rfl) (Gt (Ah KZ rfl) ?_)))))
   refine AQ (AK ((AS.BL V hk.1 hk.2).comp A0.l2) rfl rfl rfl Jr rfl .h) ?_
   refine Ga rfl (Gn (.t6 0 1 6 7 11 12) (AJ (Gm rfl (Gm rfl (Gt (BS rfl) (Gt (Ah Df rfl) (Gt (AZ rfl Cm .m0 ((AS.BL V hk.1 hk.2).comp A0.l4) rfl) ?_)))))))
   refine Gm rfl (Gm rfl ?_)
   refine Gt (CQ rfl rfl (by first | omega | exact hk.1 | exact hk.2 | (have h1 := FD t (Dk j); have h2 := HN (t.DD (Dk j)).1 (Dk j); dsimp only [Dk, EB] at *; (try simp only [List.length_nil]); omega))) ?_
   refine A8 rfl WG (.c rfl (.c rfl .n)) (fun w hS => ED _ _ (by simp only [List.length_append]; have h1 := FD t (Dk j); have h2 := HN (t.DD (Dk j)).1 (Dk j); dsimp only [Dk, EB] at *; (try simp only [List.length_nil]); omega) w) ?_
   refine Gm rfl (Gt (AL rfl rfl) (Gt (AL rfl rfl) (Gt (BS rfl) (Gt (Ah Df rfl) ?_))))
   refine AQ (AK ((AS.BL V hk.1 hk.2).comp A0.l4) rfl rfl rfl Ez rfl .h) ?_
   refine AM (AB (.t4 0 1 11 12) ?_)
   refine AU (AA ?_)
   refine Fc (fun _ => .h) (congrArg (I4 V k) (show _ = EB (Hu t (Dk j)) (KC t g (Dk j)) from by rw [EB, KC, show Hu t (Dk j) = _ from BC c2, show Ll t (Dk j) = _ from BC c2]; rfl)) ?_
   refine AJ ?_
   refine Gt (Aw rfl rfl (IntWalk.i64_in _ (by first | omega | exact hk.1 | exact hk.2 | (have h1 := FD t (Dk j); have h2 := HN (t.DD (Dk j)).1 (Dk j); dsimp only [Dk, EB] at *; (try simp only [List.length_nil]); omega)))) ?_
   refine Gm rfl ?_
   refine AM (AB (.t4 0 1 11 12) ?_)
   refine Bu (j + 1) _ _ ?_ ?_ (.t4 12 0 1 11) (.refl _)
   · exact ⟨by omega, by omega, by rw [Gg hI11, ← hI13, ← hI14], by rw [Gg hI11, ← hI13, ← hI14]⟩
   · omega
  have c2p := kz c2
  refine Aa ?_
  refine AB (.t6 0 1 6 7 11 12) ?_
  refine AA (AJ (Gm rfl (Gm rfl (Gt (BS rfl) (Gt (Ah Df rfl) (Gt (AZ rfl Cm .m0 ((AS.BL V hk.1 hk.2).comp A0.l4) rfl) (Gm rfl ?_)))))))
  refine Gm rfl ?_
  refine Gt (CQ rfl rfl (by first | omega | exact hk.1 | exact hk.2 | (have h1 := FD t (Dk j); have h2 := HN (t.DD (Dk j)).1 (Dk j); dsimp only [Dk, EB] at *; (try simp only [List.length_nil]); omega))) ?_
  refine A8 rfl WG (.c rfl (.c rfl .n)) (fun w hS => ED _ _ (by simp only [List.length_append]; have h1 := FD t (Dk j); have h2 := HN (t.DD (Dk j)).1 (Dk j); dsimp only [Dk, EB] at *; (try simp only [List.length_nil]); omega) w) ?_
  refine Gm rfl (Gt (AL rfl rfl) (Gt (AL rfl rfl) (Gt (BS rfl) (Gt (Ah Df rfl) ?_))))
  refine AQ (AK ((AS.BL V hk.1 hk.2).comp A0.l4) rfl rfl rfl Ez rfl .h) ?_
  refine AM (AB (.t4 0 1 11 12) ?_)
  refine AU (AA ?_)
  refine Fc (fun _ => .h) (congrArg (I4 V k) (show _ = EB (Hu t (Dk j)) (KC t g (Dk j)) from by rw [EB, KC, show Hu t (Dk j) = _ from AV c2, show Ll t (Dk j) = _ from AV c2]; rfl)) ?_
  refine AJ ?_
  refine Gt (Aw rfl rfl (IntWalk.i64_in _ (by first | omega | exact hk.1 | exact hk.2 | (have h1 := FD t (Dk j); have h2 := HN (t.DD (Dk j)).1 (Dk j); dsimp only [Dk, EB] at *; (try simp only [List.length_nil]); omega)))) ?_
  refine Gm rfl ?_
  refine AM (AB (.t4 0 1 11 12) ?_)
  refine Bu (j + 1) _ _ ?_ ?_ (.t4 12 0 1 11) (.refl _)
  · exact ⟨by omega, by omega, by rw [Gg hI11, ← hI13, ← hI14], by rw [Gg hI11, ← hI13, ← hI14]⟩
  · omega
 have c1p := kz c1
 obtain rfl : j = 2 := by omega
 refine BV (AT (AT (Af ?_)))
 refine AB (.t2 0 1) ?_
 refine AA (Ao ?_)
 refine Et A4 9 1 ?_
 refine Et A4 9 1 ?_
 refine Et A4 9 1 ?_
 refine D9 (.c (.t (.t .h)) (.c (.t .h) (.c .h (.c .h (.c (.t (.t (.t .h))) .n))))) ?_
 refine GY hk.1 hk.2 (by rfl) (by rfl) (by rfl) ?_
 refine AJ (Gm rfl (Gm rfl ?_))
 refine Ag rfl SK (.c rfl (.c rfl (.c rfl .n))) (.c .h (.c .h (.c (.t (.t (.t .h))) .n))) (D7 _ (AH.BL V k (EB t g)) (ls.put k ⟨[], [], []⟩) ev k _ hk (by rw [Vector.CN hk.1 hk.2]; exact Nat.zero_le _)) (fun v4 B hv => ?_)
 obtain ⟨y5, y6, y7, rfl, y8, rfl⟩ := hv
 refine Gn (.t1 0) (AJ (Gm rfl ?_))
 refine BF rfl Qw (.c rfl .n) (.c .h (.c .h (.c .h .n))) (Dj _ y5 y6 y7 (n + 1) m (by rw [y8, (show A2 (AH.BL V k (EB t g)) (ls.put k ⟨[], [], []⟩) ev = AN.set (A2 V ls ev) k (Ch (EB t g) XA) from H3 V ls ev hk.1 hk.2 _ _)]; exact (hF.comes hk.1 hk.2 t g).tell hk.1 hk.2 (show AN.Hf.length ≤ _ by decide)) (by omega) (by omega)) (fun w hS => ⟨gl0.pull gm0 hS (.c .h (.c .h (.c .h .n))), gl1.pull gm1 hS (.c .h (.c .h (.c .h .n))), gl2.pull gm2 hS (.c .h (.c .h (.c .h .n))), gl3.pull gm3 hS (.c .h (.c .h (.c .h .n)))⟩) (fun v9 B hv => ?_)
 obtain ⟨y10, y11, y12, rfl, y13, rfl⟩ := hv
 refine AM ?_
 refine Bh rfl .n ?_
 intro w1 hS
 have hS := (hS.perm (Av.perm (.c .h (.c .h (.c .h .n))))).Ay
 refine ⟨_, ⟨y10, y11, y12, rfl, ?ga1, rfl⟩, hS⟩
 case ga1 => rw [y13, y8, (show A2 (AH.BL V k (EB t g)) (ls.put k ⟨[], [], []⟩) ev = AN.set (A2 V ls ev) k (Ch (EB t g) XA) from H3 V ls ev hk.1 hk.2 _ _), hI13, hI14]; unfold AN.RG; rw [← NT]; rfl
theorem Eh {α : Type} {ea : α → List Value} {o : Nat} {g : α → Int} {st : α → Int → α} (b V : Nat) (Y : α) (on : Bool) (opt yes no : Int) (h0 : 0 ≤ yes ∧ yes ≤ 255) (h1 : 0 ≤ no ∧ no ≤ 255) (h2 : 0 ≤ opt ∧ opt ≤ 255) (ln : AS ea Ax o 1 g st) : Ic Tryz.prog 75 #[.pointer (some ⟨b, o, none⟩), .bool on, .int .i64 opt, .int .i64 yes, .int .i64 no] [Ab.box b V (ea Y)] (fun v B => v = BO (AO.ID (g Y) on opt yes no) ∧ B = [Ab.box b V (ea (st Y (AO.Xl on)))]) := by
 intro w hS0
 refine Ai _ _ Tryz.func75 rfl rfl rfl (hS0) ?_
 refine Gs (Ga rfl (Gn (.t5 0 1 2 3 4) (Gs (Gm rfl (Gt (BS rfl) (Gt (AF rfl A1 .m0 ln rfl rfl) (Ga rfl ?_)))))))
 refine Gn (.t6 0 1 2 3 4 11) (Gs (Gm rfl (Gt (BS rfl) ?_)))
 refine AQ (AK ln rfl rfl rfl C5 rfl .h) ?_
 refine Gn (.t6 0 1 2 3 4 11) (CB (Gm rfl (AM (AA ?_))))
 refine Gc (fun c1 => ?_) (fun c1 => ?_)
 ·
  have c1p := kz c1
  refine AJ (Gm rfl (Gt (BS rfl) ?_))
  refine AQ (AK ln rfl rfl rfl C5 rfl .h) ?_
  refine Gn (.t5 1 2 3 4 11) (Ao (Ae (Gs (Gm rfl (Gm rfl (Ba 22 rfl rfl (fun q => AE rfl) (Ba 22 rfl rfl (fun q => Aj (BX rfl q) rfl) ?_)))))))
  refine Gt (BH rfl rfl (fun h => h)) (Ga rfl (Gn (.t6 1 2 3 4 11 20) ?_))
  refine Gc (fun c2 => ?_) (fun c2 => ?_)
  ·
   have c2p := kz c2
   refine Gs (Gm rfl (Gm rfl ?_))
   refine A8 rfl RF (.c rfl (.c rfl .n)) (fun w hS => Cu _ _ (by first | assumption | omega) (by first | assumption | omega) w) ?_
   refine Ga rfl (Gn (.t1 10) (Ac (AP (AD ?_))))
   refine AY rfl (.tmp rfl .n) ?_
   intro w1 hS
   have hS := (hS.perm (Av.perm (.c .h .n))).Ay
   exact ⟨_, ⟨by clear hS; simp_all [AO.ID, Tr], by simp only [AO.Xl, ln.JW, c1, c2, ↓reduceIte, Bool.false_eq_true]⟩, hS⟩
  have c2p := kz c2
  refine Gs (Gm rfl (Gt (BQ rfl) (Gm rfl (Ba 32 rfl rfl (fun q => AE rfl) (Ba 32 rfl rfl (fun q => Aj (BX rfl q) rfl) (Gt (BH rfl rfl (fun h => h)) (Ga rfl ?_)))))))
  refine Gn (.t3 2 4 29) ?_
  refine Gc (fun c3 => ?_) (fun c3 => ?_)
  ·
   have c3p := kz c3
   refine Gs (Gm rfl (Gm rfl ?_))
   refine A8 rfl RF (.c rfl (.c rfl .n)) (fun w hS => Cu _ _ (by first | assumption | omega) (by first | assumption | omega) w) ?_
   refine Ga rfl (Gn (.t1 10) (Ac (AP (AD ?_))))
   refine AY rfl (.tmp rfl .n) ?_
   intro w1 hS
   have hS := (hS.perm (Av.perm (.c .h .n))).Ay
   exact ⟨_, ⟨by clear hS; simp_all [AO.ID, Tr], by simp only [AO.Xl, ln.JW, c1, c2, c3, ↓reduceIte, Bool.false_eq_true]⟩, hS⟩
  have c3p := kz c3
  refine Aa ?_
  refine AB (.nil _) ?_
  refine AU (AA (Gs (Ga rfl (AM (AA (Ac ?_))))))
  refine AY rfl (.tmp rfl .n) ?_
  intro w1 hS
  have hS := (hS.perm (Av.perm (.c .h .n))).Ay
  exact ⟨_, ⟨by clear hS; simp_all [AO.ID, Tr], by simp only [AO.Xl, ln.JW, c1, c2, c3, ↓reduceIte, Bool.false_eq_true]⟩, hS⟩
 have c1p := kz c1
 refine Aa ?_
 refine AB (.t5 1 2 3 4 11) ?_
 refine AA (Ao (Ae (Gs (Gm rfl (Gm rfl (Ba 22 rfl rfl (fun q => AE rfl) (Ba 22 rfl rfl (fun q => Aj (BX rfl q) rfl) ?_)))))))
 refine Gt (BH rfl rfl (fun h => h)) (Ga rfl (Gn (.t6 1 2 3 4 11 20) ?_))
 refine Gc (fun c4 => ?_) (fun c4 => ?_)
 ·
  have c4p := kz c4
  refine Gs (Gm rfl (Gm rfl ?_))
  refine A8 rfl RF (.c rfl (.c rfl .n)) (fun w hS => Cu _ _ (by first | assumption | omega) (by first | assumption | omega) w) ?_
  refine Ga rfl (Gn (.t1 10) (Ac (AP (AD ?_))))
  refine AY rfl (.tmp rfl .n) ?_
  intro w1 hS
  have hS := (hS.perm (Av.perm (.c .h .n))).Ay
  exact ⟨_, ⟨by clear hS; simp_all [AO.ID, Tr], by simp only [AO.Xl, ln.JW, c1, c4, ↓reduceIte, Bool.false_eq_true]⟩, hS⟩
 have c4p := kz c4
 refine Gs (Gm rfl (Gt (BQ rfl) (Gm rfl (Ba 32 rfl rfl (fun q => AE rfl) (Ba 32 rfl rfl (fun q => Aj (BX rfl q) rfl) (Gt (BH rfl rfl (fun h => h)) (Ga rfl ?_)))))))
 refine Gn (.t3 2 4 29) ?_
 refine Gc (fun c5 => ?_) (fun c5 => ?_)
 ·
  have c5p := kz c5
  refine Gs (Gm rfl (Gm rfl ?_))
  refine A8 rfl RF (.c rfl (.c rfl .n)) (fun w hS => Cu _ _ (by first | assumption | omega) (by first | assumption | omega) w) ?_
  refine Ga rfl (Gn (.t1 10) (Ac (AP (AD ?_))))
  refine AY rfl (.tmp rfl .n) ?_
  intro w1 hS
  have hS := (hS.perm (Av.perm (.c .h .n))).Ay
  exact ⟨_, ⟨by clear hS; simp_all [AO.ID, Tr], by simp only [AO.Xl, ln.JW, c1, c4, c5, ↓reduceIte, Bool.false_eq_true]⟩, hS⟩
 have c5p := kz c5
 refine Aa ?_
 refine AB (.nil _) ?_
 refine AU (AA (Gs (Ga rfl (AM (AA (Ac ?_))))))
 refine AY rfl (.tmp rfl .n) ?_
 intro w1 hS
 have hS := (hS.perm (Av.perm (.c .h .n))).Ay
 exact ⟨_, ⟨by clear hS; simp_all [AO.ID, Tr], by simp only [AO.Xl, ln.JW, c1, c4, c5, ↓reduceIte, Bool.false_eq_true]⟩, hS⟩
theorem Ix (b : Nat) (X : AO) (verb opt : Int) (h0 : 0 ≤ opt ∧ opt ≤ 255) : Ic Tryz.prog 56 #[.pointer (some ⟨b, 0, none⟩), .int .i64 verb, .int .i64 opt] [Ab.box b 69 X.enc] (fun v B => v = BO (X.B0 verb opt).2 ∧ B = [Ab.box b 69 (X.B0 verb opt).1.enc]) := by
 intro w hS0
 refine Ai _ _ Tryz.func56 rfl rfl rfl (hS0) ?_
 refine Gs (Ga rfl (Gn (.t3 0 1 2) (Gs (Gm rfl ?_))))
 refine A8 rfl Y2 (.c rfl .n) (fun w hS => FN _ w) ?_
 refine Gm rfl (Gt (AL rfl rfl) (Gt (AL rfl rfl) (Gt (AL rfl rfl) (Ga rfl (Ga rfl (Ga rfl (Gn (.t6 0 1 2 7 8 9) ?_)))))))
 refine CB (Gm rfl (Gn (.t6 0 2 7 8 9 16) (Ae (Gs (Gt (Aj rfl rfl) (Ga rfl (Gn (.t7 0 2 7 8 9 16 17) ?_)))))))
 refine Gc (fun c1 => ?_) (fun c1 => ?_)
 ·
  have c1p := kz c1
  refine CB (Gm rfl (Gt (BQ rfl) (Gn (.t4 0 2 7 20) ?_)))
  refine Gc (fun c2 => ?_) (fun c2 => ?_)
  ·
   have c2p := kz c2
   refine Gs (Gm rfl ?_)
   refine A8 rfl RF (.c rfl (.c rfl .n)) (fun w hS => Cu _ _ (by first | assumption | omega) (by first | assumption | omega) w) ?_
   refine Ga rfl (Gn (.t1 6) (Ac (AD (AP (AD ?_)))))
   refine AY rfl (.tmp rfl .n) ?_
   intro w1 hS
   have hS := (hS.perm (Av.perm (.c .h .n))).Ay
   exact ⟨_, ⟨by simp only [AO.B0, c1, c2, ↓reduceIte, Bool.false_eq_true] <;> rfl, by simp only [AO.B0, c1, c2, ↓reduceIte, Bool.false_eq_true] <;> rfl⟩, hS⟩
  have c2p := kz c2
  have hk := AO.NX (opt := opt) (by simpa using c2)
  have hk1 : 0 ≤ (AO.place opt).1 ∧ (AO.place opt).1 < 3 := by rcases hk with ⟨_, e⟩ | ⟨_, e⟩ <;> rw [e] <;> decide
  refine Aa ?_
  refine AB (.t3 0 2 7) ?_
  refine AA (Gs (Gm rfl (Gm rfl (Gt (BS rfl) (Gt (Ah KB rfl) ?_)))))
  refine Gt (AR KK rfl rfl (by omega) (by omega)) ?_
  refine Gm rfl ?_
  refine Ag rfl Xa (.c rfl (.c rfl (.c rfl (.c rfl (.c rfl .n))))) (.c .h .n) (Eh _ _ _ _ _ _ _ (by first | assumption | omega) (by first | assumption | omega) (by first | assumption | omega) (AO.l3.comp (AS.ar (n := 3) Bz (by omega)))) (fun v1 B hv => ?_)
  obtain ⟨rfl, rfl⟩ := hv
  refine Ga rfl (Gn (.t1 6) (Ac (AP (AD ?_))))
  refine AY rfl (.tmp rfl .n) ?_
  intro w1 hS
  have hS := (hS.perm (Av.perm (.c .h .n))).Ay
  exact ⟨_, ⟨by simp only [AO.B0, c1, c2, ↓reduceIte, Bool.false_eq_true] <;> rfl, by simp only [AO.B0, c1, c2, ↓reduceIte, Bool.false_eq_true] <;> rfl⟩, hS⟩
 have c1p := kz c1
 refine Gs (Gt (Aj rfl rfl) (Ga rfl (Gn (.t7 0 2 7 8 9 16 30) ?_)))
 refine Gc (fun c3 => ?_) (fun c3 => ?_)
 ·
  have c3p := kz c3
  refine Gs (Gm rfl (Gn (.t4 0 2 7 32) ?_))
  refine Gc (fun c4 => ?_) (fun c4 => ?_)
  ·
   have c4p := kz c4
   have hk := AO.NX (opt := opt) (by simpa using c4)
   have hk1 : 0 ≤ (AO.place opt).1 ∧ (AO.place opt).1 < 3 := by rcases hk with ⟨_, e⟩ | ⟨_, e⟩ <;> rw [e] <;> decide
   refine Gs (Gm rfl (Gm rfl (Gt (BS rfl) (Gt (Ah KB rfl) ?_))))
   refine Gt (AR KK rfl rfl (by omega) (by omega)) ?_
   refine Gm rfl ?_
   refine Ag rfl Xa (.c rfl (.c rfl (.c rfl (.c rfl (.c rfl .n))))) (.c .h .n) (Eh _ _ _ _ _ _ _ (by first | assumption | omega) (by first | assumption | omega) (by first | assumption | omega) (AO.l3.comp (AS.ar (n := 3) Bz (by omega)))) (fun v2 B hv => ?_)
   obtain ⟨rfl, rfl⟩ := hv
   refine Ga rfl (Gn (.t1 6) (Ac (AP (AD ?_))))
   refine AY rfl (.tmp rfl .n) ?_
   intro w1 hS
   have hS := (hS.perm (Av.perm (.c .h .n))).Ay
   exact ⟨_, ⟨by simp only [AO.B0, c1, c3, c4, ↓reduceIte, Bool.false_eq_true] <;> rfl, by simp only [AO.B0, c1, c3, c4, ↓reduceIte, Bool.false_eq_true] <;> rfl⟩, hS⟩
  refine Aa ?_
  refine AB (.nil _) ?_
  refine AU (AA (Gs (Ga rfl (AM (AA (Ac ?_))))))
  refine AY rfl (.tmp rfl .n) ?_
  intro w1 hS
  have hS := (hS.perm (Av.perm (.c .h .n))).Ay
  exact ⟨_, ⟨by simp only [AO.B0, c1, c3, c4, ↓reduceIte, Bool.false_eq_true] <;> rfl, by simp only [AO.B0, c1, c3, c4, ↓reduceIte, Bool.false_eq_true] <;> rfl⟩, hS⟩
 have c3p := kz c3
 refine Gs (Gt (Aj rfl rfl) (Ga rfl (Gn (.t6 0 2 7 9 16 40) ?_)))
 refine Gc (fun c5 => ?_) (fun c5 => ?_)
 ·
  have c5p := kz c5
  refine CB (Gm rfl (Gt (BQ rfl) (Gn (.t4 0 2 7 43) ?_)))
  refine Gc (fun c6 => ?_) (fun c6 => ?_)
  ·
   have c6p := kz c6
   refine Gs (Gm rfl ?_)
   refine A8 rfl RF (.c rfl (.c rfl .n)) (fun w hS => Cu _ _ (by first | assumption | omega) (by first | assumption | omega) w) ?_
   refine Ga rfl (Gn (.t1 6) (Ac (AD (AP (AD ?_)))))
   refine AY rfl (.tmp rfl .n) ?_
   intro w1 hS
   have hS := (hS.perm (Av.perm (.c .h .n))).Ay
   exact ⟨_, ⟨by simp only [AO.B0, c1, c3, c5, c6, ↓reduceIte, Bool.false_eq_true] <;> rfl, by simp only [AO.B0, c1, c3, c5, c6, ↓reduceIte, Bool.false_eq_true] <;> rfl⟩, hS⟩
  have c6p := kz c6
  have hk := AO.KJ (opt := opt) (by simpa using c6)
  have hk1 : 0 ≤ (AO.place opt).1 ∧ (AO.place opt).1 < 3 := by rcases hk with ⟨_, e⟩ | ⟨_, e⟩ <;> rw [e] <;> decide
  refine Aa ?_
  refine AB (.t3 0 2 7) ?_
  refine AA (Gs (Gm rfl (Gm rfl (Gt (BS rfl) (Gt (Ah JU rfl) ?_)))))
  refine Gt (AR KK rfl rfl (by omega) (by omega)) ?_
  refine Gm rfl ?_
  refine Ag rfl Xa (.c rfl (.c rfl (.c rfl (.c rfl (.c rfl .n))))) (.c .h .n) (Eh _ _ _ _ _ _ _ (by first | assumption | omega) (by first | assumption | omega) (by first | assumption | omega) (AO.l4.comp (AS.ar (n := 3) Bz (by omega)))) (fun v3 B hv => ?_)
  obtain ⟨rfl, rfl⟩ := hv
  refine Ga rfl (Gn (.t1 6) (Ac (AP (AD ?_))))
  refine AY rfl (.tmp rfl .n) ?_
  intro w1 hS
  have hS := (hS.perm (Av.perm (.c .h .n))).Ay
  exact ⟨_, ⟨by simp only [AO.B0, c1, c3, c5, c6, ↓reduceIte, Bool.false_eq_true] <;> rfl, by simp only [AO.B0, c1, c3, c5, c6, ↓reduceIte, Bool.false_eq_true] <;> rfl⟩, hS⟩
 have c5p := kz c5
 refine Gs (Gt (Aj rfl rfl) (Ga rfl (Gn (.t5 0 2 7 9 53) ?_)))
 refine Gc (fun c7 => ?_) (fun c7 => ?_)
 ·
  have c7p := kz c7
  refine Gs (Gm rfl (Gn (.t4 0 2 7 55) ?_))
  refine Gc (fun c8 => ?_) (fun c8 => ?_)
  ·
   have c8p := kz c8
   have hk := AO.KJ (opt := opt) (by simpa using c8)
   have hk1 : 0 ≤ (AO.place opt).1 ∧ (AO.place opt).1 < 3 := by rcases hk with ⟨_, e⟩ | ⟨_, e⟩ <;> rw [e] <;> decide
   refine Gs (Gm rfl (Gm rfl (Gt (BS rfl) (Gt (Ah JU rfl) ?_))))
   refine Gt (AR KK rfl rfl (by omega) (by omega)) ?_
   refine Gm rfl ?_
   refine Ag rfl Xa (.c rfl (.c rfl (.c rfl (.c rfl (.c rfl .n))))) (.c .h .n) (Eh _ _ _ _ _ _ _ (by first | assumption | omega) (by first | assumption | omega) (by first | assumption | omega) (AO.l4.comp (AS.ar (n := 3) Bz (by omega)))) (fun v4 B hv => ?_)
   obtain ⟨rfl, rfl⟩ := hv
   refine Ga rfl (Gn (.t1 6) (Ac (AP (AD ?_))))
   refine AY rfl (.tmp rfl .n) ?_
   intro w1 hS
   have hS := (hS.perm (Av.perm (.c .h .n))).Ay
   exact ⟨_, ⟨by simp only [AO.B0, c1, c3, c5, c7, c8, ↓reduceIte, Bool.false_eq_true] <;> rfl, by simp only [AO.B0, c1, c3, c5, c7, c8, ↓reduceIte, Bool.false_eq_true] <;> rfl⟩, hS⟩
  refine Aa ?_
  refine AB (.nil _) ?_
  refine AU (AA (Gs (Ga rfl (AM (AA (Ac ?_))))))
  refine AY rfl (.tmp rfl .n) ?_
  intro w1 hS
  have hS := (hS.perm (Av.perm (.c .h .n))).Ay
  exact ⟨_, ⟨by simp only [AO.B0, c1, c3, c5, c7, c8, ↓reduceIte, Bool.false_eq_true] <;> rfl, by simp only [AO.B0, c1, c3, c5, c7, c8, ↓reduceIte, Bool.false_eq_true] <;> rfl⟩, hS⟩
 refine Aa ?_
 refine AB (.nil _) ?_
 refine AU (AA (Gs (Ga rfl (AM (AA (Ac ?_))))))
 refine AY rfl (.tmp rfl .n) ?_
 intro w1 hS
 have hS := (hS.perm (Av.perm (.c .h .n))).Ay
 exact ⟨_, ⟨by simp only [AO.B0, c1, c3, c5, c7, ↓reduceIte, Bool.false_eq_true] <;> rfl, by simp only [AO.B0, c1, c3, c5, c7, ↓reduceIte, Bool.false_eq_true] <;> rfl⟩, hS⟩
theorem GU (b : Nat) (X : AO) (c : UInt8) (h0 : X.sub.length ≤ 16) : Ic Tryz.prog 57 #[.pointer (some ⟨b, 0, none⟩), .int .u8 (c.toNat : Int)] [Ab.box b 69 X.enc] (fun v B => v = .tuple #[] ∧ B = [Ab.box b 69 (X.collect c).enc]) := by
 intro w hS0
 refine Ai _ _ Tryz.func57 rfl rfl rfl (hS0) ?_
 refine Gs (Gm rfl (Gt (BS rfl) (Gt (Ah GK rfl) (Gt (AF rfl CC .m0 AO.l2 rfl rfl) (Gt (BI rfl Tryz.underlying9 rfl) (Gt (A5 rfl rfl) (Gn (.t3 0 1 9) ?_)))))))
 refine Gc (fun c1 => ?_) (fun c1 => ?_)
 ·
  have c1p := kz c1
  refine BE (N := 11) [0, 1, 3, 7, 0, 16, 48, 127, 255, 511, 1023] mix (by kernel_rfl) rfl ?_
  refine Pf 0 rfl (AE rfl) (Pf 1 rfl (BS rfl) (Pf 2 rfl (Ah GK rfl) (Pf 3 rfl (AF rfl CC .m0 AO.l2 rfl rfl) (Pf 4 rfl (AE rfl) ?_))))
  refine An 5 rfl (by kernel_rfl) ?_
  refine SW rfl Tryz.underlying105 Us YT rfl (by decide) (by decide) rfl rfl rfl (fun b1 => ?_)
  refine Bm rfl ⟨?_, ?_⟩
  · exact (Pk (Po rfl (AF rfl CC .m1 AO.l2 rfl rfl) rfl rfl (Po rfl (Ah GK rfl) rfl rfl (Po rfl (BS rfl) rfl rfl (Po rfl (AE rfl) rfl rfl As)))))
  refine Pf 6 rfl (M3 (s := [c]) rfl Tryz.underlying105 Tryz.underlying9 Tryz.underlying5 rfl (Kn.own .m0)) ?_
  refine Pf 7 rfl (CQ rfl rfl (by simp only [List.length_cons, List.length_nil]; omega)) ?_
  refine Pf 8 rfl (BS rfl) (Pf 9 rfl (Ah GK rfl) ?_)
  refine An 10 rfl (by kernel_rfl) ?_
  refine AQ (AK AO.l2 rfl rfl rfl EM rfl (.t .h)) ?_
  refine BK rfl ⟨?_, ?_⟩
  · exact (Pk (Pk (Pk (Pk (Pk (Pk (Pk (Pk (Pk As)))))))))
  refine A3 (by kernel_rfl) ?_
  refine Bh rfl .n ?_
  intro w1 hS
  have hS := (hS.perm (Av.perm (.c (.t .h) .n))).Ay
  exact ⟨_, ⟨rfl, by simp only [AO.collect, c1, ↓reduceIte, Bool.false_eq_true]⟩, hS⟩
 refine Aa ?_
 refine Bh rfl .n ?_
 intro w1 hS
 have hS := (hS.perm (Av.perm (.c .h .n))).Ay
 exact ⟨_, ⟨rfl, by simp only [AO.collect, c1, ↓reduceIte, Bool.false_eq_true]⟩, hS⟩
theorem Jq (b : Nat) (X : AO) : Ic Tryz.prog 58 #[.pointer (some ⟨b, 0, none⟩)] [Ab.box b 69 X.enc] (fun v B => v = .tuple #[] ∧ B = [Ab.box b 69 X.measure.enc]) := by
 intro w hS0
 refine Ai _ _ Tryz.func58 rfl rfl rfl (hS0) ?_
 refine Gs (Gm rfl (Gt (BS rfl) (Gt (Ah GK rfl) (Gt (AF rfl CC .m0 AO.l2 rfl rfl) (Gt (BI rfl Tryz.underlying9 rfl) (Gt (Aj rfl rfl) (Gm rfl ?_)))))))
 refine Ba 8 rfl rfl (fun q => AE rfl) (Ba 8 rfl rfl (fun q => BS (BX rfl q)) (Ba 8 rfl rfl (fun q => Ah GK (BX rfl q)) (Ba 8 rfl rfl (fun q => AF (BX rfl q) CC .m0 AO.l2 rfl rfl) ?_)))
 refine Ba 8 rfl rfl (fun q => by have q1 := q; (try simp at q1); exact Bi Tryz.underlying9 (BX rfl q) rfl (by decide) (by omega)) ?_
 refine Ba 8 rfl rfl (fun q => Aj (BX rfl q) rfl) (Gt (BH rfl rfl (fun h => h)) (Gm rfl (Ba 16 rfl rfl (fun q => AE rfl) (Ba 16 rfl rfl (fun q => BS (BX rfl q)) (Ba 16 rfl rfl (fun q => Ah JU (BX rfl q)) ?_)))))
 refine Ba 16 rfl rfl (fun q => AR KK (BX rfl q) rfl (by decide) (by decide)) ?_
 refine Ba 16 rfl rfl (fun q => AF (BX rfl q) A1 .m0 (AO.l4.comp (AS.arr (n := 3) Bz (by decide) (by decide))) rfl rfl) ?_
 refine Ba 16 rfl rfl (fun q => Aj (BX rfl q) rfl) (Gt (BH rfl rfl (fun h => h)) (Gn (.t2 0 23) ?_))
 refine Gc (fun c1 => ?_) (fun c1 => ?_)
 ·
  have c1p := kz c1
  refine BE (N := 19) [0, 0, 2, 6, 14, 30, 62, 126, 0, 256, 768, 1792, 3840, 7936, 16382, 32766, 65535, 131071, 262143] mix (by kernel_rfl) rfl ?_
  refine Pf 0 rfl (AE rfl) (Pf 1 rfl (AE rfl) (Pf 2 rfl (BS rfl) (Pf 3 rfl (Ah GK rfl) (Pf 4 rfl (AF rfl CC .m0 AO.l2 rfl rfl) ?_))))
  refine Pf 5 rfl (Bi Tryz.underlying9 rfl rfl (by decide) (by omega)) ?_
  refine Pf 6 rfl (Rl Tryz.underlying3 Tryz.underlying5 rfl) (Pf 7 rfl (W3 rfl rfl) (Pf 8 rfl (AE rfl) (Pf 9 rfl (BS rfl) (Pf 10 rfl (Ah GK rfl) (Pf 11 rfl (AF rfl CC .m0 AO.l2 rfl rfl) ?_)))))
  refine Pf 12 rfl (Bi Tryz.underlying9 rfl rfl (by decide) (by omega)) ?_
  refine Pf 13 rfl (Rl Tryz.underlying3 Tryz.underlying5 rfl) (Pf 14 rfl (ZD rfl rfl) (Pf 15 rfl (LF rfl rfl) (Pf 16 rfl (BS rfl) (Pf 17 rfl (Ah QN rfl) ?_))))
  refine An 18 rfl (by kernel_rfl) ?_
  refine AQ (AK AO.l5 rfl rfl rfl C5 rfl .h) ?_
  refine BK rfl ⟨?_, ?_⟩
  · exact (Pk (Pk (Pk (Pk (Pk (Pk (Pk (Pk (Pk (Pk (Pk (Pk (Pk (Pk (Pk (Pk (Pk (Pk As))))))))))))))))))
  refine A3 (by kernel_rfl) ?_
  refine Bh rfl .n ?_
  intro w1 hS
  have hS := (hS.perm (Av.perm (.c .h .n))).Ay
  exact ⟨_, ⟨rfl, by rw [show X.measure = _ from BC c1]; rfl⟩, hS⟩
 refine Aa ?_
 refine Bh rfl .n ?_
 intro w1 hS
 have hS := (hS.perm (Av.perm (.c .h .n))).Ay
 exact ⟨_, ⟨rfl, by rw [show X.measure = _ from AV c1]⟩, hS⟩
theorem Lp (X : AO) (u : Au) (hu : u.length ≤ 140737488351232) (w : World) : EG Tryz.prog 29 #[.agg X.enc.toArray, BO u] w fun v w' => v = .tuple #[.agg (X.DQ u).1.enc.toArray, BO (X.DQ u).2.1, BO (X.DQ u).2.2.1, .int .i64 (X.DQ u).2.2.2] ∧ B6 w w' := by
 refine Ai [] [] Tryz.func29 rfl rfl rfl (St.start w []) ?_
 refine Gs ?_
 refine Bw rfl rfl rfl (fun b1 => ?_)
 refine BB rfl Ye rfl (fun b2 => ?_)
 refine Ga rfl (Ga rfl (Ga rfl (Gn (.t3 1 2 4) (CB (Gt (AZ rfl Dq .m1 (AS.id AO.fl.len AO.fl.one) rfl) ?_)))))
 refine A8 rfl Yk (.c rfl .n) (fun w hS => Fp _ w) ?_
 refine Gt (BQ rfl) (Gn (.t4 1 2 4 15) ?_)
 refine Gc (fun c1 => ?_) (fun c1 => ?_)
 ·
  refine Gs (Gt (AZ rfl Dq .m1 (AS.id AO.fl.len AO.fl.one) rfl) ?_)
  refine AQ (AK (AS.id AO.fl.len AO.fl.one) rfl rfl rfl Jr rfl .h) ?_
  refine Ga rfl (Ga rfl (Ga rfl (Gn (.t4 4 5 6 7) (Ac (AD ?_)))))
  refine AY rfl (.cell rfl .m0 (.inl ⟨(by rw [AO.fl.len]; exact Dq), rfl⟩) (.tmp rfl (.tmp rfl (.tmp rfl .n)))) ?_
  intro w1 hS; refine ⟨?_, hS.Am⟩; rw [show X.DQ u = _ from BC c1]; rfl
 have c1p := kz c1
 have hg : X.Br = true := by simpa using c1
 refine Aa ?_
 refine AB (.t3 1 2 4) ?_
 refine AA (Gs ?_)
 refine BB rfl Su rfl (fun b3 => ?_)
 refine DC DH 5 1 ?_
 refine BB rfl Su rfl (fun b4 => ?_)
 refine DC DH 5 1 ?_
 refine AM (AA (CB (Gm rfl ?_)))
 refine N2 rfl Tryz.underlying9 Tryz.underlying105 Tryz.underlying5 rfl (fun h1 h1l => ?_)
 refine Gt (Aq rfl Tryz.underlying105 rfl) (Gm rfl (Gn (.t7 2 4 8 9 18 19 20) (Ae ?_)))
 refine Bf (.t7 20 2 4 8 9 18 19) ?_
 refine BU (.t (.t (.t (.t (.t (.t .h)))))) ?_
 refine BU (.t (.t (.t (.t (.t .h))))) ?_
 refine BU (.t (.t (.t (.t (.t .h))))) ?_
 refine BU (.t (.t (.t (.t (.t .h))))) ?_
 refine BU (.t (.t (.t (.t (.t .h))))) ?_
 refine Q8 (fun (k : Int) (t : AO) (x : Au) (y : Au) (p : Option Addr) (h : Hd) (q : Option Addr) (g : Hd) => AO.I5 X u k t x y ∧ (p = none ∨ p = some ⟨b3, 0, none⟩) ∧ h.Z ∧ h.len = x.length ∧ (q = none ∨ q = some ⟨b4, 0, none⟩) ∧ g.Z ∧ g.len = y.length) (fun (k : Int) (t : AO) (x : Au) (y : Au) (p : Option Addr) (h : Hd) (q : Option Addr) (g : Hd) => ((u.length : Int) - k).toNat) (fun (k : Int) (t : AO) (x : Au) (y : Au) (p : Option Addr) (h : Hd) (q : Option Addr) (g : Hd) => [(20, .int .i64 k)]) (fun (k : Int) (t : AO) (x : Au) (y : Au) (p : Option Addr) (h : Hd) (q : Option Addr) (g : Hd) => [Ab.own g 5 1 (y.flatMap DH), Ab.box b4 107 (DJ.enc ⟨q, g⟩), Ab.own h 5 1 (x.flatMap DH), Ab.box b3 107 (DJ.enc ⟨p, h⟩), Ab.box b1 69 (AO.enc t)]) (0) (X) ([]) ([]) (none) (⟨none, 0, 0⟩) (none) (⟨none, 0, 0⟩) ?_ rfl rfl (fun k t x y p h q g hI1 => ?_)
 · exact ⟨AO.I5.start (AO.Ve hg), .inl rfl, Hd.TC, rfl, .inl rfl, Hd.TC, rfl⟩
 obtain ⟨hI11, hp, hz, hl, hq, hzg, hlg⟩ := hI1; have hk0 := hI11.k0; have hk1 := hI11.k1; have hsub := hI11.sub; have hxl := hI11.xl; have hyl := hI11.yl; have hc8 := (u.getD k.toNat 0).toNat_lt; have hyb := hI11.yb
 refine Gs (Gt (A5 rfl rfl) (AM (AA (Ao ?_))))
 refine Gc (fun c2 => ?_) (fun c2 => ?_)
 ·
  have c2p := kz c2
  refine Aa ?_
  refine AB (.t7 2 4 8 9 18 19 20) ?_
  refine AA (Ao (Ae (Gs ?_)))
  refine Gt (Bg Vg (by decide) (Kn.own .m5) rfl rfl (by omega) (by omega)) ?_
  refine Gt (WT rfl Zo (Kn.own .m5) (by omega)) ?_
  refine Ga rfl (Gn (.t8 2 4 8 9 11 18 19 20) (Gs (Gm rfl (Gt (Rl Tryz.underlying3 Tryz.underlying5 rfl) (Ga rfl (Gn (.t9 2 4 8 9 11 12 18 19 20) (Gs ?_)))))))
  refine Gt (Ah FR rfl) (Gt (AF rfl A1 .m4 AO.l0 rfl rfl) (Gn (.t10 2 4 8 9 11 12 18 19 20 27) (Ae (Gs (Gt (Aj rfl rfl) (Ga rfl (Gn (.t11 2 4 8 9 11 12 18 19 20 27 28) ?_)))))))
  refine Gc (fun c3 => ?_) (fun c3 => ?_)
  ·
   have c3p := kz c3
   refine Gs (Gm rfl (Gt (Aj rfl rfl) (Gn (.t9 2 4 8 9 11 18 19 20 31) ?_)))
   refine Gc (fun c4 => ?_) (fun c4 => ?_)
   ·
    have c4p := kz c4
    refine AJ (Gt (Ah FR rfl) ?_)
    refine AQ (AK AO.l0 rfl rfl rfl C5 rfl (.t (.t (.t (.t .h))))) ?_
    refine AM (AB (.t7 2 4 8 9 18 19 20) ?_)
    refine AU (AU (AA (AJ ?_)))
    refine Gt (Aw rfl rfl (IntWalk.i64_in _ (by omega))) ?_
    refine Gm rfl ?_
    refine AM (AB (.t7 2 4 8 9 18 19 20) ?_)
    refine CO _ _ _ _ _ _ _ _ ?_ ?_ (.t7 20 2 4 8 9 18 19) (.refl _)
    · exact ⟨hI11.next (by omega) (by simp only [AO.step, c1, c2, c3, c4, ↓reduceIte, Bool.false_eq_true]) (by simp only [AO.step, c1, c2, c3, c4, List.append_nil, ↓reduceIte, Bool.false_eq_true]) (by simp only [AO.step, c1, c2, c3, c4, List.append_nil, ↓reduceIte, Bool.false_eq_true]), by assumption, by assumption, by assumption, by assumption, by assumption, by assumption⟩
    · omega
   have c4p := kz c4
   refine AJ (Gm rfl ?_)
   refine Ag rfl Xf (.c rfl (.c rfl .n)) (.c (.t (.t (.t .h))) (.c (.t (.t .h)) .n)) (Cb _ _ _ _ (by assumption) (by assumption) (by assumption) _ (by omega)) (fun v2 B hv => ?_)
   obtain ⟨y3, y4, rfl, y5, y6, y7, rfl⟩ := hv
   refine AM (AB (.t7 2 4 8 9 18 19 20) ?_)
   refine AU (AU (AA (AJ ?_)))
   refine Gt (Aw rfl rfl (IntWalk.i64_in _ (by omega))) ?_
   refine Gm rfl ?_
   refine AM (AB (.t7 2 4 8 9 18 19 20) ?_)
   refine CG (.c (.t (.t .h)) (.c (.t (.t .h)) (.c (.t .h) (.c .h (.c .h (.c .h (.c .h .n))))))) ?_
   refine CV ?_
   refine CO _ _ _ _ _ _ _ _ ?_ ?_ (.t7 20 2 4 8 9 18 19) (.refl _)
   · exact ⟨hI11.next (by omega) (by simp only [AO.step, c1, c2, c3, c4, ↓reduceIte, Bool.false_eq_true]) (by simp only [AO.step, c1, c2, c3, c4, List.append_nil, ↓reduceIte, Bool.false_eq_true]) (by simp only [AO.step, c1, c2, c3, c4, List.append_nil, ↓reduceIte, Bool.false_eq_true]), by assumption, by assumption, by assumption, by assumption, by assumption, by assumption⟩
   · omega
  have c3p := kz c3
  refine Gs (Gt (Aj rfl rfl) (Ga rfl (Gn (.t11 2 4 8 9 11 12 18 19 20 27 35) ?_)))
  refine Gc (fun c5 => ?_) (fun c5 => ?_)
  ·
   have c5p := kz c5
   refine Gs (Gt (Ah FR rfl) ?_)
   refine AQ (AK AO.l0 rfl rfl rfl C5 rfl (.t (.t (.t (.t .h))))) ?_
   refine Gn (.t9 2 4 8 9 11 12 18 19 20) (Ae (Gs (Gm rfl (Gt (Aj rfl rfl) (Ga rfl (Gn (.t10 2 4 8 9 11 12 18 19 20 38) ?_))))))
   refine Gc (fun c6 => ?_) (fun c6 => ?_)
   ·
    have c6p := kz c6
    refine AJ (Gm rfl ?_)
    refine Ag rfl Xf (.c rfl (.c rfl .n)) (.c (.t (.t (.t .h))) (.c (.t (.t .h)) .n)) (Cb _ _ _ _ (by assumption) (by assumption) (by assumption) _ (by omega)) (fun v8 B hv => ?_)
    obtain ⟨y9, y10, rfl, y11, y12, y13, rfl⟩ := hv
    refine AM (AB (.t7 2 4 8 9 18 19 20) ?_)
    refine AU (AU (AU (AA (AJ ?_))))
    refine Gt (Aw rfl rfl (IntWalk.i64_in _ (by omega))) ?_
    refine Gm rfl ?_
    refine AM (AB (.t7 2 4 8 9 18 19 20) ?_)
    refine CG (.c (.t (.t .h)) (.c (.t (.t .h)) (.c (.t .h) (.c .h (.c .h (.c .h (.c .h .n))))))) ?_
    refine CV ?_
    refine CO _ _ _ _ _ _ _ _ ?_ ?_ (.t7 20 2 4 8 9 18 19) (.refl _)
    · exact ⟨hI11.next (by omega) (by simp only [AO.step, c1, c2, c3, c5, c6, ↓reduceIte, Bool.false_eq_true]) (by simp only [AO.step, c1, c2, c3, c5, c6, List.append_nil, ↓reduceIte, Bool.false_eq_true]) (by simp only [AO.step, c1, c2, c3, c5, c6, List.append_nil, ↓reduceIte, Bool.false_eq_true]), by assumption, by assumption, by assumption, by assumption, by assumption, by assumption⟩
    · omega
   have c6p := kz c6
   refine Gs (Gm rfl (Gt (Aj rfl rfl) (Ga rfl (Gn (.t9 2 4 8 9 12 18 19 20 43) ?_))))
   refine Gc (fun c7 => ?_) (fun c7 => ?_)
   ·
    have c7p := kz c7
    refine AJ (Gt (Ah FR rfl) ?_)
    refine AQ (AK AO.l0 rfl rfl rfl C5 rfl (.t (.t (.t (.t .h))))) ?_
    refine AM (AB (.t7 2 4 8 9 18 19 20) ?_)
    refine AU (AU (AU (AA (AJ ?_))))
    refine Gt (Aw rfl rfl (IntWalk.i64_in _ (by omega))) ?_
    refine Gm rfl ?_
    refine AM (AB (.t7 2 4 8 9 18 19 20) ?_)
    refine CO _ _ _ _ _ _ _ _ ?_ ?_ (.t7 20 2 4 8 9 18 19) (.refl _)
    · exact ⟨hI11.next (by omega) (by simp only [AO.step, c1, c2, c3, c5, c6, c7, ↓reduceIte, Bool.false_eq_true]) (by simp only [AO.step, c1, c2, c3, c5, c6, c7, List.append_nil, ↓reduceIte, Bool.false_eq_true]) (by simp only [AO.step, c1, c2, c3, c5, c6, c7, List.append_nil, ↓reduceIte, Bool.false_eq_true]), by assumption, by assumption, by assumption, by assumption, by assumption, by assumption⟩
    · omega
   have c7p := kz c7
   refine Gs (Gm rfl (Gt (CI rfl rfl) (Ga rfl (Gn (.t9 2 4 8 9 12 18 19 20 47) ?_))))
   refine Gc (fun c8 => ?_) (fun c8 => ?_)
   ·
    have c8p := kz c8
    refine AJ (Gm rfl (Gt (Ah FR rfl) ?_))
    refine AQ (AK AO.l0 rfl rfl rfl C5 rfl (.t (.t (.t (.t .h))))) ?_
    refine Gt (Ah KO rfl) ?_
    refine AQ (AK AO.l1 rfl rfl rfl C5 rfl (.t (.t (.t (.t .h))))) ?_
    refine AM (AB (.t7 2 4 8 9 18 19 20) ?_)
    refine AU (AU (AU (AA (AJ ?_))))
    refine Gt (Aw rfl rfl (IntWalk.i64_in _ (by omega))) ?_
    refine Gm rfl ?_
    refine AM (AB (.t7 2 4 8 9 18 19 20) ?_)
    refine CO _ _ _ _ _ _ _ _ ?_ ?_ (.t7 20 2 4 8 9 18 19) (.refl _)
    · exact ⟨hI11.next (by omega) (by simp only [AO.step, c1, c2, c3, c5, c6, c7, c8, ↓reduceIte, Bool.false_eq_true]) (by simp only [AO.step, c1, c2, c3, c5, c6, c7, c8, List.append_nil, ↓reduceIte, Bool.false_eq_true]) (by simp only [AO.step, c1, c2, c3, c5, c6, c7, c8, List.append_nil, ↓reduceIte, Bool.false_eq_true]), by assumption, by assumption, by assumption, by assumption, by assumption, by assumption⟩
    · omega
   have c8p := kz c8
   refine Aa ?_
   refine AB (.t7 2 4 8 9 18 19 20) ?_
   refine AU (AU (AU (AA (AJ ?_))))
   refine Gt (Aw rfl rfl (IntWalk.i64_in _ (by omega))) ?_
   refine Gm rfl ?_
   refine AM (AB (.t7 2 4 8 9 18 19 20) ?_)
   refine CO _ _ _ _ _ _ _ _ ?_ ?_ (.t7 20 2 4 8 9 18 19) (.refl _)
   · exact ⟨hI11.next (by omega) (by simp only [AO.step, c1, c2, c3, c5, c6, c7, c8, ↓reduceIte, Bool.false_eq_true]) (by simp only [AO.step, c1, c2, c3, c5, c6, c7, c8, List.append_nil, ↓reduceIte, Bool.false_eq_true]) (by simp only [AO.step, c1, c2, c3, c5, c6, c7, c8, List.append_nil, ↓reduceIte, Bool.false_eq_true]), by assumption, by assumption, by assumption, by assumption, by assumption, by assumption⟩
   · omega
  have c5p := kz c5
  refine Gs (Gt (Aj rfl rfl) (Ga rfl (Gn (.t11 2 4 8 9 11 12 18 19 20 27 53) ?_)))
  refine Gc (fun c9 => ?_) (fun c9 => ?_)
  ·
   have c9p := kz c9
   refine Gs (Gt (Ah KO rfl) (Gt (AF rfl A1 .m4 AO.l1 rfl rfl) (Gm rfl ?_)))
   refine Ag rfl bV (.c rfl (.c rfl (.c rfl .n))) (.c (.t (.t (.t (.t .h)))) .n) (Ix _ _ _ _ (by first | assumption | omega)) (fun v14 B hv => ?_)
   obtain ⟨rfl, rfl⟩ := hv
   refine Ag rfl OX (.c rfl (.c rfl .n)) (.c (.t (.t .h)) (.c (.t .h) .n)) (BJ _ _ _ _ (by assumption) (by assumption) (by assumption) _ (by have := AO.Hk t t.verb ((u.getD k.toNat 0).toNat : Int); omega)) (fun v15 B hv => ?_)
   obtain ⟨y16, y17, rfl, y18, y19, y20, rfl⟩ := hv
   refine Gn (.t7 2 4 8 9 18 19 20) (AJ (Gt (Ah FR rfl) ?_))
   refine AQ (AK AO.l0 rfl rfl rfl C5 rfl (.t (.t .h))) ?_
   refine Gt (Ah KO rfl) ?_
   refine AQ (AK AO.l1 rfl rfl rfl C5 rfl (.t (.t .h))) ?_
   refine AM (AB (.t7 2 4 8 9 18 19 20) ?_)
   refine AU (AU (AA (AJ ?_)))
   refine Gt (Aw rfl rfl (IntWalk.i64_in _ (by omega))) ?_
   refine Gm rfl ?_
   refine AM (AB (.t7 2 4 8 9 18 19 20) ?_)
   refine CG (.c (.t .h) (.c .h (.c (.t .h) (.c (.t .h) (.c .h (.c .h (.c .h .n))))))) ?_
   refine CV ?_
   refine CO _ _ _ _ _ _ _ _ ?_ ?_ (.t7 20 2 4 8 9 18 19) (.refl _)
   · exact ⟨hI11.next (by omega) (by simp only [AO.step, c1, c2, c3, c5, c9, ↓reduceIte, Bool.false_eq_true]) (by simp only [AO.step, c1, c2, c3, c5, c9, List.append_nil, ↓reduceIte, Bool.false_eq_true]) (by simp only [AO.step, c1, c2, c3, c5, c9, List.append_nil, ↓reduceIte, Bool.false_eq_true]), by assumption, by assumption, by assumption, by assumption, by assumption, by assumption⟩
   · omega
  have c9p := kz c9
  refine Gs (Gt (Aj rfl rfl) (Ga rfl (Gn (.t11 2 4 8 9 11 12 18 19 20 27 62) ?_)))
  refine Gc (fun c10 => ?_) (fun c10 => ?_)
  ·
   have c10p := kz c10
   refine Gs (Gm rfl (Gt (Aj rfl rfl) (Gn (.t9 2 4 8 9 11 18 19 20 65) ?_)))
   refine Gc (fun c11 => ?_) (fun c11 => ?_)
   ·
    have c11p := kz c11
    refine AJ (Gt (Ah FR rfl) ?_)
    refine AQ (AK AO.l0 rfl rfl rfl C5 rfl (.t (.t (.t (.t .h))))) ?_
    refine AM (AB (.t7 2 4 8 9 18 19 20) ?_)
    refine AU (AU (AA (AJ ?_)))
    refine Gt (Aw rfl rfl (IntWalk.i64_in _ (by omega))) ?_
    refine Gm rfl ?_
    refine AM (AB (.t7 2 4 8 9 18 19 20) ?_)
    refine CO _ _ _ _ _ _ _ _ ?_ ?_ (.t7 20 2 4 8 9 18 19) (.refl _)
    · exact ⟨hI11.next (by omega) (by simp only [AO.step, c1, c2, c3, c5, c9, c10, c11, ↓reduceIte, Bool.false_eq_true]) (by simp only [AO.step, c1, c2, c3, c5, c9, c10, c11, List.append_nil, ↓reduceIte, Bool.false_eq_true]) (by simp only [AO.step, c1, c2, c3, c5, c9, c10, c11, List.append_nil, ↓reduceIte, Bool.false_eq_true]), by assumption, by assumption, by assumption, by assumption, by assumption, by assumption⟩
    · omega
   have c11p := kz c11
   refine AJ (Gm rfl ?_)
   refine Ag rfl Zs (.c rfl (.c rfl .n)) (.c (.t (.t (.t (.t .h)))) .n) (GU _ _ _ (by first | assumption | omega)) (fun v21 B hv => ?_)
   obtain ⟨rfl, rfl⟩ := hv
   refine AM (AB (.t7 2 4 8 9 18 19 20) ?_)
   refine AU (AU (AA (AJ ?_)))
   refine Gt (Aw rfl rfl (IntWalk.i64_in _ (by omega))) ?_
   refine Gm rfl ?_
   refine AM (AB (.t7 2 4 8 9 18 19 20) ?_)
   refine CG (.c (.t .h) (.c (.t .h) (.c (.t .h) (.c (.t .h) (.c .h (.c .h (.c .h .n))))))) ?_
   refine CV ?_
   refine CO _ _ _ _ _ _ _ _ ?_ ?_ (.t7 20 2 4 8 9 18 19) (.refl _)
   · exact ⟨hI11.next (by omega) (by simp only [AO.step, c1, c2, c3, c5, c9, c10, c11, ↓reduceIte, Bool.false_eq_true]) (by simp only [AO.step, c1, c2, c3, c5, c9, c10, c11, List.append_nil, ↓reduceIte, Bool.false_eq_true]) (by simp only [AO.step, c1, c2, c3, c5, c9, c10, c11, List.append_nil, ↓reduceIte, Bool.false_eq_true]), by assumption, by assumption, by assumption, by assumption, by assumption, by assumption⟩
   · omega
  have c10p := kz c10
  refine Gs (Gt (Aj rfl rfl) (Ga rfl (Gn (.t10 2 4 8 9 11 12 18 19 20 69) ?_)))
  refine Gc (fun c12 => ?_) (fun c12 => ?_)
  ·
   have c12p := kz c12
   refine Gs (Gm rfl (Gn (.t10 2 4 8 9 11 12 18 19 20 71) (Ae (Gs (Gt (Aj rfl rfl) (Ga rfl (Gn (.t10 2 4 8 9 11 12 18 19 20 77) ?_)))))))
   refine Gc (fun c13 => ?_) (fun c13 => ?_)
   ·
    have c13p := kz c13
    refine Gs (Gt (Ah FR rfl) ?_)
    refine AQ (AK AO.l0 rfl rfl rfl C5 rfl (.t (.t (.t (.t .h))))) ?_
    refine Gn (.t8 2 4 8 9 11 18 19 20) (AJ (Gm rfl ?_))
    refine Ag rfl Zs (.c rfl (.c rfl .n)) (.c (.t (.t (.t (.t .h)))) .n) (GU _ _ _ (by first | assumption | omega)) (fun v22 B hv => ?_)
    obtain ⟨rfl, rfl⟩ := hv
    refine AM (AB (.t7 2 4 8 9 18 19 20) ?_)
    refine AU (AU (AU (AA (AJ ?_))))
    refine Gt (Aw rfl rfl (IntWalk.i64_in _ (by omega))) ?_
    refine Gm rfl ?_
    refine AM (AB (.t7 2 4 8 9 18 19 20) ?_)
    refine CG (.c (.t .h) (.c (.t .h) (.c (.t .h) (.c (.t .h) (.c .h (.c .h (.c .h .n))))))) ?_
    refine CV ?_
    refine CO _ _ _ _ _ _ _ _ ?_ ?_ (.t7 20 2 4 8 9 18 19) (.refl _)
    · exact ⟨hI11.next (by omega) (by simp only [AO.step, c1, c2, c3, c5, c9, c10, c12, c13, ↓reduceIte, Bool.false_eq_true]) (by simp only [AO.step, c1, c2, c3, c5, c9, c10, c12, c13, List.append_nil, ↓reduceIte, Bool.false_eq_true]) (by simp only [AO.step, c1, c2, c3, c5, c9, c10, c12, c13, List.append_nil, ↓reduceIte, Bool.false_eq_true]), by assumption, by assumption, by assumption, by assumption, by assumption, by assumption⟩
    · omega
   have c13p := kz c13
   refine CB (Gm rfl (Gt (Aj rfl rfl) (Gn (.t8 2 4 8 9 18 19 20 73) ?_)))
   refine Gc (fun c14 => ?_) (fun c14 => ?_)
   ·
    have c14p := kz c14
    refine AJ ?_
    refine Ag rfl bA (.c rfl .n) (.c (.t (.t (.t (.t .h)))) .n) (Jq _ _) (fun v23 B hv => ?_)
    obtain ⟨rfl, rfl⟩ := hv
    refine Gn (.t7 2 4 8 9 18 19 20) (AJ (Gt (Ah FR rfl) ?_))
    refine AQ (AK AO.l0 rfl rfl rfl C5 rfl .h) ?_
    refine Gt (Ah GK rfl) ?_
    refine AQ (AK AO.l2 rfl rfl rfl EM rfl .h) ?_
    refine AM (AB (.t7 2 4 8 9 18 19 20) ?_)
    refine AU (AU (AU (AA (AJ ?_))))
    refine Gt (Aw rfl rfl (IntWalk.i64_in _ (by omega))) ?_
    refine Gm rfl ?_
    refine AM (AB (.t7 2 4 8 9 18 19 20) ?_)
    refine CG (.c (.t .h) (.c (.t .h) (.c (.t .h) (.c (.t .h) (.c .h (.c .h (.c .h .n))))))) ?_
    refine CV ?_
    refine CO _ _ _ _ _ _ _ _ ?_ ?_ (.t7 20 2 4 8 9 18 19) (.refl _)
    · exact ⟨hI11.next (by omega) (by simp only [AO.step, c1, c2, c3, c5, c9, c10, c12, c13, c14, ↓reduceIte, Bool.false_eq_true]) (by simp only [AO.step, c1, c2, c3, c5, c9, c10, c12, c13, c14, List.append_nil, ↓reduceIte, Bool.false_eq_true]) (by simp only [AO.step, c1, c2, c3, c5, c9, c10, c12, c13, c14, List.append_nil, ↓reduceIte, Bool.false_eq_true]), by assumption, by assumption, by assumption, by assumption, by assumption, by assumption⟩
    · omega
   have c14p := kz c14
   refine Aa ?_
   refine AB (.t7 2 4 8 9 18 19 20) ?_
   refine AA (AJ (Gt (Ah FR rfl) ?_))
   refine AQ (AK AO.l0 rfl rfl rfl C5 rfl (.t (.t (.t (.t .h))))) ?_
   refine Gt (Ah GK rfl) ?_
   refine AQ (AK AO.l2 rfl rfl rfl EM rfl (.t (.t (.t (.t .h))))) ?_
   refine AM (AB (.t7 2 4 8 9 18 19 20) ?_)
   refine AU (AU (AU (AA (AJ ?_))))
   refine Gt (Aw rfl rfl (IntWalk.i64_in _ (by omega))) ?_
   refine Gm rfl ?_
   refine AM (AB (.t7 2 4 8 9 18 19 20) ?_)
   refine CO _ _ _ _ _ _ _ _ ?_ ?_ (.t7 20 2 4 8 9 18 19) (.refl _)
   · exact ⟨hI11.next (by omega) (by simp only [AO.step, c1, c2, c3, c5, c9, c10, c12, c13, c14, ↓reduceIte, Bool.false_eq_true]) (by simp only [AO.step, c1, c2, c3, c5, c9, c10, c12, c13, c14, List.append_nil, ↓reduceIte, Bool.false_eq_true]) (by simp only [AO.step, c1, c2, c3, c5, c9, c10, c12, c13, c14, List.append_nil, ↓reduceIte, Bool.false_eq_true]), by assumption, by assumption, by assumption, by assumption, by assumption, by assumption⟩
   · omega
  have c12p := kz c12
  refine Aa ?_
  refine AB (.t7 2 4 8 9 18 19 20) ?_
  refine AU (AU (AA (AJ ?_)))
  refine Gt (Aw rfl rfl (IntWalk.i64_in _ (by omega))) ?_
  refine Gm rfl ?_
  refine AM (AB (.t7 2 4 8 9 18 19 20) ?_)
  refine CO _ _ _ _ _ _ _ _ ?_ ?_ (.t7 20 2 4 8 9 18 19) (.refl _)
  · exact ⟨hI11.next (by omega) (by simp only [AO.step, c1, c2, c3, c5, c9, c10, c12, ↓reduceIte, Bool.false_eq_true]) (by simp only [AO.step, c1, c2, c3, c5, c9, c10, c12, List.append_nil, ↓reduceIte, Bool.false_eq_true]) (by simp only [AO.step, c1, c2, c3, c5, c9, c10, c12, List.append_nil, ↓reduceIte, Bool.false_eq_true]), by assumption, by assumption, by assumption, by assumption, by assumption, by assumption⟩
  · omega
 have c2p := kz c2
 refine BV (AT (AT (Af ?_)))
 refine AB (.t4 2 4 8 9) ?_
 refine AA (Ao ?_)
 refine BE (N := 7) [0, 0, 2, 7, 15, 31, 63] mix (by kernel_rfl) rfl ?_
 refine Pf 0 rfl (AZ rfl Dq .m4 (AS.id AO.fl.len AO.fl.one) rfl) ?_
 refine An 1 rfl (by kernel_rfl) ?_
 refine Ag rfl Xm (.c rfl .n) (.c (.t (.t (.t .h))) (.c (.t (.t .h)) .n)) (Cp _ _ _ _ (by assumption) (by assumption) (by omega)) (fun v24 B hv => ?_)
 obtain ⟨rfl, rfl⟩ := hv
 refine Bm rfl ⟨?_, ?_⟩
 · exact (Po rfl (AZ rfl Dq .m3 (AS.id AO.fl.len AO.fl.one) rfl) rfl rfl As)
 refine An 2 rfl (by kernel_rfl) ?_
 refine Ag rfl Xm (.c rfl .n) (.c (.t (.t .h)) (.c (.t .h) .n)) (Cp _ _ _ _ (by assumption) (by assumption) (by omega)) (fun v25 B hv => ?_)
 obtain ⟨rfl, rfl⟩ := hv
 refine Bm rfl ⟨?_, ?_⟩
 · exact (Po rfl (AZ rfl Dq .m2 (AS.id AO.fl.len AO.fl.one) rfl) rfl rfl As)
 refine An 3 rfl (by kernel_rfl) ?_
 refine AQ (AK (AS.id AO.fl.len AO.fl.one) rfl rfl rfl Jr rfl (.t (.t (.t (.t .h))))) ?_
 refine BK rfl ⟨?_, ?_⟩
 · exact (Pk As)
 refine Pf 4 rfl (Az rfl) (Pf 5 rfl (Az rfl) (Pf 6 rfl (Az rfl) ?_))
 refine A3 (by kernel_rfl) ?_
 refine AB (.t4 4 5 6 7) ?_
 refine AA (Ac ?_)
 refine AY rfl (.cell rfl .m4 (.inl ⟨(by rw [AO.fl.len]; exact Dq), rfl⟩) (.tmp rfl (.tmp rfl (.tmp rfl .n)))) ?_
 intro w1 hS; refine ⟨?_, hS.Am⟩; rw [show X.DQ u = _ from AV c1, hI11.done (by omega)]; rfl
theorem GI (b : UInt8) (w : World) : EG Tryz.prog 70 #[.int .u8 (b.toNat : Int)] w fun v w' => v = .bool (Bc.FU b) ∧ B6 w w' := by
 refine Ai [] [] Tryz.func70 rfl rfl rfl (St.start w []) ?_
 refine Gs (Ga rfl (Gn (.t1 0) (Gs (Gm rfl (Gt (CI rfl rfl) (Gm rfl (Ba 5 rfl rfl (fun q => AE rfl) ?_)))))))
 refine Ba 5 rfl rfl (fun q => A5 (BX rfl q) rfl) (Gt (BH rfl rfl (fun h => h)) (Ga rfl (Gn (.t1 2) (Ac ?_))))
 refine AY rfl (.tmp rfl .n) ?_
 intro w1 hS; refine ⟨?_, hS.Am⟩; rfl
end Go.Proofs.YtoidpggbbfncpaaGreatDoor
