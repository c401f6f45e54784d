/- What the functions that the law TopRuns reaches compute: walks, part 5. No condition. -/
import Derived.Test.YtoidpggbbfncpaaGreatDoorCards
import Derived.Test.YtoidpggbbfncpaaGreatDoorTie
import Derived.Deep.DeepHandedRow
import Derived.Test.YtoidpggbbfncpaaGreatDoorRows
import Derived.Test.YtoidpggbbfncpaaGreatDoorTopRunsEc3
import Derived.Test.YtoidpggbbfncpaaGreatDoorTopRunsRa1
import Derived.Test.YtoidpggbbfncpaaGreatDoorTopRunsRb1
import Derived.Test.YtoidpggbbfncpaaGreatDoorTopRunsRc1
import Derived.Test.YtoidpggbbfncpaaGreatDoorTopRunsWalks
import Derived.Test.YtoidpggbbfncpaaGreatDoorTopRunsWalks2
import Derived.Test.YtoidpggbbfncpaaGreatDoorTopRunsWalks3
import Derived.Test.YtoidpggbbfncpaaGreatDoorTopRunsWalks4
set_option linter.unusedSimpArgs false
set_option linter.unusedVariables false
set_option maxRecDepth 100000
set_option maxHeartbeats 1000000
namespace Go.Proofs.YtoidpggbbfncpaaGreatDoor
open Go Go.Ing Go.RowKit Go.ChangeShapes Go.WideShapes Go.ChangeAt
theorem LB (X : AH) (d : Int) (hw : X.Dw) : Ew Tryz.prog 78 #[.agg X.enc.toArray, .int .i64 d] [] (fun w => (GV 0 AH.C0 w ∧ 0 ∉ CW [])) (fun v B => ∃ h : Hd, v = .tuple #[.agg ((AF.CY X d).1.enc).toArray, h.val, .int .i64 (AF.CY X d).2.2] ∧ h.len = (AF.CY X d).2.1.length ∧ B = [Ad.own h 56 16 ((AF.CY X d).2.1.flatMap Ing.Event.enc)]) := by
 intro w hS0 hH
 obtain ⟨gl0, gm0⟩ := hH
 have hm := Cg d
 refine Am _ _ Tryz.func78 rfl rfl rfl (hS0) ?_
 refine Gs ?_
 refine B3 rfl rfl rfl (fun b1 => ?_)
 refine BF rfl L4 rfl (fun b2 => ?_)
 refine Ga rfl (Ga rfl (Gn (.t3 1 2 4) (B7 (Gt (AZ rfl BT .m1 (AS.id AH.fl.len AH.fl.one) rfl) ?_))))
 refine A7 rfl YD (.c rfl .n) (fun w hS => Gw _ w) ?_
 refine Gt (BS rfl) (Gn (.t4 1 2 4 16) ?_)
 refine Gc (fun c1 => ?_) (fun c1 => ?_)
 ·
  refine Gs (Gt (AZ rfl BT .m1 (AS.id AH.fl.len AH.fl.one) rfl) ?_)
  refine AR (AJ (AS.id AH.fl.len AH.fl.one) rfl rfl rfl Dq rfl .h) ?_
  refine Ga rfl (Ga rfl (Gn (.t3 4 5 6) (Ab (AD ?_))))
  refine AY rfl (.cell rfl .m0 (.inl ⟨(by rw [AH.fl.len]; exact BT), rfl⟩) (.tmp rfl (.tmp rfl .n))) ?_
  intro w1 hS
  have hS := hS.Cd 56 16
  have hS := (hS.perm (Av.perm (.c .h .n))).Az
  have hq : AF.CY X d = _ := A9 c1
  refine ⟨_, ⟨⟨none, 0, 0⟩, ?hv, ?hl, ?hB⟩, hS⟩
  case hv => rw [hq]; rfl
  case hl => rw [hq]; rfl
  case hB => rw [hq]; rfl
 have c1p := kz c1
 refine Aa ?_
 refine AB (.t3 1 2 4) ?_
 refine AA (Gs (Ga rfl (AO (AA (B7 (Gm rfl (AO ?_)))))))
 refine AA (Ae ?_)
 refine Bl (.t5 7 18 1 2 4) ?_
 refine EM Ing.Event.enc 56 16 ?_
 refine BZ (.t (.t .h)) ?_
 refine BZ (.t .h) ?_
 refine DX (fun (k : Int) (s : AH × List Ing.Event) (h : Hd) => 0 ≤ k ∧ k ≤ 6 ∧ s = AF.D9 X d k.toNat ∧ s.1.Bq = true ∧ s.1.Dw ∧ (s.2.length : Int) ≤ 13 * k ∧ h.len = s.2.length) (fun (k : Int) (s : AH × List Ing.Event) (h : Hd) => (6 - k).toNat) (fun (k : Int) (s : AH × List Ing.Event) (h : Hd) => [(7, h.val), (18, .int .i64 k)]) (fun (k : Int) (s : AH × List Ing.Event) (h : Hd) => [Ad.own h 56 16 (s.2.flatMap Ing.Event.enc), Ad.box b1 35 (AH.enc s.1)]) (0) ((X, [])) (_) ?_ rfl rfl (fun k s h hI1 => ?_)
 · exact ⟨by omega, by omega, rfl, by simpa using c1, hw, by simp, rfl⟩
 obtain ⟨hI11, hI12, hI13, hI14, hI15, hI16, hI17⟩ := hI1
 refine Gs (Gt (A6 rfl rfl) (AO (AA (Ap ?_))))
 refine Gc (fun c2 => ?_) (fun c2 => ?_)
 ·
  have c2p := kz c2
  have hbe := AF.G9 hI14 hI11 (show k < 6 by omega)
  have hfo := hbe.B1
  refine Aa ?_
  refine AB (.t5 1 2 4 7 18) ?_
  refine AA (Ap (Ae (Gs (Gm rfl (Ga rfl (Gn (.t6 1 2 4 7 8 18) (Gs ?_)))))))
  refine Gm rfl (Gt (Ai Bi rfl) ?_)
  refine Gt (AQ Cr rfl rfl (by first | omega | (dsimp only; omega) | (have := Cg (d.tmod 3 + 3 + k); omega)) (by first | omega | (dsimp only; omega) | (have := Cg (d.tmod 3 + 3 + k); omega))) ?_
  refine Gt (AZ rfl E8 .m1 (AH.l2.comp (AS.arr (n := 6) Al.fl (by first | omega | (dsimp only; omega) | (have := Cg (d.tmod 3 + 3 + k); omega)) (by first | omega | (dsimp only; omega) | (have := Cg (d.tmod 3 + 3 + k); omega)))) rfl) ?_
  refine BF rfl Kv rfl (fun b3 => ?_)
  refine AR (AJ (AS.id Al.fl.len Al.fl.one) rfl rfl rfl Jg rfl .h) ?_
  refine Gn (.t7 1 2 4 7 8 9 18) (B7 (Gt (Ai HX rfl) (Gt (AG rfl DV .m0 Al.l1 rfl rfl) (Gt (BS rfl) (Gm rfl (BU 28 rfl rfl (fun q => Ai Fb rfl) (BU 28 rfl rfl (fun q => AG (cF rfl q) A2 .m0 Al.l5 rfl rfl) ?_)))))))
  refine BU 28 rfl rfl (fun q => Af (cF rfl q) rfl) ?_
  refine Gt (BP rfl rfl (fun h => by rw [h]; rfl)) ?_
  refine Gn (.t8 1 2 4 7 8 9 18 32) ?_
  refine Gc (fun c3 => ?_) (fun c3 => ?_)
  ·
   have c3p := kz c3
   refine BX (AW (Ag ?_))
   refine AB (.t5 1 2 4 7 18) ?_
   refine AA (AI ?_)
   refine Gt (As rfl rfl (IntWalk.i64_in _ (by first | omega | (dsimp only; omega) | (have := Cg (d.tmod 3 + 3 + k); omega)))) ?_
   refine Gm rfl ?_
   refine AO (AB (.t5 1 2 4 7 18) ?_)
   refine Bt (k + 1) (s) _ ?_ ?_ (.t5 7 18 1 2 4) (.cons _ (.refl _))
   · have hrs : AF.El d k s = _ := (A9 c3)
     have hrg := AF.Fv (draw := d) hI14 hI15 hI11 (by omega)
     rw [hrs] at hrg
     exact ⟨by omega, by omega, by rw [AF.HB hI11, ← hI13, hrs], hrg.1, hrg.2.1, (by have := hrg.2.2; omega), (by first | assumption | (have hso : (AF.CD s.1 k ((s.1.AV.at k).B1 - 1) (AF.Kk d k)).out.length = 1 := rfl; (try dsimp only at *); simp only [List.length_append] at *; omega))⟩
   · omega
  have c3p := kz c3
  have hf0 : 0 ≤ ((s.1.AV.at k).B1 - 1) ∧ ((s.1.AV.at k).B1 - 1) < 6 := by omega
  have hbf := (AF.G9 hI14 hf0.1 hf0.2).BL
  refine Aa ?_
  refine AB (.t7 1 2 4 7 8 9 18) ?_
  refine AA (Gs (Gt (Ai Fb rfl) (Gt (AG rfl A2 .m0 Al.l5 rfl rfl) ?_)))
  refine Gt (Ex rfl rfl (IntWalk.i64_in _ (by first | omega | (dsimp only; omega) | (have := Cg (d.tmod 3 + 3 + k); omega)))) ?_
  refine Ga rfl (Gn (.t8 1 2 4 7 8 9 10 18) (Ap (Ap ?_)))
  refine BD (N := 16) [0, 0, 3, 7, 15, 31, 63, 127, 127, 511, 1023, 2047, 127, 4223, 16383, 32767] mix (by kernel_rfl) rfl ?_
  refine Pf 0 rfl (AE rfl) (Pf 1 rfl (Ai Bi rfl) ?_)
  refine Pf 2 rfl (AQ Cr rfl rfl (by first | omega | (dsimp only; omega) | (have := Cg (d.tmod 3 + 3 + k); omega)) (by first | omega | (dsimp only; omega) | (have := Cg (d.tmod 3 + 3 + k); omega))) ?_
  refine Pf 3 rfl (Ai HX rfl) ?_
  refine Pf 4 rfl (AG rfl DV .m2 ((AH.l2.comp (AS.arr (n := 6) Al.fl (by first | omega | (dsimp only; omega) | (have := Cg (d.tmod 3 + 3 + k); omega)) (by first | omega | (dsimp only; omega) | (have := Cg (d.tmod 3 + 3 + k); omega)))).comp Al.l1) rfl rfl) ?_
  refine Pf 5 rfl (BS rfl) (Pf 6 rfl (AE rfl) (G1 7 42 rfl rfl rfl (fun q => AE rfl) (G1 8 42 rfl rfl rfl (fun q => Ai Bi rfl) ?_)))
  refine BV 9 rfl rfl (by kernel_rfl) (GN (t := 42) rfl rfl (fun q => by have q1 := q; (try simp at q1); exact H3 (AQ Cr (cF rfl q) (cF rfl q) (by first | omega | (dsimp only; omega) | (have := Cg (d.tmod 3 + 3 + k); omega)) (by first | omega | (dsimp only; omega) | (have := Cg (d.tmod 3 + 3 + k); omega))))) ?_
  refine G1 10 42 rfl rfl rfl (fun q => Ai Cq (cF rfl q)) ?_
  refine BV 11 rfl rfl (by kernel_rfl) (GN (t := 42) rfl rfl (fun q => by have q1 := q; (try simp at q1); exact H3 (AG (cF rfl q) A2 .m2 ((AH.l2.comp (AS.arr (n := 6) Al.fl (by first | omega | (dsimp only; omega) | (have := Cg (d.tmod 3 + 3 + k); omega)) (by first | omega | (dsimp only; omega) | (have := Cg (d.tmod 3 + 3 + k); omega)))).comp Al.l3) rfl rfl))) ?_
  refine G1 12 42 rfl rfl rfl (fun q => Ai Cq rfl) (G1 13 42 rfl rfl rfl (fun q => AG (cF rfl q) A2 .m0 Al.l3 rfl rfl) (G1 14 42 rfl rfl rfl (fun q => CK (cF rfl q) (cF rfl q)) ?_))
  refine Pf 15 rfl (BP rfl rfl (fun h => by rw [h]; rfl)) ?_
  refine A1 (by kernel_rfl) ?_
  refine AB (.t8 1 2 4 7 8 10 18 51) ?_
  refine AA ?_
  refine Gc (fun c4 => ?_) (fun c4 => ?_)
  ·
   have c4p := kz c4
   refine Gs (Gm rfl (Gt (Ai Bi rfl) ?_))
   refine Gt (AQ Cr rfl rfl (by first | omega | (dsimp only; omega) | (have := Cg (d.tmod 3 + 3 + k); omega)) (by first | omega | (dsimp only; omega) | (have := Cg (d.tmod 3 + 3 + k); omega))) ?_
   refine Gt (Ai Fb rfl) ?_
   refine AR (AJ ((AH.l2.comp (AS.arr (n := 6) Al.fl (by first | omega | (dsimp only; omega) | (have := Cg (d.tmod 3 + 3 + k); omega)) (by first | omega | (dsimp only; omega) | (have := Cg (d.tmod 3 + 3 + k); omega)))).comp Al.l5) rfl rfl rfl Cy rfl (.t (.t .h))) ?_
   refine Gn (.t5 1 2 4 7 18) (BX (AW (Ag (AA (AI ?_)))))
   refine Gt (As rfl rfl (IntWalk.i64_in _ (by first | omega | (dsimp only; omega) | (have := Cg (d.tmod 3 + 3 + k); omega)))) ?_
   refine Gm rfl ?_
   refine AO (AB (.t5 1 2 4 7 18) ?_)
   refine Bt (k + 1) ((s.1.Cv k { s.1.AV.at k with B1 := 0 }, s.2)) _ ?_ ?_ (.t5 7 18 1 2 4) (.cons _ (.refl _))
   · have hrs : AF.El d k s = _ := ((AU c3).trans (A9 c4))
     have hrg := AF.Fv (draw := d) hI14 hI15 hI11 (by omega)
     rw [hrs] at hrg
     exact ⟨by omega, by omega, by rw [AF.HB hI11, ← hI13, hrs], hrg.1, hrg.2.1, (by have := hrg.2.2; omega), (by first | assumption | (have hso : (AF.CD s.1 k ((s.1.AV.at k).B1 - 1) (AF.Kk d k)).out.length = 1 := rfl; (try dsimp only at *); simp only [List.length_append] at *; omega))⟩
   · omega
  have c4p := kz c4
  have hsf := AF.Jq (b := k) (n := AF.Kk d k) hI14 hI15 (B1 := ((s.1.AV.at k).B1 - 1)) hf0.1 hf0.2 c4p.1
  have hht := AF.MC (draw := d) hI11
  refine Aa ?_
  refine AB (.t7 1 2 4 7 8 10 18) ?_
  refine AA (Gs (Gm rfl ?_))
  refine Gt (MZ rfl rfl (by first | omega | (dsimp only; omega) | (have := Cg (d.tmod 3 + 3 + k); omega))) ?_
  refine Gt (As rfl rfl (IntWalk.i64_in _ (by first | omega | (dsimp only; omega) | (have := Cg (d.tmod 3 + 3 + k); omega)))) ?_
  refine Gm rfl ?_
  refine Gt (As rfl rfl (IntWalk.i64_in _ (by first | omega | (dsimp only; omega) | (have := Cg (d.tmod 3 + 3 + k); omega)))) ?_
  refine Gt (MZ rfl rfl (by first | omega | (dsimp only; omega) | (have := Cg (d.tmod 3 + 3 + k); omega))) ?_
  refine Gt (As rfl rfl (IntWalk.i64_in _ (by first | omega | (dsimp only; omega) | (have := Cg (d.tmod 3 + 3 + k); omega)))) ?_
  refine Ga rfl (Gn (.t8 1 2 4 7 8 10 11 18) (Gs (Gt (AZ rfl BT .m2 (AS.id AH.fl.len AH.fl.one) rfl) (Gm rfl (Gt (BA Su Sk rfl (.cons Ac.l0 rfl rfl rfl (.cons Ac.l1 rfl rfl rfl .nil))) ?_)))))
  refine B3 rfl rfl rfl (fun b4 => ?_)
  refine Ga rfl (Gn (.t8 1 2 4 7 10 11 12 18) (Gs (Gm rfl (Gm rfl (Gm rfl (Gt (BA MP Hk rfl (.cons Ing.Event.l0 rfl rfl rfl (.cons Ing.Event.l3 rfl rfl rfl (.cons Ing.Event.l5 rfl rfl rfl .nil)))) ?_))))))
  refine C9 Ing.Event.enc 56 16 ?_
  refine Ah rfl Mk (.c rfl (.c rfl .n)) (.c (.t .h) (.c .h .n)) (CC _ ⟨s.1, k, []⟩ _ { AF.GA 14 with other := ((s.1.AV.at k).B1 - 1), n := AF.Kk d k } rfl (show 0 ≤ k ∧ k < 6 by omega) (show ((s.1.AV.at k).B1 - 1) < 6 by omega) (Nat.zero_le _)) (fun v3 B hv => ?_)
  obtain ⟨y4, rfl, y5, rfl⟩ := hv
  refine Gn (.t8 1 2 4 7 10 11 12 18) (Ap ?_)
  refine BD (N := 16) [0, 0, 0, 0, 12, 28, 60, 0, 252, 508, 1, 1025, 3073, 8191, 16383, 32767] mix (by kernel_rfl) rfl ?_
  refine Pf 0 rfl (AE rfl) (Pf 1 rfl (AE rfl) (Pf 2 rfl (AE rfl) (Pf 3 rfl (Ai Bi rfl) ?_)))
  refine Pf 4 rfl (AQ Cr rfl rfl (by first | omega | (dsimp only; omega) | (have := Cg (d.tmod 3 + 3 + k); omega)) (by first | omega | (dsimp only; omega) | (have := Cg (d.tmod 3 + 3 + k); omega))) ?_
  refine Pf 5 rfl (Ai JA rfl) ?_
  refine Pf 6 rfl (AG rfl A2 .m4 ((AH.l2.comp (AS.arr (n := 6) Al.fl (by first | omega | (dsimp only; omega) | (have := Cg (d.tmod 3 + 3 + k); omega)) (by first | omega | (dsimp only; omega) | (have := Cg (d.tmod 3 + 3 + k); omega)))).comp Al.l4) rfl rfl) ?_
  refine Pf 7 rfl (AE rfl) ?_
  refine Pf 8 rfl (Ex rfl rfl (IntWalk.i64_in _ (by first | omega | (dsimp only; omega) | (have := Cg (d.tmod 3 + 3 + k); omega)))) ?_
  refine Pf 9 rfl (Ki rfl rfl) (Pf 10 rfl (BR rfl) (Pf 11 rfl (Ai A5 rfl) (Pf 12 rfl (Ai Bi rfl) ?_)))
  refine Pf 13 rfl (AQ Cr rfl rfl (by first | omega | (dsimp only; omega) | (have := Cg (d.tmod 3 + 3 + k); omega)) (by first | omega | (dsimp only; omega) | (have := Cg (d.tmod 3 + 3 + k); omega))) ?_
  refine Pf 14 rfl (Ai JA rfl) ?_
  refine An 15 rfl (by kernel_rfl) ?_
  refine AR (AJ (((Ac.l0.comp AH.l2).comp (AS.arr (n := 6) Al.fl (by first | omega | (dsimp only; omega) | (have := Cg (d.tmod 3 + 3 + k); omega)) (by first | omega | (dsimp only; omega) | (have := Cg (d.tmod 3 + 3 + k); omega)))).comp Al.l4) rfl rfl rfl Cy rfl .h) ?_
  refine BK rfl ⟨?_, ?_⟩
  · exact (Pk (Pk (Pk (Pk (Pk (Pk (Pk (Pk (Pk (Pk (Pk (Pk (Pk (Pk (Pk Ar)))))))))))))))
  refine A1 (by kernel_rfl) ?_
  refine AB (.t7 1 2 4 7 10 12 18) ?_
  refine AA (Ap ?_)
  have hl1 : y4.len = 1 := y5
  refine AI (Gm rfl (Gm rfl (Gt (BR rfl) (Gt (Ai CB rfl) (Gt (AG rfl DT .m0 Ac.l2 rfl rfl) ?_)))))
  refine CO Ing.Event.fl rfl Tryz.underlying53 Mn Hk rfl WR (by decide) (by decide) rfl rfl (fun w hS => Src.DU Tryz.underlying53 ((Kn.own .m1) w hS)) (by (try dsimp only at *); omega) (fun _ => (.t (.t (.t .h)))) (fun h6 h6l h6z => ?_)
  refine Ga rfl (Gn (.t7 1 2 4 7 10 12 18) (Gs (Gm rfl (Gt (BR rfl) (Gt (Ai A5 rfl) (Gt (AZ rfl BT .m0 Ac.l0 rfl) ?_))))))
  refine AR (AJ (AS.id AH.fl.len AH.fl.one) rfl rfl rfl Dq rfl (.t (.t (.t (.t .h))))) ?_
  refine Gn (.t6 1 2 4 7 10 18) (Gs (Gm rfl (Gt (Ai Bi rfl) ?_)))
  refine Gt (AQ Cr rfl rfl (by first | omega | (dsimp only; omega) | (have := Cg (d.tmod 3 + 3 + k); omega)) (by first | omega | (dsimp only; omega) | (have := Cg (d.tmod 3 + 3 + k); omega))) ?_
  refine Gt (Ai JA rfl) ?_
  refine Gt (AG rfl A2 .m4 ((AH.l2.comp (AS.arr (n := 6) Al.fl (by first | omega | (dsimp only; omega) | (have := Cg (d.tmod 3 + 3 + k); omega)) (by first | omega | (dsimp only; omega) | (have := Cg (d.tmod 3 + 3 + k); omega)))).comp Al.l4) rfl rfl) ?_
  refine Gt (Af rfl rfl) (Gn (.t7 1 2 4 7 10 18 102) ?_)
  refine Gc (fun c5 => ?_) (fun c5 => ?_)
  ·
   have c5p := kz c5
   refine Gs (Ga rfl (Gn (.t6 1 2 4 7 10 18) (Gs (Gt (AZ rfl BT .m4 (AS.id AH.fl.len AH.fl.one) rfl) (Gm rfl ?_)))))
   refine BC rfl ae (.c rfl (.c rfl .n)) .n (Nj (AF.CD s.1 k ((s.1.AV.at k).B1 - 1) (AF.Kk d k)).w ((s.1.AV.at k).B1 - 1) hsf) (fun w hS => gl0.pull gm0 hS .n) (fun v7 B hv => ?_)
   obtain ⟨y8, rfl, y9, rfl⟩ := hv
   refine Gm rfl (Gt (AK rfl rfl) (Gt (AK rfl rfl) ?_))
   refine AR (AJ (AS.id AH.fl.len AH.fl.one) rfl rfl rfl Dq rfl (.t (.t (.t (.t (.t .h)))))) ?_
   refine Ga rfl (Gn (.t6 1 2 4 7 13 18) ?_)
   have hl2 : y8.len ≤ 12 := by rw [y9]; exact (AF.Oj hsf).2.2
   refine AI (Gm rfl (Gm rfl ?_))
   refine CO Ing.Event.fl rfl Tryz.underlying53 Mn Hk rfl WR (by decide) (by decide) rfl rfl (fun w hS => Src.DU Tryz.underlying53 ((Kn.own .m0) w hS)) (by (try dsimp only at *); omega) (fun _ => (.t (.t (.t (.t .h))))) (fun h11 h11l h11z => ?_)
   refine Ga rfl ?_
   refine AO (AB (.t5 1 2 4 7 18) ?_)
   refine AT (AA (AI ?_))
   refine Gt (As rfl rfl (IntWalk.i64_in _ (by first | omega | (dsimp only; omega) | (have := Cg (d.tmod 3 + 3 + k); omega)))) ?_
   refine Gm rfl ?_
   refine AO (AB (.t5 1 2 4 7 18) ?_)
   refine Bt (k + 1) (((AF.IC (AF.CD s.1 k ((s.1.AV.at k).B1 - 1) (AF.Kk d k)).w ((s.1.AV.at k).B1 - 1)).w, (s.2 ++ (AF.CD s.1 k ((s.1.AV.at k).B1 - 1) (AF.Kk d k)).out) ++ (AF.IC (AF.CD s.1 k ((s.1.AV.at k).B1 - 1) (AF.Kk d k)).w ((s.1.AV.at k).B1 - 1)).out)) _ ?_ ?_ (.t5 7 18 1 2 4) (.cons _ (.cons _ (.cons _ (.cons _ (.refl _)))))
   · have hrs : AF.El d k s = _ := ((AU c3).trans ((AU c4).trans (A9 c5)))
     have hrg := AF.Fv (draw := d) hI14 hI15 hI11 (by omega)
     rw [hrs] at hrg
     exact ⟨by omega, by omega, by rw [AF.HB hI11, ← hI13, hrs], hrg.1, hrg.2.1, (by have := hrg.2.2; omega), (by first | assumption | (have hso : (AF.CD s.1 k ((s.1.AV.at k).B1 - 1) (AF.Kk d k)).out.length = 1 := rfl; (try dsimp only at *); simp only [List.length_append] at *; omega))⟩
   · omega
  have c5p := kz c5
  refine Aa ?_
  refine AB (.t5 1 2 4 7 18) ?_
  refine AT (AA (AI ?_))
  refine Gt (As rfl rfl (IntWalk.i64_in _ (by first | omega | (dsimp only; omega) | (have := Cg (d.tmod 3 + 3 + k); omega)))) ?_
  refine Gm rfl ?_
  refine AO (AB (.t5 1 2 4 7 18) ?_)
  refine Bt (k + 1) (((AF.CD s.1 k ((s.1.AV.at k).B1 - 1) (AF.Kk d k)).w, s.2 ++ (AF.CD s.1 k ((s.1.AV.at k).B1 - 1) (AF.Kk d k)).out)) _ ?_ ?_ (.t5 7 18 1 2 4) (.cons _ (.cons _ (.cons _ (.refl _))))
  · have hrs : AF.El d k s = _ := ((AU c3).trans ((AU c4).trans (AU c5)))
    have hrg := AF.Fv (draw := d) hI14 hI15 hI11 (by omega)
    rw [hrs] at hrg
    exact ⟨by omega, by omega, by rw [AF.HB hI11, ← hI13, hrs], hrg.1, hrg.2.1, (by have := hrg.2.2; omega), (by first | assumption | (have hso : (AF.CD s.1 k ((s.1.AV.at k).B1 - 1) (AF.Kk d k)).out.length = 1 := rfl; (try dsimp only at *); simp only [List.length_append] at *; omega))⟩
  · omega
 have c2p := kz c2
 obtain rfl : k = 6 := by omega
 refine BX (AW (AW (Ag ?_)))
 refine AB (.t3 2 4 7) ?_
 refine AA (Gs (Gt (AZ rfl BT .m1 (AS.id AH.fl.len AH.fl.one) rfl) (Gm rfl ?_)))
 refine AR (AJ (AS.id AH.fl.len AH.fl.one) rfl rfl rfl Dq rfl (.t (.t .h))) ?_
 refine Ga rfl (Ga rfl (Gn (.t3 4 5 6) (Ab ?_)))
 refine AY rfl (.cell rfl .m2 (.inl ⟨(by rw [AH.fl.len]; exact BT), rfl⟩) (.tmp rfl (.tmp rfl .n))) ?_
 intro w1 hS
 have hS := (hS.perm (Av.perm (.c .h .n))).Az
 have hq : AF.CY X d = ((AF.D9 X d 6).1, (AF.D9 X d 6).2, 0) := AU c1
 have hs6 : s = AF.D9 X d 6 := hI13
 rw [← hs6] at hq
 refine ⟨_, ⟨h, ?hv, ?hl, ?hB⟩, hS⟩
 case hv => rw [hq]; (try rfl)
 case hl => rw [hq]; exact hI17
 case hB => rw [hq]; (try rfl)
theorem D6 (p : Aw) (s : Aq) (hs : s.length ≤ 9000000000000000000) (w : World) : EL Tryz.prog 62 #[.agg p.enc.toArray, BQ s] w fun v w' => v = .tuple #[.agg (Aw.enc ⟨p.wait, (Page.send p s).1.shown, (Page.send p s).1.CA, (Page.send p s).1.ring, (Page.send p s).1.cut⟩).toArray, .int .i64 (Page.send p s).2] ∧ B4 w w' := by
 refine Am [] [] Tryz.func62 rfl rfl rfl (St.start w []) ?_
 refine Gs ?_
 refine B3 rfl rfl rfl (fun b1 => ?_)
 refine BF rfl VK rfl (fun b2 => ?_)
 refine Ga rfl (Gn (.t3 1 2 4) (Ap (Ae (Gs (Gt (AZ rfl Cn .m1 (AS.id Aw.fl.len Aw.fl.one) rfl) ?_)))))
 refine A7 rfl X3 (.c rfl .n) (fun w hS => GD _ w) ?_
 refine Gt (BS rfl) (Ga rfl (Gn (.t4 1 2 4 6) ?_))
 refine Gc (fun c1 => ?_) (fun c1 => ?_)
 ·
  refine Gs (Gt (AZ rfl Cn .m1 (AS.id Aw.fl.len Aw.fl.one) rfl) ?_)
  refine AR (AJ (AS.id Aw.fl.len Aw.fl.one) rfl rfl rfl FC rfl .h) ?_
  refine Ga rfl (Gn (.t2 4 5) (Ab (AP (AD ?_))))
  refine AY rfl (.cell rfl .m0 (.inl ⟨(by rw [Aw.fl.len]; exact Cn), rfl⟩) (.tmp rfl .n)) ?_
  intro w1 hS; refine ⟨?_, hS.Aj⟩; simp only [Page.send, Page.put, Page.of, c1, ↓reduceIte, Bool.false_eq_true]; rfl
 have c1p := kz c1
 have hg := (Page.Gx p).1 (by simpa using c1)
 refine Gs (Gt (Ai J8 rfl) (Gt (AG rfl DV .m1 Aw.l4 rfl rfl) (Ga rfl (Gn (.t4 1 2 4 11) ?_))))
 refine Gc (fun c2 => ?_) (fun c2 => ?_)
 ·
  refine Gs (Gt (AZ rfl Cn .m1 (AS.id Aw.fl.len Aw.fl.one) rfl) ?_)
  refine AR (AJ (AS.id Aw.fl.len Aw.fl.one) rfl rfl rfl FC rfl .h) ?_
  refine Ga rfl (Gn (.t2 4 5) (Ab (AP (AD ?_))))
  refine AY rfl (.cell rfl .m0 (.inl ⟨(by rw [Aw.fl.len]; exact Cn), rfl⟩) (.tmp rfl .n)) ?_
  intro w1 hS; refine ⟨?_, hS.Aj⟩; rw [show Page.send p s = (Page.of p, 6) from by simp only [Page.send, c1, c2, ↓reduceIte, Bool.false_eq_true]]; rfl
 have c2p := kz c2
 refine Gs (Gm rfl (Gt (BE rfl Tryz.underlying9 rfl) (Gt (Ai JL rfl) (Gt (AG rfl CN .m1 Aw.l3 rfl rfl) (Gt (BE rfl Tryz.underlying9 rfl) ?_)))))
 refine Gt (Ex rfl rfl (IntWalk.i64_in _ (by first | omega | (simp at *; omega)))) ?_
 refine Gt (CS rfl rfl) (Ga rfl (Gn (.t4 1 2 4 15) ?_))
 refine Gc (fun c3 => ?_) (fun c3 => ?_)
 ·
  refine Gs (Gt (Ai J8 rfl) ?_)
  refine AR (AJ Aw.l4 rfl rfl rfl Jf rfl (.t .h)) ?_
  refine Gn (.t2 2 4) (Gs (Gt (AZ rfl Cn .m1 (AS.id Aw.fl.len Aw.fl.one) rfl) ?_))
  refine AR (AJ (AS.id Aw.fl.len Aw.fl.one) rfl rfl rfl FC rfl .h) ?_
  refine Ga rfl (Gn (.t2 4 5) (Ab (AP (AD ?_))))
  refine AY rfl (.cell rfl .m0 (.inl ⟨(by rw [Aw.fl.len]; exact Cn), rfl⟩) (.tmp rfl .n)) ?_
  intro w1 hS; refine ⟨?_, hS.Aj⟩; simp only [Page.send, Page.put, Page.of, c1, c2, c3, ↓reduceIte, Bool.false_eq_true]; rfl
 have c3p := kz c3
 refine Aa ?_
 refine AB (.t3 1 2 4) ?_
 refine AT (AA (Gs (Gt (Ai JL rfl) (Gt (AG rfl CN .m1 Aw.l3 rfl rfl) (Gm rfl ?_)))))
 refine Gt (CM rfl rfl (by first | omega | (simp at *; omega))) ?_
 refine Gt (Ai JL rfl) ?_
 refine AR (AJ Aw.l3 rfl rfl rfl Ei rfl (.t .h)) ?_
 refine Gn (.t2 2 4) (Gs (Gt (AZ rfl Cn .m1 (AS.id Aw.fl.len Aw.fl.one) rfl) ?_))
 refine AR (AJ (AS.id Aw.fl.len Aw.fl.one) rfl rfl rfl FC rfl .h) ?_
 refine Ga rfl (Gn (.t2 4 5) (Ab ?_))
 refine AY rfl (.cell rfl .m0 (.inl ⟨(by rw [Aw.fl.len]; exact Cn), rfl⟩) (.tmp rfl .n)) ?_
 intro w1 hS; refine ⟨?_, hS.Aj⟩; simp only [Page.send, Page.put, Page.of, c1, c2, c3, ↓reduceIte, Bool.false_eq_true]; rfl
theorem G2 (b : Nat) (m : Int) (h0 : 0 < m) (h1 : m ≤ 281474976710656) : JU Tryz.prog 186 #[.pointer (some ⟨b, 0, none⟩), .int .i64 m] [Ad.box b 107 (DC.enc ⟨some ⟨b, 0, none⟩, ⟨none, 0, 0⟩⟩)] (fun v B => ∃ h', v = .tuple #[] ∧ h'.Z ∧ h'.len = 0 ∧ B = [Ad.box b 107 (DC.enc ⟨some ⟨b, 0, none⟩, h'⟩), Ad.own h' 5 1 (([] : Aq).flatMap C8)]) := by
 intro w hS0
 refine Am _ _ Tryz.func186 rfl rfl rfl (hS0) ?_
 refine Ap ?_
 refine BD (N := 16) [0, 1, 3, 7, 15, 31, 0, 127, 255, 0, 512, 1536, 3584, 7680, 16383, 32767] mix (by kernel_rfl) rfl ?_
 refine Pf 0 rfl (AE rfl) (Pf 1 rfl (BR rfl) (Pf 2 rfl (Ai EU rfl) (Pf 3 rfl (AG rfl HR .m0 DC.l1 rfl rfl) (Pf 4 rfl (Kt rfl Tryz.underlying105 rfl) ?_))))
 refine Pf 5 rfl (Vb rfl rfl (IntWalk.i64_in _ (by first | omega | (dsimp only; omega)))) ?_
 refine Pf 6 rfl (AE rfl) ?_
 refine Pf 7 rfl (As rfl rfl (IntWalk.i64_in _ (by first | omega | (dsimp only; omega)))) ?_
 refine Pf 9 rfl (AE rfl) (Pf 10 rfl (BR rfl) (Pf 11 rfl (Ai EU rfl) (Pf 12 rfl (AG rfl HR .m0 DC.l1 rfl rfl) (Pf 13 rfl (Ao rfl Tryz.underlying105 rfl) ?_))))
 refine An 8 rfl (by kernel_rfl) ?_
 refine RN (ps := #[3]) rfl Tryz.func193 (by kernel_rfl) (by kernel_rfl) (by kernel_rfl) (by kernel_rfl) Tryz.underlying105 UO rfl (by first | omega | (dsimp only; omega)) (by first | omega | (dsimp only; omega)) (fun b1 b1c b1x b1l b1k => ?_)
 refine Bo rfl ⟨?_, ?_⟩
 · exact (Po rfl (Ao rfl Tryz.underlying105 rfl) rfl rfl (Po rfl (AG rfl HR .m1 DC.l1 rfl rfl) rfl rfl (Po rfl (Ai EU rfl) rfl rfl (Po rfl (BR rfl) rfl rfl (Po rfl (AE rfl) rfl rfl (Pk (Pk (Pk (Pk (Pk (Pk (Pk (Pk Ar)))))))))))))
 refine An 14 rfl (by kernel_rfl) ?_
 refine JP Uf rfl Tryz.underlying105 UO rfl rfl (by first | omega | (dsimp only; omega)) (by first | omega | (dsimp only; omega)) (fun _ => .h) ?_
 refine Bo rfl ⟨?_, ?_⟩
 · exact (Pk (Pk (Pk (Pk (Pk (Pk (Pk (Pk (Pk (Pk (Pk (Pk (Pk Ar)))))))))))))
 refine Pf 15 rfl (Ay rfl) ?_
 refine A1 (by kernel_rfl) ?_
 refine AB (.t2 0 4) ?_
 refine AA (Gs (Gm rfl (Gm rfl (Gt (BR rfl) (Gt (Ai EU rfl) (Gt (AG rfl HR .m1 DC.l1 rfl rfl) (Gt (VT rfl Tryz.underlying105 UO rfl rfl) ?_)))))))
 refine Gn (.t2 0 4) (AI (Gm rfl (Gm rfl (Gt (BR rfl) (Gt (Ai EU rfl) ?_)))))
 refine AR (AJ DC.l1 rfl rfl rfl Sl rfl (.t .h)) ?_
 refine AO ?_
 refine Be rfl .n ?_
 intro w1 hS
 have hS := (hS.perm (Av.perm (.c (.t .h) (.c .h .n)))).Az
 exact ⟨_, ⟨_, rfl, ⟨by intro a h; cases h; rfl, fun _ => by dsimp only at b1k ⊢; omega⟩, rfl, rfl⟩, hS⟩
theorem G5 (b : Nat) (m : Int) (h0 : 0 ≤ m) (h1 : m ≤ 281474976710656) : JU Tryz.prog 175 #[.pointer (some ⟨b, 0, none⟩), .int .i64 m] [Ad.box b 107 (DC.enc ⟨none, ⟨none, 0, 0⟩⟩)] (fun v B => ∃ h', v = .tuple #[] ∧ h'.Z ∧ h'.len = 0 ∧ B = [Ad.box b 107 (DC.enc ⟨some ⟨b, 0, none⟩, h'⟩), Ad.own h' 5 1 (([] : Aq).flatMap C8)]) := by
 intro w hS0
 refine Am _ _ Tryz.func175 rfl rfl rfl (hS0) ?_
 refine Gs (Gm rfl ?_)
 refine Ah rfl X5 (.c rfl .n) (.c .h .n) (Ct _ _ _ (.inl rfl)) (fun v1 B hv => ?_)
 obtain ⟨rfl, rfl⟩ := hv
 refine Gn (.t2 0 1) (B7 (Gm rfl (Gt (A6 rfl rfl) (Gn (.t3 0 1 7) ?_))))
 refine EE rfl (by simp; omega) ?_
 refine Aa ?_
 refine AB (.t2 0 1) ?_
 refine AA (Ap ?_)
 refine BD (N := 13) [0, 1, 3, 7, 15, 0, 32, 96, 224, 480, 1023, 0, 4095] mix (by kernel_rfl) rfl ?_
 refine Pf 0 rfl (AE rfl) (Pf 1 rfl (BR rfl) (Pf 2 rfl (Ai EU rfl) (Pf 3 rfl (AG rfl HR .m0 DC.l1 rfl rfl) (Pf 4 rfl (Kt rfl Tryz.underlying105 rfl) (Pf 5 rfl (AE rfl) (Pf 6 rfl (BR rfl) (Pf 7 rfl (Ai EU rfl) ?_)))))))
 refine Pf 8 rfl (AG rfl HR .m0 DC.l1 rfl rfl) (Pf 9 rfl (Ao rfl Tryz.underlying105 rfl) ?_)
 refine Pf 10 rfl (Ex rfl rfl (IntWalk.i64_in _ (by first | omega | (dsimp only; omega)))) ?_
 refine Pf 11 rfl (AE rfl) (Pf 12 rfl (A6 rfl rfl) ?_)
 refine A1 (by kernel_rfl) ?_
 refine AB (.t3 0 1 21) ?_
 refine AA ?_
 refine Gc (fun c1 => ?_) (fun c1 => ?_)
 ·
  have c1p := kz c1
  refine AI (Gm rfl (Gm rfl ?_))
  refine Ah rfl Yt (.c rfl (.c rfl .n)) (.c .h .n) (G2 _ _ (by dsimp only at *; omega) h1) (fun v2 B hv => ?_)
  obtain ⟨y3, rfl, y4, y5, rfl⟩ := hv
  refine AO ?_
  refine Be rfl .n ?_
  intro w1 hS
  have hS := (hS.perm (Av.perm (.c .h (.c .h .n)))).Az
  exact ⟨_, ⟨_, rfl, by assumption, by assumption, rfl⟩, hS⟩
 refine Aa ?_
 refine Be rfl .n ?_
 intro w1 hS
 have hS := hS.Cd 5 1
 have hS := (hS.perm (Av.perm (.c (.t .h) (.c .h .n)))).Az
 exact ⟨_, ⟨_, rfl, Hd.S2, rfl, rfl⟩, hS⟩
theorem JI (s : Aq) (hs : s.length ≤ 70368744000000) (w : World) : EL Tryz.prog 158 #[BQ s, BQ [255], BQ [255, 255], .int .i64 (-1)] w fun v w' => v = BQ (Page.escape s) ∧ B4 w w' := by
 have hcl := List.count_le_length (a := (255 : UInt8)) (l := s)
 refine Am [] [] Tryz.func158 rfl rfl rfl (St.start w []) ?_
 refine Gs (Ga rfl (Gn (.t4 0 1 2 3) (B7 (Gm rfl (Gm rfl (Gt (Bs rfl rfl) (Gm rfl ?_)))))))
 refine BU 19 rfl rfl (fun q => AE rfl) (BU 19 rfl rfl (fun q => Af (cF rfl q) rfl) ?_)
 refine Gt (BP rfl rfl (fun h => by rw [h]; rfl)) ?_
 refine Gn (.t5 0 1 2 3 22) ?_
 refine EE rfl (by simp) ?_
 refine Aa ?_
 refine AB (.t4 0 1 2 3) ?_
 refine AA (B7 (Gm rfl (Gm rfl ?_)))
 refine A7 rfl XZ (.c rfl (.c rfl .n)) (fun w hS => Gp _ 255 w) ?_
 refine Ga rfl (Gn (.t5 0 1 2 3 9) (Gs (Gm rfl (Gt (Af rfl rfl) (Gn (.t6 0 1 2 3 9 28) ?_)))))
 refine Gc (fun c1 => ?_) (fun c1 => ?_)
 ·
  have c1p := kz c1
  refine Gs (Gm rfl (Ga rfl (Gn (.t1 8) (Ab (AD ?_)))))
  refine AY rfl (.tmp rfl .n) ?_
  intro w1 hS; refine ⟨?_, hS.Aj⟩; have e : s.count 255 = 0 := by simp at c1; omega
  rw [Page.Le _ e]; rfl
 have c1p := kz c1
 refine Gs (Gm rfl (Gt (A6 rfl rfl) (Gm rfl (BU 32 rfl rfl (fun q => AE rfl) (BU 32 rfl rfl (fun q => AE rfl) (BU 32 rfl rfl (fun q => A6 (cF rfl q) (cF rfl q)) ?_))))))
 refine Gt (BP rfl rfl (fun h => by rw [h]; rfl)) ?_
 refine Gn (.t6 0 1 2 3 9 36) ?_
 refine GJ rfl rfl ?_
 refine AI (Gm rfl (Ga rfl (Gn (.t4 0 1 2 3) (Gs ?_))))
 refine BF rfl Sq rfl (fun b1 => ?_)
 refine C9 C8 5 1 ?_
 refine AO (AA (Gs (Gm rfl (Gt (BE rfl Tryz.underlying9 rfl) (Gm rfl (Gm rfl (Gt (BE rfl Tryz.underlying9 rfl) ?_)))))))
 refine Gm rfl (Gt (BE rfl Tryz.underlying9 rfl) ?_)
 refine Gt (Ex rfl rfl (IntWalk.i64_in _ (by (try simp only [List.length_cons, List.length_nil]); omega))) ?_
 refine Gt (Vb rfl rfl (IntWalk.i64_in _ (by (try simp only [List.length_cons, List.length_nil]); omega))) ?_
 refine Gt (As rfl rfl (IntWalk.i64_in _ (by (try simp only [List.length_cons, List.length_nil]); omega))) ?_
 refine Ah rfl ZK (.c rfl (.c rfl .n)) (.c (.t .h) .n) (G5 _ _ (by simp only [List.length_cons, List.length_nil]; omega) (by simp only [List.length_cons, List.length_nil]; omega)) (fun v1 B hv => ?_)
 obtain ⟨y2, rfl, y3, y4, rfl⟩ := hv
 refine Gn (.t5 0 1 2 3 10) (Gs (Ga rfl (AO (AA (B7 (Gm rfl (Gt (BE rfl Tryz.underlying9 rfl) ?_)))))))
 refine Gt (CS rfl rfl) (Gn (.t7 0 1 2 3 10 11 51) ?_)
 refine GJ rfl (by simp) ?_
 refine Gs (Gm rfl (Gm rfl (Gn (.t7 0 1 2 10 11 52 53) (Ae ?_))))
 refine Bl (.t7 11 53 0 1 2 10 52) ?_
 refine BZ (.t .h) ?_
 refine BZ (.t .h) ?_
 refine NW (fun (k : Int) (start : Int) (x : Aq) (p : Option Addr) (h : Hd) => Page.Pc s (s.count 255) k start x ∧ (p = none ∨ p = some ⟨b1, 0, none⟩) ∧ h.Z ∧ h.len = x.length) (fun (k : Int) (start : Int) (x : Aq) (p : Option Addr) (h : Hd) => ((s.count 255 : Int) - k).toNat) (fun (k : Int) (start : Int) (x : Aq) (p : Option Addr) (h : Hd) => [(11, .int .i64 start), (53, .int .i64 k)]) (fun (k : Int) (start : Int) (x : Aq) (p : Option Addr) (h : Hd) => [Ad.box b1 107 (DC.enc ⟨p, h⟩), Ad.own h 5 1 (x.flatMap C8)]) (0) (0) ([]) (_) (_) ?_ rfl rfl (fun k start x p h hI1 => ?_)
 · exact ⟨Page.Pc.start rfl, .inr rfl, by assumption, by assumption⟩
 obtain ⟨hI11, hp, hz, hl⟩ := hI1; have hk0 := hI11.k0; have hs0 := hI11.s0; have hs1 := hI11.s1; have hxl := hI11.xl
 refine Gs (Gt (A6 rfl rfl) (AO (AA (Ap ?_))))
 refine Gc (fun c2 => ?_) (fun c2 => ?_)
 ·
  have c2p := kz c2
  obtain ⟨i, hi, hlt, hR⟩ := hI11.idx (by omega)
  rw [← hi] at hR hlt
  refine Aa ?_
  refine AB (.t7 0 1 2 10 11 52 53) ?_
  refine AA (Ap (Ae (Gs (Gm rfl (Gm rfl (Gm rfl ?_))))))
  refine Gt (Fx Tryz.underlying9 rfl rfl (by (try simp only [List.length_cons, List.length_nil]); omega) (by (try simp only [List.length_cons, List.length_nil]); omega)) ?_
  refine Gm rfl ?_
  refine A7 rfl WD (.c rfl (.c rfl .n)) (fun w hS => E0 _ 255 w) ?_
  refine Gt (As rfl rfl (IntWalk.i64_in _ (by (try simp only [List.length_cons, List.length_nil]); omega))) ?_
  refine Ga rfl (Gn (.t8 0 1 2 10 11 12 52 53) (Gs (Gm rfl (Gm rfl (Gm rfl ?_)))))
  refine Gt (XT Tryz.underlying9 rfl rfl rfl (by (try simp only [List.length_cons, List.length_nil]); omega) (by (try simp only [List.length_cons, List.length_nil]); omega) (by (try simp only [List.length_cons, List.length_nil]); omega)) ?_
  refine Ah rfl N5 (.c rfl (.c rfl .n)) (.c .h (.c .h .n)) (BH _ _ _ _ (by assumption) (by assumption) (by assumption) _ (by (try simp only [List.length_drop, List.length_take, List.length_append, List.length_cons, List.length_nil]); omega)) (fun v6 B hv => ?_)
  obtain ⟨y7, y8, rfl, y9, y10, y11, rfl⟩ := hv
  refine Gn (.t7 0 1 2 10 12 52 53) (Gs (Gm rfl ?_))
  refine Ah rfl N5 (.c rfl (.c rfl .n)) (.c .h (.c .h .n)) (BH _ _ _ _ (by assumption) (by assumption) (by assumption) _ (by (try simp only [List.length_drop, List.length_take, List.length_append, List.length_cons, List.length_nil]); omega)) (fun v12 B hv => ?_)
  obtain ⟨y13, y14, rfl, y15, y16, y17, rfl⟩ := hv
  refine Gn (.t7 0 1 2 10 12 52 53) (AI (Gm rfl (Gm rfl (Gt (BE rfl Tryz.underlying9 rfl) ?_))))
  refine Gt (As rfl rfl (IntWalk.i64_in _ (by (try simp only [List.length_cons, List.length_nil]); omega))) ?_
  refine Ga rfl ?_
  refine AO (AB (.t7 0 1 2 10 11 52 53) ?_)
  refine AT (AA (AI ?_))
  refine Gt (As rfl rfl (IntWalk.i64_in _ (by (try simp only [List.length_cons, List.length_nil]); omega))) ?_
  refine Gm rfl ?_
  refine AO (AB (.t7 0 1 2 10 11 52 53) ?_)
  refine Hq (k + 1) _ _ _ _ ?_ ?_ (.t7 11 53 0 1 2 10 52) (.refl _)
  · exact ⟨hR, by assumption, by assumption, by assumption⟩
  · omega
 have c2p := kz c2
 refine BX (AW (AW (Ag ?_)))
 refine AB (.t3 0 10 11) ?_
 refine AA (Gs (Gm rfl (Gm rfl ?_)))
 refine Gt (Fx Tryz.underlying9 rfl rfl (by (try simp only [List.length_cons, List.length_nil]); omega) (by (try simp only [List.length_cons, List.length_nil]); omega)) ?_
 refine Ah rfl N5 (.c rfl (.c rfl .n)) (.c .h (.c .h .n)) (BH _ _ _ _ (by assumption) (by assumption) (by assumption) _ (by (try simp only [List.length_drop, List.length_take, List.length_append, List.length_cons, List.length_nil]); omega)) (fun v18 B hv => ?_)
 obtain ⟨y19, y20, rfl, y21, y22, y23, rfl⟩ := hv
 refine Gn (.t1 10) (Gs ?_)
 refine Ah rfl Wc (.c rfl .n) (.c .h (.c .h .n)) (Ch _ _ _ _ (by assumption) (by assumption) (by (try simp only [List.length_append, List.length_drop]); omega)) (fun v24 B hv => ?_)
 obtain ⟨rfl, rfl⟩ := hv
 refine Ga rfl (Gn (.t1 8) (Ab ?_))
 refine AY rfl (.tmp rfl .n) ?_
 intro w1 hS; refine ⟨?_, hS.Aj⟩; rw [← hI11.done (by omega)]; rfl
theorem Hy (s : Aq) (hs : s.length ≤ 70368744000000) (w : World) : EL Tryz.prog 126 #[BQ s, BQ [255], BQ [255, 255]] w fun v w' => v = BQ (Page.escape s) ∧ B4 w w' := by
 refine Am [] [] Tryz.func126 rfl rfl rfl (St.start w []) ?_
 refine Gs (Ga rfl (Gn (.t3 0 1 2) (Gs (Gm rfl (Gm rfl (Gm rfl ?_))))))
 refine A7 rfl Zi (.c rfl (.c rfl (.c rfl (.c rfl .n)))) (fun w hS => JI _ (by first | assumption | omega) w) ?_
 refine Ga rfl (Gn (.t1 6) (Ab ?_))
 refine AY rfl (.tmp rfl .n) ?_
 intro w1 hS; refine ⟨?_, hS.Aj⟩; rfl
theorem Jo (s : Aq) (hs : s.length ≤ 70368744000000) (w : World) : EL Tryz.prog 98 #[BQ s] w fun v w' => v = BQ (Page.escape s) ∧ B4 w w' := by
 refine Am [] [] Tryz.func98 rfl rfl rfl (St.start w []) ?_
 refine Gs (Ga rfl (Gn (.t1 0) (Gs (Gm rfl ?_))))
 refine A7 rfl Yu (.c rfl (.c rfl (.c rfl .n))) (fun w hS => Hy _ (by first | assumption | omega) w) ?_
 refine Ga rfl (Gn (.t1 2) (Ab ?_))
 refine AY rfl (.tmp rfl .n) ?_
 intro w1 hS; refine ⟨?_, hS.Aj⟩; rfl
theorem Lx {t0 : Nat} (p : Aw) (qs : List Aq) (top : Int) (hs : ∀ s ∈ qs, s.length ≤ 70368744000000) : Ew Tryz.prog 83 #[.agg p.enc.toArray, .int .i64 top] [] (fun w => Rd w p.wait t0 1 (qs.flatMap A4) ∧ p.wait.len ≤ p.wait.cap) (fun v B => ((!Page.Bq p || decide (top < 0) || decide (200 < top)) = true ∧ v = .tuple #[.agg p.enc.toArray, .int .i64 2] ∧ B = []) ∨ ((!Page.Bq p || decide (top < 0) || decide (200 < top)) = false ∧ ∃ (T : Nat) (h' g : Hd) (zs : List Aq), v = .tuple #[.agg (Aw.enc ⟨h', (Page.Bz top qs (Page.of p)).1.shown, (Page.Bz top qs (Page.of p)).1.CA, (Page.Bz top qs (Page.of p)).1.ring, (Page.Bz top qs (Page.of p)).1.cut⟩).toArray, .int .i64 0] ∧ h'.len = (Page.Bz top qs (Page.of p)).2.length ∧ Ym T h' (Page.Bz top qs (Page.of p)).2 t0 p.wait qs 9 g zs ∧ B = [Ad.own g 9 1 (zs.flatMap A4)])) := by
 intro w hS0 hH
 obtain ⟨r0, k0⟩ := hH
 have hl0 := r0.K1 DB (by decide)
 refine Am _ _ Tryz.func83 rfl rfl rfl (hS0) ?_
 refine Gs ?_
 refine B3 rfl rfl rfl (fun b1 => ?_)
 refine BF rfl VK rfl (fun b2 => ?_)
 refine Ga rfl (Gn (.t3 1 2 4) (B7 (Gt (AZ rfl Cn .m1 (AS.id Aw.fl.len Aw.fl.one) rfl) ?_)))
 refine A7 rfl X3 (.c rfl .n) (fun w hS => GD _ w) ?_
 refine Gt (BS rfl) (Gm rfl (BU 10 rfl rfl (fun q => AE rfl) (BU 10 rfl rfl (fun q => A6 (cF rfl q) rfl) ?_)))
 refine Gt (BP rfl rfl (fun h => by rw [h]; rfl)) ?_
 refine Gm rfl (BU 14 rfl rfl (fun q => AE rfl) (BU 14 rfl rfl (fun q => CS (cF rfl q) rfl) ?_))
 refine Gt (BP rfl rfl (fun h => by rw [h]; rfl)) ?_
 refine Gn (.t4 1 2 4 17) ?_
 refine Gc (fun c1 => ?_) (fun c1 => ?_)
 ·
  refine Gs (Gt (AZ rfl Cn .m1 (AS.id Aw.fl.len Aw.fl.one) rfl) ?_)
  refine AR (AJ (AS.id Aw.fl.len Aw.fl.one) rfl rfl rfl FC rfl .h) ?_
  refine Ga rfl (Gn (.t2 4 5) (Ab (AD ?_)))
  refine AY rfl (.cell rfl .m0 (.inl ⟨(by rw [Aw.fl.len]; exact Cn), rfl⟩) (.tmp rfl .n)) ?_
  intro w1 hS
  have hS := (hS.perm (Av.perm .n)).Az
  exact ⟨_, .inl ⟨c1, rfl, rfl⟩, hS⟩
 have c1p := kz c1
 have hgd : Page.Bq p = true ∧ 0 ≤ top ∧ top ≤ 200 := by simp at c1; exact ⟨c1.1.1, by omega, by omega⟩
 refine Aa ?_
 refine AB (.t3 1 2 4) ?_
 refine AA (Ap (Ae ?_))
 refine Bl (.t3 1 2 4) ?_
 refine EM A4 9 1 ?_
 refine BZ (.t (.t .h)) ?_
 refine BZ (.t .h) ?_
 refine U6 (fun (rest : List Aq) (sh : Int) (ak : Bool) (ring : Aq) (ct : Bool) (T : Nat) (hx : Hd) (g : Hd) (zs : List Aq) => Page.FI top qs (Page.of p) rest hx ⟨sh, ak, ring, ct⟩ ∧ Ym T hx rest t0 p.wait qs 9 g zs) (fun (rest : List Aq) (sh : Int) (ak : Bool) (ring : Aq) (ct : Bool) (T : Nat) (hx : Hd) (g : Hd) (zs : List Aq) => rest.length) (fun (rest : List Aq) (sh : Int) (ak : Bool) (ring : Aq) (ct : Bool) (T : Nat) (hx : Hd) (g : Hd) (zs : List Aq) => []) (fun (rest : List Aq) (sh : Int) (ak : Bool) (ring : Aq) (ct : Bool) (T : Nat) (hx : Hd) (g : Hd) (zs : List Aq) => [Ad.own g 9 1 (zs.flatMap A4), Ad.box b1 65 (Aw.enc ⟨hx, sh, ak, ring, ct⟩)]) (qs) (p.shown) (p.CA) (p.ring) (p.cut) (t0) (p.wait) (_) (_) ?_ rfl rfl (fun rest sh ak ring ct T hx g zs hI1 => ?_)
 · exact ⟨Page.FI.start hgd.1 hl0 hs, .inl ⟨rfl, rfl, rfl, rfl, rfl⟩⟩
 obtain ⟨hI11, hor⟩ := hI1; have hl := hI11.hl; have hn := hI11.n; have hr := hI11.ring; have hs0 := hI11.s0; have hs1 := hI11.s1; dsimp only at hr hs0 hs1
 refine B7 (Gt (Ai I6 rfl) (Gt (AG rfl FQ .m1 Aw.l0 rfl rfl) (Gt (Ao rfl Tryz.underlying52 rfl) (Gt (CS rfl rfl) (Gm rfl (Bh 23 rfl rfl (fun q => Ai P2 rfl) (Bh 23 rfl rfl (fun q => AG (Bc rfl q) DV .m1 Aw.l2 rfl rfl) ?_)))))))
 refine Bh 23 rfl rfl (fun q => BS (Bc rfl q)) (Gt (BI rfl rfl (fun h => h)) (Gm rfl (Bh 28 rfl rfl (fun q => Ai J8 rfl) (Bh 28 rfl rfl (fun q => AG (Bc rfl q) DV .m1 Aw.l4 rfl rfl) (Bh 28 rfl rfl (fun q => BS (Bc rfl q)) (Gt (BI rfl rfl (fun h => h)) (Gn (.t4 1 2 4 32) ?_)))))))
 refine Gc (fun c2 => ?_) (fun c2 => ?_)
 ·
  have c2p := kz c2
  have hc3 : 0 < rest.length ∧ ak = false ∧ ct = false := by simp at c2; exact ⟨by omega, c2.1.2, c2.2⟩
  obtain ⟨hc0, hak, hct⟩ := hc3
  obtain ⟨q, r, rfl⟩ := Bb.Sv (qs := rest) (by omega)
  refine Aa ?_
  refine AB (.t3 1 2 4) ?_
  refine AA (Ae (B7 (Gm rfl (Gt (CS rfl rfl) (Gm rfl (Bh 35 rfl rfl (fun q => Ai LC rfl) (Bh 35 rfl rfl (fun q => AG (Bc rfl q) A2 .m1 Aw.l1 rfl rfl) ?_)))))))
  refine Bh 35 rfl rfl (fun q => AE rfl) (Bh 35 rfl rfl (fun q => CL (Bc rfl q) (Bc rfl q)) (Gt (BI rfl rfl (fun h => h)) (Gn (.t4 1 2 4 40) ?_)))
  refine Gc (fun c3 => ?_) (fun c3 => ?_)
  ·
   have c3p := kz c3
   refine Gs (Gt (Ai P2 rfl) ?_)
   refine AR (AJ Aw.l2 rfl rfl rfl Jf rfl (.t .h)) ?_
   refine Gn (.t2 2 4) (Gs (Gt (AZ rfl Cn .m1 (AS.id Aw.fl.len Aw.fl.one) rfl) ?_))
   refine A7 rfl Vf (.c rfl (.c rfl .n)) (fun w hS => D6 _ _ (by first | omega | (have h1 := Page.Gu ((q :: r).getD (0 : Int).toNat []); have h2 := hI11.len ((q :: r).getD (0 : Int).toNat []) (by simp); simp only [List.length_append, List.length_cons, List.length_nil] at *; omega)) w) ?_
   refine Gm rfl (Gt (AK rfl rfl) (Gt (AK rfl rfl) ?_))
   refine AR (AJ (AS.id Aw.fl.len Aw.fl.one) rfl rfl rfl FC rfl (.t .h)) ?_
   refine Gn (.t2 2 4) (BX (AW ?_))
   refine Iw rfl ?_
   refine AW (Ag (AA (Gs (Gt (AZ rfl Cn .m1 (AS.id Aw.fl.len Aw.fl.one) rfl) ?_))))
   refine AR (AJ (AS.id Aw.fl.len Aw.fl.one) rfl rfl rfl FC rfl (.t (.t .h))) ?_
   refine Ga rfl (Gn (.t2 4 5) (Ab ?_))
   refine AY rfl (.cell rfl .m2 (.inl ⟨(by rw [Aw.fl.len]; exact Cn), rfl⟩) (.tmp rfl .n)) ?_
   intro w1 hS
   have hS := (hS.perm (Av.perm (.c .h .n))).Az
   have e := hI11.asks hak hct c3
   exact ⟨_, .inr ⟨c1, T, hx, g, zs, (by first | (rw [e]; done) | (rw [e]; rfl)), (by rw [e]; exact hI11.hl), (by rw [e]; exact hor), rfl⟩, hS⟩
  have c3p := kz c3
  refine Aa ?_
  refine AB (.t3 1 2 4) ?_
  refine AA (Gs (Gt (Ai I6 rfl) (Gt (AG rfl FQ .m1 Aw.l0 rfl rfl) ?_)))
  refine Gt (Bm Ij (by decide) (Yd hor (Kn.Hb r0) (Kn.own .m0)) rfl rfl (by omega) (by omega)) ?_
  refine Gt (DL rfl CN (Yd hor (Kn.Hb r0) (Kn.own .m0)) (by simp)) ?_
  refine Ga rfl (Gn (.t4 1 2 4 6) (Gs (Gt (Ai I6 rfl) (Gt (AG rfl FQ .m1 Aw.l0 rfl rfl) ?_))))
  refine Gt (Qn Tryz.underlying52 Ei rfl rfl (by decide) (by first | omega | (have h1 := Page.Gu ((q :: r).getD (0 : Int).toNat []); have h2 := hI11.len ((q :: r).getD (0 : Int).toNat []) (by simp); simp only [List.length_append, List.length_cons, List.length_nil] at *; omega))) ?_
  refine BC rfl UQ (.c rfl .n) .n (Bu _ r (by simp only [List.length_cons] at *; omega)) (fun w hS => by have h := (Kn.cut (l := 1) (r := hx.len) DB (Yd hor (Kn.Hb r0) (Kn.own .m0)) (by omega) (Nat.le_refl _) (ZS hor (S4.of k0) (S4.own .m0))) w hS; rw [show (((q :: r).take hx.len).drop 1) = r from by rw [List.take_of_length_le (by simp only [List.length_cons] at *; omega)]; rfl] at h; exact h) (fun v2 B hv => ?_)
  obtain ⟨y3, rfl, y4, rfl⟩ := hv
  refine Gt (Ai I6 rfl) ?_
  refine AR (AJ Aw.l0 rfl rfl rfl M3 rfl (.t (.t .h))) ?_
  refine Gn (.t4 1 2 4 6) (Gs (Gt (Ai LC rfl) (Gt (AG rfl A2 .m2 Aw.l1 rfl rfl) ?_)))
  refine Gt (As rfl rfl (IntWalk.i64_in _ (by first | omega | (have h1 := Page.Gu ((q :: r).getD (0 : Int).toNat []); have h2 := hI11.len ((q :: r).getD (0 : Int).toNat []) (by simp); simp only [List.length_append, List.length_cons, List.length_nil] at *; omega)))) ?_
  refine Gt (Kf rfl rfl) (Gt (Ai LC rfl) ?_)
  refine AR (AJ Aw.l1 rfl rfl rfl Cy rfl (.t (.t .h))) ?_
  refine Gn (.t4 1 2 4 6) ?_
  refine BD (N := 9) [0, 0, 2, 6, 15, 31, 63, 63, 127] mix (by kernel_rfl) rfl ?_
  refine Pf 0 rfl (AZ rfl Cn .m2 (AS.id Aw.fl.len Aw.fl.one) rfl) (Pf 1 rfl (AE rfl) ?_)
  refine BV 2 rfl rfl (by kernel_rfl) (KQ (Jn (Dp bJ (.c rfl .n) (fun w hS => Jo _ (hI11.len _ (by simp)) w)))) ?_
  refine Pf 3 rfl (CM rfl rfl (by first | omega | (have h1 := Page.Gu ((q :: r).getD (0 : Int).toNat []); have h2 := hI11.len ((q :: r).getD (0 : Int).toNat []) (by simp); simp only [List.length_append, List.length_cons, List.length_nil] at *; omega))) ?_
  refine BV 4 rfl rfl (by kernel_rfl) (KQ (Jn (Dp Vf (.c rfl (.c rfl .n)) (fun w hS => D6 _ _ (by first | omega | (have h1 := Page.Gu ((q :: r).getD (0 : Int).toNat []); have h2 := hI11.len ((q :: r).getD (0 : Int).toNat []) (by simp); simp only [List.length_append, List.length_cons, List.length_nil] at *; omega)) w)))) ?_
  refine Pf 5 rfl (AE rfl) (Pf 6 rfl (AK rfl rfl) (Pf 7 rfl (AK rfl rfl) ?_))
  refine An 8 rfl (by kernel_rfl) ?_
  refine AR (AJ (AS.id Aw.fl.len Aw.fl.one) rfl rfl rfl FC rfl (.t (.t .h))) ?_
  refine BK rfl ⟨?_, ?_⟩
  · exact (Po rfl (AK rfl rfl) rfl rfl (Pk (Pk (Pk (Pk (Pk (Pk (Pk Ar))))))))
  refine A1 (by kernel_rfl) ?_
  refine AB (.t3 1 2 4) ?_
  refine AT ?_
  refine CP (.c .h (.c (.t .h) (.c (.t .h) .n))) ?_
  refine CZ ?_
  refine TY (r) _ _ _ _ (9) _ _ (r) ?_ ?_ (.t3 1 2 4) (.refl _)
  · exact ⟨hI11.next hak hct c3 (by assumption) rfl, .inr ⟨rfl, rfl, rfl⟩⟩
  · simp only [List.length_cons]; omega
 refine BX (AW (AW (Ag ?_)))
 refine AB (.t2 2 4) ?_
 refine AA (Gs (Gt (AZ rfl Cn .m1 (AS.id Aw.fl.len Aw.fl.one) rfl) ?_))
 refine AR (AJ (AS.id Aw.fl.len Aw.fl.one) rfl rfl rfl FC rfl (.t (.t .h))) ?_
 refine Ga rfl (Gn (.t2 4 5) (Ab ?_))
 refine AY rfl (.cell rfl .m2 (.inl ⟨(by rw [Aw.fl.len]; exact Cn), rfl⟩) (.tmp rfl .n)) ?_
 intro w1 hS
 have hS := (hS.perm (Av.perm (.c .h .n))).Az
 have e := hI11.Zs c2
 exact ⟨_, .inr ⟨c1, T, hx, g, zs, (by first | (rw [e]; done) | (rw [e]; rfl)), (by rw [e]; exact hI11.hl), (by rw [e]; exact hor), rfl⟩, hS⟩
theorem DY (b : Nat) (V : AM) (ls : Vector BG 4) (ev : List Ing.Event) (n m : Nat) (hF : AL.Fit (A3 V ls ev) n m) (hn : n ≤ 600000) (hm : m ≤ 600000) : Ew Tryz.prog 65 #[.pointer (some ⟨b, 0, none⟩)] [Ad.box b 101 (AM.enc V), Ad.Ds (CI 9 (AM.Ax V) ls), Ad.own (AM.last V) 56 16 ((ev).flatMap Ing.Event.enc)] (fun w => (GV 2 FL w ∧ 2 ∉ CW [Ad.box b 101 (AM.enc V), Ad.Ds (CI 9 (AM.Ax V) ls), Ad.own (AM.last V) 56 16 ((ev).flatMap Ing.Event.enc)]) ∧ (GV 0 AH.C0 w ∧ 0 ∉ CW [Ad.box b 101 (AM.enc V), Ad.Ds (CI 9 (AM.Ax V) ls), Ad.own (AM.last V) 56 16 ((ev).flatMap Ing.Event.enc)]) ∧ (F8 7 w ∧ 7 ∉ CW [Ad.box b 101 (AM.enc V), Ad.Ds (CI 9 (AM.Ax V) ls), Ad.own (AM.last V) 56 16 ((ev).flatMap Ing.Event.enc)]) ∧ (F8 8 w ∧ 8 ∉ CW [Ad.box b 101 (AM.enc V), Ad.Ds (CI 9 (AM.Ax V) ls), Ad.own (AM.last V) 56 16 ((ev).flatMap Ing.Event.enc)])) (fun v B => ∃ V' ls' ev', v = .tuple #[] ∧ A3 V' ls' ev' = AL.Bz (A3 V ls ev) ∧ B = [Ad.box b 101 (AM.enc V'), Ad.Ds (CI 9 (AM.Ax V') ls'), Ad.own (AM.last V') 56 16 ((ev').flatMap Ing.Event.enc)]) := by
 intro w hS0 hH
 obtain ⟨⟨gl0, gm0⟩, ⟨gl1, gm1⟩, ⟨gl2, gm2⟩, ⟨gl3, gm3⟩⟩ := hH
 refine Am _ _ Tryz.func65 rfl rfl rfl (hS0) ?_
 refine Gs (Gm rfl (AO (AA (Ae ?_))))
 refine Bl (.t2 5 0) ?_
 refine BZ (.t (.t .h)) ?_
 refine BZ (.t (.t .h)) ?_
 refine BZ (.t (.t .h)) ?_
 refine Hc (fun (k : Int) (V1 : AM) (ls1 : Vector BG 4) (ev1 : List Ing.Event) => 0 ≤ k ∧ k ≤ 5 ∧ (A3 V ls ev).Bz = (A3 V1 ls1 ev1).IZ (5 - k).toNat ∧ AL.Fit (A3 V1 ls1 ev1) (n + 44 * k.toNat) (m + 44 * k.toNat)) (fun (k : Int) (V1 : AM) (ls1 : Vector BG 4) (ev1 : List Ing.Event) => (5 - k).toNat) (fun (k : Int) (V1 : AM) (ls1 : Vector BG 4) (ev1 : List Ing.Event) => [(5, .int .i64 k)]) (fun (k : Int) (V1 : AM) (ls1 : Vector BG 4) (ev1 : List Ing.Event) => [Ad.box b 101 (AM.enc V1), Ad.Ds (CI 9 (AM.Ax V1) ls1), Ad.own (AM.last V1) 56 16 (ev1.flatMap Ing.Event.enc)]) (0) (V) (ls) (ev) ?_ rfl rfl (fun k V1 ls1 ev1 hI1 => ?_)
 · exact ⟨by omega, by omega, rfl, hF⟩
 obtain ⟨hI11, hI12, hI13, hI14⟩ := hI1
 refine Gs (Gt (A6 rfl rfl) (AO (AA (Ap ?_))))
 refine Gc (fun c1 => ?_) (fun c1 => ?_)
 ·
  have c1p := kz c1
  refine Aa ?_
  refine AB (.t2 0 5) ?_
  refine AA (Ap (Ae (Gs (Ga rfl (AO (AA (B7 ?_)))))))
  refine Gm rfl (AO (AA (Ae ?_)))
  refine Bl (.t4 2 7 0 5) ?_
  refine BZ (.t (.t .h)) ?_
  refine BZ (.t (.t .h)) ?_
  refine BZ (.t (.t .h)) ?_
  refine NW (fun (i : Int) (V2 : AM) (ls2 : Vector BG 4) (ev2 : List Ing.Event) (c : Bool) => 0 ≤ i ∧ i ≤ 4 ∧ ((A3 V2 ls2 ev2), c) = (A3 V1 ls1 ev1).DM i.toNat) (fun (i : Int) (V2 : AM) (ls2 : Vector BG 4) (ev2 : List Ing.Event) (c : Bool) => (4 - i).toNat) (fun (i : Int) (V2 : AM) (ls2 : Vector BG 4) (ev2 : List Ing.Event) (c : Bool) => [(2, .bool c), (7, .int .i64 i)]) (fun (i : Int) (V2 : AM) (ls2 : Vector BG 4) (ev2 : List Ing.Event) (c : Bool) => [Ad.box b 101 (AM.enc V2), Ad.Ds (CI 9 (AM.Ax V2) ls2), Ad.own (AM.last V2) 56 16 (ev2.flatMap Ing.Event.enc)]) (0) (V1) (ls1) (ev1) (false) ?_ rfl rfl (fun i V2 ls2 ev2 c hI2 => ?_)
  · exact ⟨by omega, by omega, rfl⟩
  obtain ⟨hI21, hI22, hI23⟩ := hI2
  refine Gs (Gt (A6 rfl rfl) (AO (AA (Ap ?_))))
  refine Gc (fun c2 => ?_) (fun c2 => ?_)
  ·
   have c2p := kz c2
   have hi : 0 ≤ i ∧ i < 4 := ⟨by omega, by omega⟩
   have hF2 := OI hI14 hi.1 (by omega) hI23
   refine Aa ?_
   refine AB (.t4 0 2 5 7) ?_
   refine AA (Ap (Ae (Gs (Gm rfl (Ga rfl (Gn (.t5 0 2 3 5 7) (Gs ?_)))))))
   refine Gm rfl (Gm rfl (Gt (BR rfl) (Gt (Ai GU rfl) ?_)))
   refine Gt (AQ PW rfl rfl (by first | omega | exact hi.1 | exact hi.2) (by first | omega | exact hi.1 | exact hi.2)) ?_
   refine Ga rfl (Gn (.t5 0 2 4 5 7) (B7 (Gm rfl (Gt (BR rfl) (Gt (Ai H5 rfl) ?_)))))
   refine Gt (AG rfl A2 .m0 ((AM.l1.comp (AS.ar (n := 4) A0.fl (by first | omega | exact hi))).comp A0.l0) rfl rfl) ?_
   refine Gt (Af rfl rfl) (Gn (.t6 0 2 4 5 7 19) ?_)
   refine Gc (fun c3 => ?_) (fun c3 => ?_)
   ·
    have c3p := kz c3
    refine BX (AW (Ag ?_))
    refine AB (.t4 0 2 5 7) ?_
    refine AA (AI ?_)
    refine Gt (As rfl rfl (IntWalk.i64_in _ (by first | omega | exact hi.1 | exact hi.2))) ?_
    refine Gm rfl ?_
    refine AO (AB (.t4 0 2 5 7) ?_)
    refine Hq (i + 1) _ _ _ _ ?_ ?_ (.t4 2 7 0 5) (.refl _)
    · exact ⟨by omega, by omega, ((Ju hi.1 hi.2 hI23).trans (A9 c3)).symm⟩
    · omega
   have c3p := kz c3
   refine Aa ?_
   refine AB (.t5 0 2 4 5 7) ?_
   refine AA ?_
   refine BZ (.t (.t .h)) ?_
   refine BZ (.t (.t .h)) ?_
   refine BZ (.t (.t .h)) ?_
   refine P0 (Lm := [_, _, _]) (fun (V3 : AM) (ls3 : Vector BG 4) => (A3 V3 ls3 ev2) = (A3 V2 ls2 ev2).set i ((A3 V2 ls2 ev2).at_ i).Bz) (fun (V3 : AM) (ls3 : Vector BG 4) => []) (fun (V3 : AM) (ls3 : Vector BG 4) => [Ad.box b 101 (AM.enc V3), Ad.Ds (CI 9 (AM.Ax V3) ls3), Ad.own (AM.last V3) 56 16 (ev2.flatMap Ing.Event.enc)]) (.t5 0 2 4 5 7) rfl ?_ (fun V3 ls3 hC => ?_)
   ·
    refine FK (k := i) hi.1 hi.2 (fun sv sl hsv hlv hln => ?_)
    refine BD (N := 17) [0, 0, 2, 6, 14, 0, 32, 96, 224, 480, 1022, 2046, 4094, 4094, 8191, 24575, 57343] mix (by kernel_rfl) rfl ?_
    refine Pf 0 rfl (AE rfl) (Pf 1 rfl (AE rfl) (Pf 2 rfl (BR rfl) (Pf 3 rfl (Ai Df rfl) (Pf 4 rfl (AZ rfl Cn .m3 ((AS.BM V2 hi.1 hi.2).comp A0.l4) rfl) (Pf 5 rfl (AE rfl) (Pf 6 rfl (BR rfl) (Pf 7 rfl (Ai KA rfl) ?_)))))))
    refine Pf 8 rfl (Ai O8 rfl) (Pf 9 rfl (AG rfl A2 .m3 (((AS.BM V2 hi.1 hi.2).comp A0.l2).comp AN.l5) rfl rfl) ?_)
    refine An 10 rfl (by kernel_rfl) ?_
    refine BC rfl ao (.c rfl (.c rfl .n)) .n (Lx _ _ _ (by rw [← hlv]; exact WM hF2 hi.1 hi.2)) (fun w hS => ⟨(Kn.own .m1) w hS, (S4.own .m1) w hS⟩) (fun v1 B hv => ?_)
    rcases hv with ⟨y2, rfl, rfl⟩ | ⟨y3, y4, y5, y6, y7, rfl, y8, y9, rfl⟩
    ·
     refine Bo rfl ⟨?_, ?_⟩
     · exact (Pk (Pk (Pk (Pk (Pk (Pk (Pk (Pk (Pk (Po rfl (AE rfl) rfl rfl Ar))))))))))
     refine Pf 11 rfl (AE rfl) (Pf 12 rfl (AK rfl rfl) (Pf 13 rfl (AK rfl rfl) (Pf 14 rfl (BR rfl) (Pf 15 rfl (Ai Df rfl) ?_))))
     refine An 16 rfl (by kernel_rfl) ?_
     refine AR (AJ ((AS.BM V2 hi.1 hi.2).comp A0.l4) rfl rfl rfl FC rfl (.t (.t (.t .h)))) ?_
     refine BK rfl ⟨?_, ?_⟩
     · exact (Pk (Pk (Po rfl (AK rfl rfl) rfl rfl (Pk (Pk (Pk (Pk (Pk (Pk (Pk (Pk (Pk (Pk (Pk (Pk Ar)))))))))))))))
     refine A1 (by kernel_rfl) ?_
     refine AB (.t5 0 2 4 5 7) ?_
     refine CP (.c .h (.c .h (.c .h (.c .h (.c .h .n))))) ?_
     refine QQ hi.1 hi.2 (by rfl) (by rfl) (by rfl) ?_
     refine EG _ _ ?_ (.t5 0 2 4 5 7) (.refl _)
     · exact EN hi.1 hi.2 hsv hlv (f := BB.Bz) (Qi hln.2.1 y2)
    refine Bo rfl ⟨?_, ?_⟩
    · exact (Pk (Pk (Pk (Pk (Pk (Pk (Pk (Pk (Pk (Po rfl (AE rfl) rfl rfl Ar))))))))))
    refine Pf 11 rfl (AE rfl) (Pf 12 rfl (AK rfl rfl) (Pf 13 rfl (AK rfl rfl) (Pf 14 rfl (BR rfl) (Pf 15 rfl (Ai Df rfl) ?_))))
    refine An 16 rfl (by kernel_rfl) ?_
    refine AR (AJ ((AS.BM V2 hi.1 hi.2).comp A0.l4) rfl rfl rfl FC rfl (.t (.t (.t (.t .h))))) ?_
    refine BK rfl ⟨?_, ?_⟩
    · exact (Pk (Pk (Po rfl (AK rfl rfl) rfl rfl (Pk (Pk (Pk (Pk (Pk (Pk (Pk (Pk (Pk (Pk (Pk (Pk Ar)))))))))))))))
    refine A1 (by kernel_rfl) ?_
    refine AB (.t5 0 2 4 5 7) ?_
    refine CP (.c .h (.c (.t .h) .n)) ?_
    refine Zq y9 ?_
    refine CP (.c (.t .h) (.c .h (.c .h (.c .h (.c .h .n))))) ?_
    refine QQ hi.1 hi.2 (by rfl) (by rfl) (by rfl) ?_
    refine EG _ _ ?_ (.t5 0 2 4 5 7) (.refl _)
    · exact EN hi.1 hi.2 hsv hlv (f := BB.Bz) (XI hln.2.1 y3 _)
   refine Gs (Gm rfl (Gt (BR rfl) (Gt (Ai Df rfl) (Gt (Ai J8 rfl) ?_))))
   refine Gt (AG rfl DV .m0 (((AM.l1.comp (AS.ar (n := 4) A0.fl (by first | omega | exact hi))).comp A0.l4).comp Aw.l4) rfl rfl) ?_
   refine Gn (.t6 0 2 4 5 7 40) ?_
   refine Gc (fun c4 => ?_) (fun c4 => ?_)
   ·
    have c4p := kz c4
    refine Gs (Gm rfl (Gm rfl ?_))
    refine BC rfl YI (.c rfl (.c rfl .n)) (.c .h (.c .h (.c .h .n))) (HY _ V3 ls3 ev2 i _ _ hi (by rw [hC]; exact hF2.Uv hi.1 hi.2) (by omega) (by omega)) (fun w hS => ⟨gl0.pull gm0 hS (.c .h (.c .h (.c .h .n))), gl1.pull gm1 hS (.c .h (.c .h (.c .h .n))), gl2.pull gm2 hS (.c .h (.c .h (.c .h .n))), gl3.pull gm3 hS (.c .h (.c .h (.c .h .n)))⟩) (fun v13 B hv => ?_)
    obtain ⟨y14, y15, y16, rfl, y17, rfl⟩ := hv
    refine Gn (.t3 0 5 7) (AI (Ga rfl (AO (AT (AA (AI ?_))))))
    refine Gt (As rfl rfl (IntWalk.i64_in _ (by first | omega | exact hi.1 | exact hi.2))) ?_
    refine Gm rfl ?_
    refine AO (AB (.t4 0 2 5 7) ?_)
    refine Hq (i + 1) _ _ _ _ ?_ ?_ (.t4 2 7 0 5) (.refl _)
    · exact ⟨by omega, by omega, (((Ju hi.1 hi.2 hI23).trans ((AU c3).trans (A9 (show _ = true from (S5 hi.1 hi.2 hC).symm.trans c4)))).trans (by rw [← hC, ← y17])).symm⟩
    · omega
   have c4p := kz c4
   refine Aa ?_
   refine AB (.t4 0 2 5 7) ?_
   refine AT (AA (AI ?_))
   refine Gt (As rfl rfl (IntWalk.i64_in _ (by first | omega | exact hi.1 | exact hi.2))) ?_
   refine Gm rfl ?_
   refine AO (AB (.t4 0 2 5 7) ?_)
   refine Hq (i + 1) _ _ _ _ ?_ ?_ (.t4 2 7 0 5) (.refl _)
   · exact ⟨by omega, by omega, (((Ju hi.1 hi.2 hI23).trans ((AU c3).trans (AU (show _ = false from (S5 hi.1 hi.2 hC).symm.trans c4)))).trans (by rw [← hC])).symm⟩
   · omega
  have c2p := kz c2
  obtain rfl : i = 4 := by omega
  have hE : (A3 V1 ls1 ev1).DM 4 = ((A3 V2 ls2 ev2), c) := hI23.symm
  refine BX (AW (AW (Ag ?_)))
  refine AB (.t3 0 2 5) ?_
  refine AA (Gs (Gm rfl (Gt (BS rfl) (Gn (.t3 0 5 46) ?_))))
  refine Gc (fun c5 => ?_) (fun c5 => ?_)
  ·
   have c5p := kz c5
   refine Ab (AP (AD (AD (AP ?_))))
   refine AY rfl .n ?_
   intro w1 hS
   have hS := (hS.perm (Av.perm (.c .h (.c .h (.c .h .n))))).Az
   refine ⟨_, ⟨V2, ls2, ev2, rfl, ?ga1, rfl⟩, hS⟩
   case ga1 => exact (hI13.trans ((Nd hI11 (by omega)).trans ((A9 (show (!((A3 V1 ls1 ev1).DM 4).2) = true by rw [hE]; exact c5)).trans (by rw [hE])))).symm
  have c5p := kz c5
  refine Aa ?_
  refine AB (.t2 0 5) ?_
  refine AT (AA (AI ?_))
  refine Gt (As rfl rfl (IntWalk.i64_in _ (by first | omega | exact hi.1 | exact hi.2))) ?_
  refine Gm rfl ?_
  refine AO (AB (.t2 0 5) ?_)
  refine Cu (k + 1) _ _ _ ?_ ?_ (.t2 5 0) (.refl _)
  · exact ⟨by omega, by omega, hI13.trans ((Nd hI11 (by omega)).trans ((AU (show (!((A3 V1 ls1 ev1).DM 4).2) = false by rw [hE]; exact c5)).trans (by rw [hE]))), (OI hI14 (by omega) (by omega) hI23).mono (by omega) (by omega)⟩
  · omega
 have c1p := kz c1
 refine BX (AW (AW (Ag ?_)))
 refine Be rfl .n ?_
 intro w1 hS
 have hS := (hS.perm (Av.perm (.c .h (.c .h (.c .h .n))))).Az
 refine ⟨_, ⟨V1, ls1, ev1, rfl, ?ga2, rfl⟩, hS⟩
 case ga2 => exact (hI13.trans (by rw [show (5 - k).toNat = 0 by omega]; rfl)).symm
theorem N2 (b : Nat) (V : AM) (ls : Vector BG 4) (ev : List Ing.Event) (d : Int) (n m : Nat) (hF : AL.Fit (A3 V ls ev) n m) (hn : n ≤ 500000) (hm : m ≤ 500000) : Ew Tryz.prog 60 #[.pointer (some ⟨b, 0, none⟩), .int .i64 d] [Ad.box b 101 (AM.enc V), Ad.Ds (CI 9 (AM.Ax V) ls), Ad.own (AM.last V) 56 16 ((ev).flatMap Ing.Event.enc)] (fun w => (GV 2 FL w ∧ 2 ∉ CW [Ad.box b 101 (AM.enc V), Ad.Ds (CI 9 (AM.Ax V) ls), Ad.own (AM.last V) 56 16 ((ev).flatMap Ing.Event.enc)]) ∧ (GV 0 AH.C0 w ∧ 0 ∉ CW [Ad.box b 101 (AM.enc V), Ad.Ds (CI 9 (AM.Ax V) ls), Ad.own (AM.last V) 56 16 ((ev).flatMap Ing.Event.enc)]) ∧ (F8 7 w ∧ 7 ∉ CW [Ad.box b 101 (AM.enc V), Ad.Ds (CI 9 (AM.Ax V) ls), Ad.own (AM.last V) 56 16 ((ev).flatMap Ing.Event.enc)]) ∧ (F8 8 w ∧ 8 ∉ CW [Ad.box b 101 (AM.enc V), Ad.Ds (CI 9 (AM.Ax V) ls), Ad.own (AM.last V) 56 16 ((ev).flatMap Ing.Event.enc)])) (fun v B => ∃ V' ls' ev', v = .tuple #[] ∧ A3 V' ls' ev' = AL.OS (A3 V ls ev) d ∧ B = [Ad.box b 101 (AM.enc V'), Ad.Ds (CI 9 (AM.Ax V') ls'), Ad.own (AM.last V') 56 16 ((ev').flatMap Ing.Event.enc)]) := by
 intro w hS0 hH
 obtain ⟨⟨gl0, gm0⟩, ⟨gl1, gm1⟩, ⟨gl2, gm2⟩, ⟨gl3, gm3⟩⟩ := hH
 refine Am _ _ Tryz.func60 rfl rfl rfl (hS0) ?_
 refine B7 (Gm rfl (AO (AA (Ae ?_))))
 refine Bl (.t3 8 0 1) ?_
 refine BZ (.t (.t .h)) ?_
 refine BZ (.t (.t .h)) ?_
 refine BZ (.t (.t .h)) ?_
 refine Hc (fun (i : Int) (V1 : AM) (ls1 : Vector BG 4) (ev1 : List Ing.Event) => 0 ≤ i ∧ i ≤ 4 ∧ (A3 V1 ls1 ev1) = AL.turns (A3 V ls ev) i.toNat) (fun (i : Int) (V1 : AM) (ls1 : Vector BG 4) (ev1 : List Ing.Event) => (4 - i).toNat) (fun (i : Int) (V1 : AM) (ls1 : Vector BG 4) (ev1 : List Ing.Event) => [(8, .int .i64 i)]) (fun (i : Int) (V1 : AM) (ls1 : Vector BG 4) (ev1 : List Ing.Event) => [Ad.box b 101 (AM.enc V1), Ad.Ds (CI 9 (AM.Ax V1) ls1), Ad.own (AM.last V1) 56 16 (ev1.flatMap Ing.Event.enc)]) (0) (V) (ls) (ev) ?_ rfl rfl (fun i V1 ls1 ev1 hI1 => ?_)
 · exact ⟨by omega, by omega, rfl⟩
 obtain ⟨hI11, hI12, hI13⟩ := hI1
 refine Gs (Gt (A6 rfl rfl) (AO (AA (Ap ?_))))
 refine Gc (fun c1 => ?_) (fun c1 => ?_)
 ·
  have c1p := kz c1
  have hi : 0 ≤ i ∧ i < 4 := ⟨by omega, by omega⟩
  refine Aa ?_
  refine AB (.t3 0 1 8) ?_
  refine AA (Ap (Ae (Gs (Gm rfl (Ga rfl (Gn (.t4 0 1 4 8) (AI ?_)))))))
  refine Gm rfl (Gm rfl (Gm rfl (Gt (BR rfl) (Gt (Ai GU rfl) ?_))))
  refine Gt (AQ PW rfl rfl (by first | omega | exact hi.1 | exact hi.2) (by first | omega | exact hi.1 | exact hi.2)) ?_
  refine BC rfl bC (.c rfl (.c rfl .n)) (.c .h (.c .h (.c .h .n))) (O2 _ V1 ls1 ev1 i (n + 44) (m + 44) hi (by rw [hI13]; exact (AL.Ja hF i.toNat (by omega)).mono (by omega) (by omega)) (by omega) (by omega)) (fun w hS => ⟨gl0.pull gm0 hS (.c .h (.c .h (.c .h .n))), gl1.pull gm1 hS (.c .h (.c .h (.c .h .n))), gl2.pull gm2 hS (.c .h (.c .h (.c .h .n))), gl3.pull gm3 hS (.c .h (.c .h (.c .h .n)))⟩) (fun v1 B hv => ?_)
  obtain ⟨y2, y3, y4, rfl, y5, rfl⟩ := hv
  refine AO (AB (.t3 0 1 8) ?_)
  refine AT (AA (AI ?_))
  refine Gt (As rfl rfl (IntWalk.i64_in _ (by first | omega | exact hi.1 | exact hi.2))) ?_
  refine Gm rfl ?_
  refine AO (AB (.t3 0 1 8) ?_)
  refine Cu (i + 1) _ _ _ ?_ ?_ (.t3 8 0 1) (.refl _)
  · exact ⟨by omega, by omega, y5.trans (by rw [hI13]; exact (Rh hI11).symm)⟩
  · omega
 have c1p := kz c1
 obtain rfl : i = 4 := by omega
 have hF1 := AL.Ja hF 4 (Nat.le_refl 4)
 rw [show (4 : Nat) = (4 : Int).toNat from rfl, ← hI13] at hF1
 have hrl : (AF.CY V1.w d).2.1.length ≤ 78 := AF.OL hF1.Gz.Lr d
 have hrs := AF.My (draw := d) hF1.Gz
 have hF4 := ((hF1.land hrs.1).G6 hrs.2).mono (Nat.add_le_add_left hrl _) (Nat.add_le_add_left hrl _)
 refine BX (AW (AW (Ag ?_)))
 refine AB (.t2 0 1) ?_
 refine AA (Gs (Gm rfl (Gt (BR rfl) (Gt (Ai D2 rfl) (Gt (AZ rfl BT .m0 AM.l0 rfl) (Gm rfl ?_))))))
 refine BC rfl aM (.c rfl (.c rfl .n)) .n (LB V1.w d hF1.Gz.Lr) (fun w hS => gl1.pull gm1 hS .n) (fun v6 B hv => ?_)
 obtain ⟨y7, rfl, y8, rfl⟩ := hv
 refine Gm rfl (Gt (AK rfl rfl) (Gt (AK rfl rfl) (Gt (AK rfl rfl) ?_)))
 refine BF rfl L4 rfl (fun b1 => ?_)
 refine AR (AJ (AS.id AH.fl.len AH.fl.one) rfl rfl rfl Dq rfl .h) ?_
 refine Ga rfl (Ga rfl (Gn (.t3 0 5 6) (Gs (Gm rfl (Gt (AZ rfl BT .m0 (AS.id AH.fl.len AH.fl.one) rfl) (Gt (BR rfl) (Gt (Ai D2 rfl) ?_)))))))
 refine AR (AJ AM.l0 rfl rfl rfl Dq rfl (.t (.t .h))) ?_
 refine Gn (.t2 0 6) (Gs (Gm rfl (Gm rfl ?_)))
 refine BC rfl UT (.c rfl (.c rfl .n)) (.c (.t (.t .h)) (.c (.t (.t .h)) (.c (.t (.t .h)) (.c (.t .h) .n)))) (Ea _ { V1 with w := (AF.CY V1.w d).1 } ls1 ev1 _ (AF.CY V1.w d).2.1 _ (by assumption) (F6 hF1) (by omega) (Nat.le_trans hF1.last (by omega)) (fun e he c _ => hrs.2 e he)) (fun w hS => ⟨gl0.pull gm0 hS (.c (.t (.t .h)) (.c (.t (.t .h)) (.c (.t (.t .h)) (.c (.t .h) .n)))), gl1.pull gm1 hS (.c (.t (.t .h)) (.c (.t (.t .h)) (.c (.t (.t .h)) (.c (.t .h) .n))))⟩) (fun v10 B hv => ?_)
 obtain ⟨y11, y12, y13, rfl, y14, rfl⟩ := hv
 refine Gn (.t1 0) (AI (Gm rfl ?_))
 refine BC rfl Qu (.c rfl .n) (.c .h (.c .h (.c .h .n))) (DY _ y11 y12 y13 _ _ (by rw [y14]; exact hF4) (by omega) (by omega)) (fun w hS => ⟨gl0.pull gm0 hS (.c .h (.c .h (.c .h .n))), gl1.pull gm1 hS (.c .h (.c .h (.c .h .n))), gl2.pull gm2 hS (.c .h (.c .h (.c .h .n))), gl3.pull gm3 hS (.c .h (.c .h (.c .h .n)))⟩) (fun v15 B hv => ?_)
 obtain ⟨y16, y17, y18, rfl, y19, rfl⟩ := hv
 refine AO ?_
 refine Be rfl .n ?_
 intro w1 hS
 have hS := (hS.perm (Av.perm (.c .h (.c .h (.c .h .n))))).Az
 refine ⟨_, ⟨y16, y17, y18, rfl, ?ga1, rfl⟩, hS⟩
 case ga1 => rw [y19, y14, Np]; show AL.Bz (AL.G6 { (A3 V1 ls1 ev1) with w := (AF.CY ((A3 V1 ls1 ev1)).w d).1 } (AF.CY ((A3 V1 ls1 ev1)).w d).2.1) = _; rw [hI13]; rfl
theorem FH (opt : Int) (w : World) : EL Tryz.prog 73 #[.int .i64 opt] w fun v w' => v = .tuple #[.int .i64 (AN.place opt).1, .bool (AN.place opt).2.1, .bool (AN.place opt).2.2] ∧ B4 w w' := by
 refine Am [] [] Tryz.func73 rfl rfl rfl (St.start w []) ?_
 refine Gs (Ga rfl (Ga rfl (Ga rfl (Gn (.t1 0) (B7 (Gm rfl (Gn (.t1 5) ?_)))))))
 refine Ae (Gs (Gt (Af rfl rfl) (Ga rfl (Gn (.t2 5 6) ?_))))
 refine Gc (fun c1 => ?_) (fun c1 => ?_)
 ·
  refine Gs (Ga rfl (Ga rfl (Ga rfl (Gn (.t3 2 3 4) (Ab (AP (AD ?_)))))))
  refine AY rfl (.tmp rfl (.tmp rfl (.tmp rfl .n))) ?_
  intro w1 hS; refine ⟨?_, hS.Aj⟩; simp only [AN.place, c1, ↓reduceIte, Bool.false_eq_true]; rfl
 refine Gs (Gt (Af rfl rfl) (Ga rfl (Gn (.t2 5 8) ?_)))
 refine Gc (fun c2 => ?_) (fun c2 => ?_)
 ·
  refine Gs (Ga rfl (Ga rfl (Ga rfl (Gn (.t3 2 3 4) (Ab (AP (AD ?_)))))))
  refine AY rfl (.tmp rfl (.tmp rfl (.tmp rfl .n))) ?_
  intro w1 hS; refine ⟨?_, hS.Aj⟩; simp only [AN.place, c1, c2, ↓reduceIte, Bool.false_eq_true]; rfl
 refine Gs (Gt (Af rfl rfl) (Ga rfl (Gn (.t1 10) ?_)))
 refine Gc (fun c3 => ?_) (fun c3 => ?_)
 ·
  refine Gs (Ga rfl (Ga rfl (Ga rfl (Gn (.t3 2 3 4) (Ab (AP (AD ?_)))))))
  refine AY rfl (.tmp rfl (.tmp rfl (.tmp rfl .n))) ?_
  intro w1 hS; refine ⟨?_, hS.Aj⟩; simp only [AN.place, c1, c2, c3, ↓reduceIte, Bool.false_eq_true]; rfl
 refine Aa ?_
 refine AB (.nil _) ?_
 refine AT (AA (Gs (Ga rfl (Ga rfl (Ga rfl (AO (AA ?_)))))))
 refine Ab ?_
 refine AY rfl (.tmp rfl (.tmp rfl (.tmp rfl .n))) ?_
 intro w1 hS; refine ⟨?_, hS.Aj⟩; simp only [AN.place, c1, c2, c3, ↓reduceIte, Bool.false_eq_true]; rfl
theorem FV (X : AN) (w : World) : EL Tryz.prog 55 #[.agg X.enc.toArray] w fun v w' => v = .bool X.Bq ∧ B4 w w' := by
 refine Am [] [] Tryz.func55 rfl rfl rfl (St.start w []) ?_
 refine Gs ?_
 refine B3 rfl rfl rfl (fun b1 => ?_)
 refine Ga rfl (Gn (.t1 1) (B7 (Gm rfl (AO (AA (Ae ?_))))))
 refine Bl (.t2 4 1) ?_
 refine CT (fun (k : Int) => 0 ≤ k ∧ k ≤ 3 ∧ X.Bq = (B5 3 (fun i => !X.MO i) (3 - k).toNat && (!(!decide (X.us.at 2 = 0) || !decide (X.F1.at 0 = 0)) && X.OJ))) (fun (k : Int) => (3 - k).toNat) (fun (k : Int) => [(4, .int .i64 k)]) (fun (k : Int) => []) (0) ?_ rfl rfl (fun k hI1 => ?_)
 · exact ⟨Int.le_refl _, by omega, rfl⟩
 obtain ⟨hI11, hI12, hI13⟩ := hI1
 refine Gs (Gt (A6 rfl rfl) (AO (AA (Ap ?_))))
 refine Gc (fun c1 => ?_) (fun c1 => ?_)
 ·
  have c1p := kz c1
  rw [DA _ (by omega)] at hI13
  refine Aa ?_
  refine AB (.t2 1 4) ?_
  refine AA (Ap (Ae (Gs (Gm rfl (Ga rfl (Gn (.t3 1 3 4) (Gs ?_)))))))
  refine Gm rfl (Gt (Ai KF rfl) ?_)
  refine Gt (AQ Jp rfl rfl (by omega) (by omega)) ?_
  refine Gt (AG rfl A2 .m0 (AN.l3.comp (AS.ar (n := 3) Bw (by omega))) rfl rfl) ?_
  refine Gt (A6 rfl rfl) (Gm rfl (BU 12 rfl rfl (fun q => AE rfl) (BU 12 rfl rfl (fun q => Ai KF rfl) ?_)))
  refine BU 12 rfl rfl (fun q => by have q1 := q; (try simp at q1); exact AQ Jp (cF rfl q) (cF rfl q) (by omega) (by omega)) ?_
  refine BU 12 rfl rfl (fun q => by have q1 := q; (try simp at q1); exact AG (cF rfl q) A2 .m0 (AN.l3.comp (AS.ar (n := 3) Bw (by omega))) rfl rfl) ?_
  refine BU 12 rfl rfl (fun q => CS (cF rfl q) rfl) ?_
  refine Gt (BP rfl rfl (fun h => by rw [h]; rfl)) ?_
  refine Gm rfl (BU 19 rfl rfl (fun q => AE rfl) (BU 19 rfl rfl (fun q => Ai I7 rfl) ?_))
  refine BU 19 rfl rfl (fun q => by have q1 := q; (try simp at q1); exact AQ Jp (cF rfl q) (cF rfl q) (by omega) (by omega)) ?_
  refine BU 19 rfl rfl (fun q => by have q1 := q; (try simp at q1); exact AG (cF rfl q) A2 .m0 (AN.l4.comp (AS.ar (n := 3) Bw (by omega))) rfl rfl) ?_
  refine BU 19 rfl rfl (fun q => A6 (cF rfl q) rfl) ?_
  refine Gt (BP rfl rfl (fun h => by rw [h]; rfl)) ?_
  refine Gm rfl (BU 26 rfl rfl (fun q => AE rfl) (BU 26 rfl rfl (fun q => Ai I7 rfl) ?_))
  refine BU 26 rfl rfl (fun q => by have q1 := q; (try simp at q1); exact AQ Jp (cF rfl q) (cF rfl q) (by omega) (by omega)) ?_
  refine BU 26 rfl rfl (fun q => by have q1 := q; (try simp at q1); exact AG (cF rfl q) A2 .m0 (AN.l4.comp (AS.ar (n := 3) Bw (by omega))) rfl rfl) ?_
  refine BU 26 rfl rfl (fun q => CS (cF rfl q) rfl) ?_
  refine Gt (BP rfl rfl (fun h => by rw [h]; rfl)) ?_
  refine Gn (.t3 1 4 32) ?_
  refine Gc (fun c2 => ?_) (fun c2 => ?_)
  ·
   refine Gs (Ga rfl (Gn (.t1 2) (Ab (AP (AD (AD (AP ?_)))))))
   refine AD ?_
   refine AY rfl (.tmp rfl .n) ?_
   intro w1 hS; refine ⟨congrArg Value.bool ?_, hS.Aj⟩; rw [hI13, AN.MO, c2]; rfl
  have c2p := kz c2
  refine Aa ?_
  refine AB (.t2 1 4) ?_
  refine AT (AA (AI ?_))
  refine Gt (As rfl rfl (IntWalk.i64_in _ (by omega))) ?_
  refine Gm rfl ?_
  refine AO (AB (.t2 1 4) ?_)
  refine B0 (k + 1) ?_ ?_ (.t2 4 1) (.refl _)
  · exact ⟨by omega, by omega, by rw [hI13, AN.MO, c2]; rfl⟩
  · omega
 have c1p := kz c1
 obtain rfl : k = 3 := by omega
 refine BX (AW (AW (Ag ?_)))
 refine AB (.t1 1) ?_
 refine AA (B7 (Gt (Ai KF rfl) ?_))
 refine Gt (AQ Jp rfl rfl (by decide) (by decide)) ?_
 refine Gt (AG rfl A2 .m0 (AN.l3.comp (AS.arr (n := 3) Bw (by decide) (by decide))) rfl rfl) ?_
 refine Gt (CK rfl rfl) (Gm rfl (BU 38 rfl rfl (fun q => Ai I7 rfl) ?_))
 refine BU 38 rfl rfl (fun q => AQ Jp (cF rfl q) rfl (by decide) (by decide)) ?_
 refine BU 38 rfl rfl (fun q => AG (cF rfl q) A2 .m0 (AN.l4.comp (AS.arr (n := 3) Bw (by decide) (by decide))) rfl rfl) ?_
 refine BU 38 rfl rfl (fun q => CK (cF rfl q) rfl) ?_
 refine Gt (BP rfl rfl (fun h => by rw [h]; rfl)) ?_
 refine Gn (.t2 1 43) ?_
 refine Gc (fun c3 => ?_) (fun c3 => ?_)
 ·
  refine Gs (Ga rfl (Gn (.t1 2) (Ab (AD ?_))))
  refine AY rfl (.tmp rfl .n) ?_
  intro w1 hS; refine ⟨congrArg Value.bool ?_, hS.Aj⟩; rw [hI13, c3]; rfl
 refine Aa ?_
 refine AB (.t1 1) ?_
 refine AA (Gs (Gt (Ai FG rfl) (Gt (AG rfl A2 .m0 AN.l0 rfl rfl) (Gt (CL rfl rfl) (Gm rfl (Bh 47 rfl rfl (fun q => Ai FG rfl) (Bh 47 rfl rfl (fun q => AG (Bc rfl q) A2 .m0 AN.l0 rfl rfl) ?_)))))))
 refine Bh 47 rfl rfl (fun q => HS (Bc rfl q) rfl) (Gt (BI rfl rfl (fun h => h)) (Gm rfl (Bh 52 rfl rfl (fun q => Ai FG rfl) (Bh 52 rfl rfl (fun q => AG (Bc rfl q) A2 .m0 AN.l0 rfl rfl) (Bh 52 rfl rfl (fun q => Af (Bc rfl q) rfl) (Bh 52 rfl rfl (fun q => Ai Jr rfl) (Bh 52 rfl rfl (fun q => AG (Bc rfl q) A2 .m0 AN.l1 rfl rfl) ?_)))))))
 refine Bh 52 rfl rfl (fun q => CK (Bc rfl q) rfl) (Bh 52 rfl rfl (fun q => I5 Tryz.underlying4 (Bc rfl q) (Bc rfl q)) (Gt (BI rfl rfl (fun h => h)) (Gm rfl (Bh 61 rfl rfl (fun q => Ai Jr rfl) (Bh 61 rfl rfl (fun q => AG (Bc rfl q) A2 .m0 AN.l1 rfl rfl) (Bh 61 rfl rfl (fun q => Af (Bc rfl q) rfl) (Bh 61 rfl rfl (fun q => AE (Bc rfl q)) ?_)))))))
 refine Cp (t := 65) rfl rfl rfl (fun qc q => Ai Jr rfl) ?_
 refine Cp (t := 65) rfl rfl rfl (fun qc q => AG (Bc rfl (by rw [qc, q]; rfl)) A2 .m0 AN.l1 rfl rfl) ?_
 refine Cp (t := 65) rfl rfl rfl (fun qc q => CL (Bc rfl (by rw [qc, q]; rfl)) rfl) ?_
 refine Cp (t := 65) rfl rfl rfl (fun qc q => AE (Bc rfl (by rw [qc, q]; rfl))) ?_
 refine C4 (t := 69) rfl rfl rfl (fun qc q => Ai Jr rfl) ?_
 refine C4 (t := 69) rfl rfl rfl (fun qc q => AG (Bc rfl (by rw [qc, q]; rfl)) A2 .m0 AN.l1 rfl rfl) ?_
 refine C4 (t := 69) rfl rfl rfl (fun qc q => HS (Bc rfl (by rw [qc, q]; rfl)) rfl) ?_
 refine Cp (t := 65) rfl rfl rfl (fun qc q => BI (Bc rfl (by rw [qc, q]; rfl)) rfl (fun h => by rw [qc, q, h]; rfl)) ?_
 refine Bh 61 rfl rfl (fun q => BP (Bc rfl q) rfl (fun h => by rw [q, h]; rfl)) ?_
 refine Gt (BI rfl rfl (fun h => h)) (Gm rfl (Bh 76 rfl rfl (fun q => Ai GH rfl) (Bh 76 rfl rfl (fun q => AG (Bc rfl q) CN .m0 AN.l2 rfl rfl) (Bh 76 rfl rfl (fun q => BE rfl Tryz.underlying9 (Bc rfl q)) (Bh 76 rfl rfl (fun q => HS (Bc rfl q) rfl) (Gt (BI rfl rfl (fun h => h)) (Gm rfl ?_)))))))
 refine Bh 82 rfl rfl (fun q => Ai FG rfl) (Bh 82 rfl rfl (fun q => AG (Bc rfl q) A2 .m0 AN.l0 rfl rfl) (Bh 82 rfl rfl (fun q => CL (Bc rfl q) rfl) (Bh 82 rfl rfl (fun q => AE (Bc rfl q)) ?_)))
 refine Cp (t := 86) rfl rfl rfl (fun qc q => Ai GH rfl) ?_
 refine Cp (t := 86) rfl rfl rfl (fun qc q => AG (Bc rfl (by rw [qc, q]; rfl)) CN .m0 AN.l2 rfl rfl) ?_
 refine Cp (t := 86) rfl rfl rfl (fun qc q => Bs (Bc rfl (by rw [qc, q]; rfl)) rfl) ?_
 refine Bh 82 rfl rfl (fun q => BP (Bc rfl q) rfl (fun h => by rw [q, h]; rfl)) ?_
 refine Gt (BI rfl rfl (fun h => h)) (Gm rfl (Bh 92 rfl rfl (fun q => Ai O8 rfl) (Bh 92 rfl rfl (fun q => AG (Bc rfl q) A2 .m0 AN.l5 rfl rfl) (Bh 92 rfl rfl (fun q => CL (Bc rfl q) rfl) (Gt (BI rfl rfl (fun h => h)) (Gm rfl (Bh 97 rfl rfl (fun q => Ai O8 rfl) ?_)))))))
 refine Bh 97 rfl rfl (fun q => AG (Bc rfl q) A2 .m0 AN.l5 rfl rfl) (Bh 97 rfl rfl (fun q => HS (Bc rfl q) rfl) (Gt (BI rfl rfl (fun h => h)) (Ga rfl (Gn (.t1 2) (Ab ?_)))))
 refine AY rfl (.tmp rfl .n) ?_
 intro w1 hS; refine ⟨congrArg Value.bool ?_, hS.Aj⟩; rw [hI13, c3]; rfl
theorem Co (verb opt : Int) (h0 : 0 ≤ verb ∧ verb ≤ 255) (h1 : 0 ≤ opt ∧ opt ≤ 255) (w : World) : EL Tryz.prog 74 #[.int .i64 verb, .int .i64 opt] w fun v w' => v = BQ (AN.Ue verb opt) ∧ B4 w w' := by
 refine Am [] [] Tryz.func74 rfl rfl rfl (St.start w []) ?_
 refine Gs (Ga rfl (Gn (.t2 0 1) (Gs (Gm rfl ?_))))
 refine Gt (NQ Tryz.underlying5 Tryz.underlying3 rfl (IntWalk.u8_in _ (by omega))) ?_
 refine Gm rfl ?_
 refine Gt (NQ Tryz.underlying5 Tryz.underlying3 rfl (IntWalk.u8_in _ (by omega))) ?_
 refine VR (cs := B8 (n := 3) YZ (Vector.replicate 3 default)) rfl Tryz.underlying105 UO X1 (by decide) (by decide) (by kernel_rfl) (.cons (AS.arr (n := 3) (i := 0) aC (by decide) (by decide)) rfl rfl rfl (.cons (AS.arr (n := 3) (i := 1) aC (by decide) (by decide)) rfl rfl rfl (.cons (AS.arr (n := 3) (i := 2) aC (by decide) (by decide)) rfl rfl rfl .nil))) ((I4 aC).len _) (fun b1 => ?_)
 refine Gt (NT (s := AN.Ue verb opt) (by rw [show (AN.Ue verb opt).flatMap C8 = [.int .u8 255, .int .u8 verb, .int .u8 opt] from by simp [AN.Ue, C8, SD h0.1 h0.2, SD h1.1 h1.2]]; rfl) Tryz.underlying105 Tryz.underlying9 Tryz.underlying5 rfl (Kn.own .m0)) ?_
 refine Ga rfl (Gn (.t1 4) (Ab ?_))
 refine AY rfl (.tmp rfl .n) ?_
 intro w1 hS; refine ⟨?_, hS.Aj⟩; rfl
theorem KT (X : AN) (opt : Int) (w : World) : EL Tryz.prog 80 #[.agg X.enc.toArray, .int .i64 opt] w fun v w' => v = .tuple #[.agg (X.C2 opt).1.enc.toArray, BQ (X.C2 opt).2.1, .int .i64 (X.C2 opt).2.2] ∧ B4 w w' := by
 refine Am [] [] Tryz.func80 rfl rfl rfl (St.start w []) ?_
 refine Gs ?_
 refine B3 rfl rfl rfl (fun b1 => ?_)
 refine BF rfl YK rfl (fun b2 => ?_)
 refine Ga rfl (Ga rfl (Gn (.t3 1 2 4) (Gs (Gm rfl ?_))))
 refine A7 rfl Yb (.c rfl .n) (fun w hS => FH _ w) ?_
 refine Gm rfl (Gt (AK rfl rfl) (Gt (AK rfl rfl) (Gt (AK rfl rfl) (Ga rfl (Ga rfl (Ga rfl (Gn (.t5 1 2 4 7 8) ?_)))))))
 refine Ap (Ae (Gs (Gt (AZ rfl Dk .m1 (AS.id AN.fl.len AN.fl.one) rfl) ?_)))
 refine A7 rfl Ya (.c rfl .n) (fun w hS => FV _ w) ?_
 refine Gt (BS rfl) (Ga rfl (Gn (.t6 1 2 4 7 8 16) ?_))
 refine Gc (fun c1 => ?_) (fun c1 => ?_)
 ·
  refine Gs (Gt (AZ rfl Dk .m1 (AS.id AN.fl.len AN.fl.one) rfl) ?_)
  refine AR (AJ (AS.id AN.fl.len AN.fl.one) rfl rfl rfl Jd rfl .h) ?_
  refine Ga rfl (Ga rfl (Gn (.t3 4 5 6) (Ab (AP (AD ?_)))))
  refine AY rfl (.cell rfl .m0 (.inl ⟨(by rw [AN.fl.len]; exact Dk), rfl⟩) (.tmp rfl (.tmp rfl .n))) ?_
  intro w1 hS; refine ⟨?_, hS.Aj⟩; simp only [AN.C2, c1, ↓reduceIte, Bool.false_eq_true]; rfl
 have c1p := kz c1
 refine Gs (Gm rfl (Gt (BS rfl) (Ga rfl (Gn (.t5 1 2 4 7 21) ?_))))
 refine Gc (fun c2 => ?_) (fun c2 => ?_)
 ·
  refine Gs (Gt (AZ rfl Dk .m1 (AS.id AN.fl.len AN.fl.one) rfl) ?_)
  refine AR (AJ (AS.id AN.fl.len AN.fl.one) rfl rfl rfl Jd rfl .h) ?_
  refine Ga rfl (Ga rfl (Gn (.t3 4 5 6) (Ab (AP (AD ?_)))))
  refine AY rfl (.cell rfl .m0 (.inl ⟨(by rw [AN.fl.len]; exact Dk), rfl⟩) (.tmp rfl (.tmp rfl .n))) ?_
  intro w1 hS; refine ⟨?_, hS.Aj⟩; simp only [AN.C2, c1, c2, ↓reduceIte, Bool.false_eq_true]; rfl
 have c2p := kz c2
 have hk := AN.NM (opt := opt) (by simpa using c2)
 have hk1 : 0 ≤ (AN.place opt).1 ∧ (AN.place opt).1 < 3 := by rcases hk with ⟨_, e⟩ | ⟨_, e⟩ <;> rw [e] <;> decide
 have ho : 0 ≤ opt ∧ opt ≤ 255 := by rcases hk with ⟨e, _⟩ | ⟨e, _⟩ <;> omega
 refine Gs (Gm rfl (Gt (Ai KF rfl) ?_))
 refine Gt (AQ Jp rfl rfl (by omega) (by omega)) ?_
 refine Gt (AG rfl A2 .m1 (AN.l3.comp (AS.ar (n := 3) Bw (by omega))) rfl rfl) ?_
 refine Gt (CK rfl rfl) (Ga rfl (Gn (.t5 1 2 4 7 25) ?_))
 refine Gc (fun c3 => ?_) (fun c3 => ?_)
 ·
  refine Gs (Gt (AZ rfl Dk .m1 (AS.id AN.fl.len AN.fl.one) rfl) ?_)
  refine AR (AJ (AS.id AN.fl.len AN.fl.one) rfl rfl rfl Jd rfl .h) ?_
  refine Ga rfl (Ga rfl (Gn (.t3 4 5 6) (Ab (AP (AD ?_)))))
  refine AY rfl (.cell rfl .m0 (.inl ⟨(by rw [AN.fl.len]; exact Dk), rfl⟩) (.tmp rfl (.tmp rfl .n))) ?_
  intro w1 hS; refine ⟨?_, hS.Aj⟩; simp only [AN.C2, c1, c2, c3, ↓reduceIte, Bool.false_eq_true]; rfl
 have c3p := kz c3
 refine Aa ?_
 refine AB (.t4 1 2 4 7) ?_
 refine AT (AA (Gs (Gm rfl (Gt (Ai KF rfl) ?_))))
 refine Gt (AQ Jp rfl rfl (by omega) (by omega)) ?_
 refine AR (AJ (AN.l3.comp (AS.ar (n := 3) Bw (by omega))) rfl rfl rfl Cy rfl (.t .h)) ?_
 refine Gn (.t3 1 2 4) (Ap ?_)
 refine BD (N := 6) [0, 0, 2, 7, 15, 31] mix (by kernel_rfl) rfl ?_
 refine Pf 0 rfl (AZ rfl Dk .m1 (AS.id AN.fl.len AN.fl.one) rfl) (Pf 1 rfl (AE rfl) ?_)
 refine BV 2 rfl rfl (by kernel_rfl) (KQ (Jn (Dp QY (.c rfl (.c rfl .n)) (fun w hS => Co _ _ (by first | assumption | omega) (by first | assumption | omega) w)))) ?_
 refine An 3 rfl (by kernel_rfl) ?_
 refine AR (AJ (AS.id AN.fl.len AN.fl.one) rfl rfl rfl Jd rfl .h) ?_
 refine BK rfl ⟨?_, ?_⟩
 · exact (Pk (Pk (Pk Ar)))
 refine Pf 4 rfl (Ay rfl) (Pf 5 rfl (Ay rfl) ?_)
 refine A1 (by kernel_rfl) ?_
 refine AB (.t3 4 5 6) ?_
 refine AA (Ab ?_)
 refine AY rfl (.cell rfl .m0 (.inl ⟨(by rw [AN.fl.len]; exact Dk), rfl⟩) (.tmp rfl (.tmp rfl .n))) ?_
 intro w1 hS; refine ⟨?_, hS.Aj⟩; simp only [AN.C2, c1, c2, c3, ↓reduceIte, Bool.false_eq_true]; rfl
theorem Lz (X : AN) (opt : Int) (w : World) : EL Tryz.prog 81 #[.agg X.enc.toArray, .int .i64 opt] w fun v w' => v = .tuple #[.agg (X.Ask opt).1.enc.toArray, BQ (X.Ask opt).2.1, .int .i64 (X.Ask opt).2.2] ∧ B4 w w' := by
 refine Am [] [] Tryz.func81 rfl rfl rfl (St.start w []) ?_
 refine Gs ?_
 refine B3 rfl rfl rfl (fun b1 => ?_)
 refine BF rfl YK rfl (fun b2 => ?_)
 refine Ga rfl (Ga rfl (Gn (.t3 1 2 4) (Gs (Gm rfl ?_))))
 refine A7 rfl Yb (.c rfl .n) (fun w hS => FH _ w) ?_
 refine Gm rfl (Gt (AK rfl rfl) (Gt (AK rfl rfl) (Gt (AK rfl rfl) (Ga rfl (Ga rfl (Ga rfl (Gn (.t5 1 2 4 7 9) ?_)))))))
 refine Ap (Ae (Gs (Gt (AZ rfl Dk .m1 (AS.id AN.fl.len AN.fl.one) rfl) ?_)))
 refine A7 rfl Ya (.c rfl .n) (fun w hS => FV _ w) ?_
 refine Gt (BS rfl) (Ga rfl (Gn (.t6 1 2 4 7 9 16) ?_))
 refine Gc (fun c1 => ?_) (fun c1 => ?_)
 ·
  refine Gs (Gt (AZ rfl Dk .m1 (AS.id AN.fl.len AN.fl.one) rfl) ?_)
  refine AR (AJ (AS.id AN.fl.len AN.fl.one) rfl rfl rfl Jd rfl .h) ?_
  refine Ga rfl (Ga rfl (Gn (.t3 4 5 6) (Ab (AP (AD ?_)))))
  refine AY rfl (.cell rfl .m0 (.inl ⟨(by rw [AN.fl.len]; exact Dk), rfl⟩) (.tmp rfl (.tmp rfl .n))) ?_
  intro w1 hS; refine ⟨?_, hS.Aj⟩; simp only [AN.Ask, c1, ↓reduceIte, Bool.false_eq_true]; rfl
 have c1p := kz c1
 refine Gs (Gm rfl (Gt (BS rfl) (Ga rfl (Gn (.t5 1 2 4 7 21) ?_))))
 refine Gc (fun c2 => ?_) (fun c2 => ?_)
 ·
  refine Gs (Gt (AZ rfl Dk .m1 (AS.id AN.fl.len AN.fl.one) rfl) ?_)
  refine AR (AJ (AS.id AN.fl.len AN.fl.one) rfl rfl rfl Jd rfl .h) ?_
  refine Ga rfl (Ga rfl (Gn (.t3 4 5 6) (Ab (AP (AD ?_)))))
  refine AY rfl (.cell rfl .m0 (.inl ⟨(by rw [AN.fl.len]; exact Dk), rfl⟩) (.tmp rfl (.tmp rfl .n))) ?_
  intro w1 hS; refine ⟨?_, hS.Aj⟩; simp only [AN.Ask, c1, c2, ↓reduceIte, Bool.false_eq_true]; rfl
 have c2p := kz c2
 have hk := AN.KI (opt := opt) (by simpa using c2)
 have hk1 : 0 ≤ (AN.place opt).1 ∧ (AN.place opt).1 < 3 := by rcases hk with ⟨_, e⟩ | ⟨_, e⟩ <;> rw [e] <;> decide
 have ho : 0 ≤ opt ∧ opt ≤ 255 := by rcases hk with ⟨e, _⟩ | ⟨e, _⟩ <;> omega
 refine Gs (Gm rfl (Gt (Ai I7 rfl) ?_))
 refine Gt (AQ Jp rfl rfl (by omega) (by omega)) ?_
 refine Gt (AG rfl A2 .m1 (AN.l4.comp (AS.ar (n := 3) Bw (by omega))) rfl rfl) ?_
 refine Gt (CK rfl rfl) (Ga rfl (Gn (.t5 1 2 4 7 25) ?_))
 refine Gc (fun c3 => ?_) (fun c3 => ?_)
 ·
  refine Gs (Gt (AZ rfl Dk .m1 (AS.id AN.fl.len AN.fl.one) rfl) ?_)
  refine AR (AJ (AS.id AN.fl.len AN.fl.one) rfl rfl rfl Jd rfl .h) ?_
  refine Ga rfl (Ga rfl (Gn (.t3 4 5 6) (Ab (AP (AD ?_)))))
  refine AY rfl (.cell rfl .m0 (.inl ⟨(by rw [AN.fl.len]; exact Dk), rfl⟩) (.tmp rfl (.tmp rfl .n))) ?_
  intro w1 hS; refine ⟨?_, hS.Aj⟩; simp only [AN.Ask, c1, c2, c3, ↓reduceIte, Bool.false_eq_true]; rfl
 have c3p := kz c3
 refine Aa ?_
 refine AB (.t4 1 2 4 7) ?_
 refine AT (AA (Gs (Gm rfl (Gt (Ai I7 rfl) ?_))))
 refine Gt (AQ Jp rfl rfl (by omega) (by omega)) ?_
 refine AR (AJ (AN.l4.comp (AS.ar (n := 3) Bw (by omega))) rfl rfl rfl Cy rfl (.t .h)) ?_
 refine Gn (.t3 1 2 4) (Ap ?_)
 refine BD (N := 6) [0, 0, 2, 7, 15, 31] mix (by kernel_rfl) rfl ?_
 refine Pf 0 rfl (AZ rfl Dk .m1 (AS.id AN.fl.len AN.fl.one) rfl) (Pf 1 rfl (AE rfl) ?_)
 refine BV 2 rfl rfl (by kernel_rfl) (KQ (Jn (Dp QY (.c rfl (.c rfl .n)) (fun w hS => Co _ _ (by first | assumption | omega) (by first | assumption | omega) w)))) ?_
 refine An 3 rfl (by kernel_rfl) ?_
 refine AR (AJ (AS.id AN.fl.len AN.fl.one) rfl rfl rfl Jd rfl .h) ?_
 refine BK rfl ⟨?_, ?_⟩
 · exact (Pk (Pk (Pk Ar)))
 refine Pf 4 rfl (Ay rfl) (Pf 5 rfl (Ay rfl) ?_)
 refine A1 (by kernel_rfl) ?_
 refine AB (.t3 4 5 6) ?_
 refine AA (Ab ?_)
 refine AY rfl (.cell rfl .m0 (.inl ⟨(by rw [AN.fl.len]; exact Dk), rfl⟩) (.tmp rfl (.tmp rfl .n))) ?_
 intro w1 hS; refine ⟨?_, hS.Aj⟩; simp only [AN.Ask, c1, c2, c3, ↓reduceIte, Bool.false_eq_true]; rfl
theorem P7 (b : Nat) (V : AM) (ls : Vector BG 4) (ev : List Ing.Event) (k : Int) (n m : Nat) (hk : 0 ≤ k ∧ k < 4) (hF : AL.Fit (A3 V ls ev) n m) (hn : n ≤ 500000) (hm : m ≤ 500000) : Ew Tryz.prog 61 #[.pointer (some ⟨b, 0, none⟩), .pointer (some ⟨b, 165 + k.toNat * 22, none⟩)] [Ad.box b 101 (AM.enc V), Ad.Ds (CI 9 (AM.Ax V) ls), Ad.own (AM.last V) 56 16 ((ev).flatMap Ing.Event.enc)] (fun w => (GV 2 FL w ∧ 2 ∉ CW [Ad.box b 101 (AM.enc V), Ad.Ds (CI 9 (AM.Ax V) ls), Ad.own (AM.last V) 56 16 ((ev).flatMap Ing.Event.enc)]) ∧ (GV 0 AH.C0 w ∧ 0 ∉ CW [Ad.box b 101 (AM.enc V), Ad.Ds (CI 9 (AM.Ax V) ls), Ad.own (AM.last V) 56 16 ((ev).flatMap Ing.Event.enc)]) ∧ (F8 7 w ∧ 7 ∉ CW [Ad.box b 101 (AM.enc V), Ad.Ds (CI 9 (AM.Ax V) ls), Ad.own (AM.last V) 56 16 ((ev).flatMap Ing.Event.enc)]) ∧ (F8 8 w ∧ 8 ∉ CW [Ad.box b 101 (AM.enc V), Ad.Ds (CI 9 (AM.Ax V) ls), Ad.own (AM.last V) 56 16 ((ev).flatMap Ing.Event.enc)])) (fun v B => ∃ V' ls' ev', v = .tuple #[] ∧ A3 V' ls' ev' = AL.QR (A3 V ls ev) k ∧ B = [Ad.box b 101 (AM.enc V'), Ad.Ds (CI 9 (AM.Ax V') ls'), Ad.own (AM.last V') 56 16 ((ev').flatMap Ing.Event.enc)]) := by
 intro w hS0 hH
 obtain ⟨⟨gl0, gm0⟩, ⟨gl1, gm1⟩, ⟨gl2, gm2⟩, ⟨gl3, gm3⟩⟩ := hH
 refine Am _ _ Tryz.func61 rfl rfl rfl (hS0) ?_
 refine Ap ?_
 refine FK (k := k) hk.1 hk.2 (fun sv sl hsv hlv hln => ?_)
 refine AI (Gm rfl (Gt (BA US To rfl (.cons A0.l0 rfl rfl rfl (.cons A0.l1 rfl rfl rfl .nil))) (Gt (BR rfl) ?_)))
 refine AR (AJ (AS.BM V hk.1 hk.2) rfl rfl rfl Ra rfl (.t (.t (.t .h)))) ?_
 refine Gn (.t2 0 1) (B7 ?_)
 refine Gt (EY Tryz.underlying145 Cy Y2 rfl (.cons (AS.arr (n := 2) (i := 0) Bw (by decide) (by decide)) rfl rfl rfl (.cons (AS.arr (n := 2) (i := 1) Bw (by decide) (by decide)) rfl rfl rfl .nil))) ?_
 refine Gm rfl (AO (AA (Ae ?_)))
 refine Bl (.t4 12 0 1 11) ?_
 refine BZ (.t (.t (.t .h))) ?_
 refine DX (fun (j : Int) (t : AN) (g : Page.Pg) => 0 ≤ j ∧ j ≤ 2 ∧ t = (Eg j.toNat).1 ∧ g = (Eg j.toNat).2) (fun (j : Int) (t : AN) (g : Page.Pg) => (2 - j).toNat) (fun (j : Int) (t : AN) (g : Page.Pg) => [(12, .int .i64 j)]) (fun (j : Int) (t : AN) (g : Page.Pg) => [Ad.box b 101 (Iz V k (D7 t g))]) (0) (default) (⟨0, false, [], false⟩) ?_ rfl rfl (fun j t g hI1 => ?_)
 · exact ⟨by omega, by omega, rfl, rfl⟩
 obtain ⟨hI11, hI12, hI13, hI14⟩ := hI1
 refine Gs (Gt (A6 rfl rfl) (AO (AA (Ap ?_))))
 refine Gc (fun c1 => ?_) (fun c1 => ?_)
 ·
  have c1p := kz c1
  refine Aa ?_
  refine AB (.t4 0 1 11 12) ?_
  refine AA (Ap (Ae (Gs ?_)))
  refine Gt (JV Bw Tryz.underlying145 Cy A2 rfl rfl (by first | omega | exact hk.1 | exact hk.2 | (have h1 := E4 t (Db j); have h2 := HN (t.C2 (Db j)).1 (Db j); dsimp only [Db, D7] at *; (try simp only [List.length_nil]); omega)) (by first | omega | exact hk.1 | exact hk.2 | (have h1 := E4 t (Db j); have h2 := HN (t.C2 (Db j)).1 (Db j); dsimp only [Db, D7] at *; (try simp only [List.length_nil]); omega)) rfl) ?_
  refine Ga rfl (Gn (.t5 0 1 5 11 12) (Gs (Ga rfl (Ga rfl (Gn (.t6 0 1 5 7 11 12) (B7 (Gm rfl ?_)))))))
  refine Gm rfl (Gt (BR rfl) (Gt (Ai KA rfl) (Gt (AZ rfl Dk .m0 ((AS.BM V hk.1 hk.2).comp A0.l2) rfl) (Gm rfl ?_))))
  refine A7 rfl an (.c rfl (.c rfl .n)) (fun w hS => KT _ _ w) ?_
  refine Gm rfl (Gt (AK rfl rfl) (Gt (AK rfl rfl) (Gt (AK rfl rfl) (Gt (BR rfl) (Gt (Ai KA rfl) ?_)))))
  refine AR (AJ ((AS.BM V hk.1 hk.2).comp A0.l2) rfl rfl rfl Jd rfl .h) ?_
  refine Ga rfl (Gn (.t7 0 1 5 6 7 11 12) (Gs (Gm rfl (Gt (Bs rfl rfl) (Gn (.t8 0 1 5 6 7 11 12 29) ?_)))))
  refine Gc (fun c2 => ?_) (fun c2 => ?_)
  ·
   have c2p := kz c2
   refine AI (Gm rfl (Gm rfl (Gt (BR rfl) (Gt (Ai KA rfl) (Gt (AZ rfl Dk .m0 ((AS.BM V hk.1 hk.2).comp A0.l2) rfl) (Gm rfl ?_))))))
   refine A7 rfl aI (.c rfl (.c rfl .n)) (fun w hS => Lz _ _ w) ?_
   refine Gm rfl (Gt (AK rfl rfl) (Gt (AK rfl rfl) (Gt (AK rfl rfl) (Gt (BR rfl) (Gt (Ai KA rfl) ?_)))))
   refine AR (AJ ((AS.BM V hk.1 hk.2).comp A0.l2) rfl rfl rfl Jd rfl .h) ?_
   refine Ga rfl (Gn (.t6 0 1 6 7 11 12) (AI (Gm rfl (Gm rfl (Gt (BR rfl) (Gt (Ai Df rfl) (Gt (AZ rfl Cn .m0 ((AS.BM V hk.1 hk.2).comp A0.l4) rfl) ?_)))))))
   refine Gm rfl (Gm rfl ?_)
   refine Gt (CM rfl rfl (by first | omega | exact hk.1 | exact hk.2 | (have h1 := E4 t (Db j); have h2 := HN (t.C2 (Db j)).1 (Db j); dsimp only [Db, D7] at *; (try simp only [List.length_nil]); omega))) ?_
   refine A7 rfl Vf (.c rfl (.c rfl .n)) (fun w hS => D6 _ _ (by simp only [List.length_append]; have h1 := E4 t (Db j); have h2 := HN (t.C2 (Db j)).1 (Db j); dsimp only [Db, D7] at *; (try simp only [List.length_nil]); omega) w) ?_
   refine Gm rfl (Gt (AK rfl rfl) (Gt (AK rfl rfl) (Gt (BR rfl) (Gt (Ai Df rfl) ?_))))
   refine AR (AJ ((AS.BM V hk.1 hk.2).comp A0.l4) rfl rfl rfl FC rfl .h) ?_
   refine AO (AB (.t4 0 1 11 12) ?_)
   refine AT (AA ?_)
   refine FW (fun _ => .h) (congrArg (Iz V k) (show _ = D7 (HZ t (Db j)) (J3 t g (Db j)) from by rw [D7, J3, show HZ t (Db j) = _ from A9 c2, show LD t (Db j) = _ from A9 c2]; rfl)) ?_
   refine AI ?_
   refine Gt (As rfl rfl (IntWalk.i64_in _ (by first | omega | exact hk.1 | exact hk.2 | (have h1 := E4 t (Db j); have h2 := HN (t.C2 (Db j)).1 (Db j); dsimp only [Db, D7] at *; (try simp only [List.length_nil]); omega)))) ?_
   refine Gm rfl ?_
   refine AO (AB (.t4 0 1 11 12) ?_)
   refine Bt (j + 1) _ _ ?_ ?_ (.t4 12 0 1 11) (.refl _)
   · exact ⟨by omega, by omega, by rw [GY hI11, ← hI13, ← hI14], by rw [GY hI11, ← hI13, ← hI14]⟩
   · omega
  have c2p := kz c2
  refine Aa ?_
  refine AB (.t6 0 1 6 7 11 12) ?_
  refine AA (AI (Gm rfl (Gm rfl (Gt (BR rfl) (Gt (Ai Df rfl) (Gt (AZ rfl Cn .m0 ((AS.BM V hk.1 hk.2).comp A0.l4) rfl) (Gm rfl ?_)))))))
  refine Gm rfl ?_
  refine Gt (CM rfl rfl (by first | omega | exact hk.1 | exact hk.2 | (have h1 := E4 t (Db j); have h2 := HN (t.C2 (Db j)).1 (Db j); dsimp only [Db, D7] at *; (try simp only [List.length_nil]); omega))) ?_
  refine A7 rfl Vf (.c rfl (.c rfl .n)) (fun w hS => D6 _ _ (by simp only [List.length_append]; have h1 := E4 t (Db j); have h2 := HN (t.C2 (Db j)).1 (Db j); dsimp only [Db, D7] at *; (try simp only [List.length_nil]); omega) w) ?_
  refine Gm rfl (Gt (AK rfl rfl) (Gt (AK rfl rfl) (Gt (BR rfl) (Gt (Ai Df rfl) ?_))))
  refine AR (AJ ((AS.BM V hk.1 hk.2).comp A0.l4) rfl rfl rfl FC rfl .h) ?_
  refine AO (AB (.t4 0 1 11 12) ?_)
  refine AT (AA ?_)
  refine FW (fun _ => .h) (congrArg (Iz V k) (show _ = D7 (HZ t (Db j)) (J3 t g (Db j)) from by rw [D7, J3, show HZ t (Db j) = _ from AU c2, show LD t (Db j) = _ from AU c2]; rfl)) ?_
  refine AI ?_
  refine Gt (As rfl rfl (IntWalk.i64_in _ (by first | omega | exact hk.1 | exact hk.2 | (have h1 := E4 t (Db j); have h2 := HN (t.C2 (Db j)).1 (Db j); dsimp only [Db, D7] at *; (try simp only [List.length_nil]); omega)))) ?_
  refine Gm rfl ?_
  refine AO (AB (.t4 0 1 11 12) ?_)
  refine Bt (j + 1) _ _ ?_ ?_ (.t4 12 0 1 11) (.refl _)
  · exact ⟨by omega, by omega, by rw [GY hI11, ← hI13, ← hI14], by rw [GY hI11, ← hI13, ← hI14]⟩
  · omega
 have c1p := kz c1
 obtain rfl : j = 2 := by omega
 refine BX (AW (AW (Ag ?_)))
 refine AB (.t2 0 1) ?_
 refine AA (Ap ?_)
 refine EM A4 9 1 ?_
 refine EM A4 9 1 ?_
 refine EM A4 9 1 ?_
 refine Eb (.c (.t (.t .h)) (.c (.t .h) (.c .h (.c .h (.c (.t (.t (.t .h))) .n))))) ?_
 refine GP hk.1 hk.2 (by rfl) (by rfl) (by rfl) ?_
 refine AI (Gm rfl (Gm rfl ?_))
 refine Ah rfl SM (.c rfl (.c rfl (.c rfl .n))) (.c .h (.c .h (.c (.t (.t (.t .h))) .n))) (D0 _ (AM.BM V k (D7 t g)) (ls.put k ⟨[], [], []⟩) ev k _ hk (by rw [Vector.CG hk.1 hk.2]; exact Nat.zero_le _)) (fun v4 B hv => ?_)
 obtain ⟨y5, y6, y7, rfl, y8, rfl⟩ := hv
 refine Gn (.t1 0) (AI (Gm rfl ?_))
 refine BC rfl Qu (.c rfl .n) (.c .h (.c .h (.c .h .n))) (DY _ y5 y6 y7 (n + 1) m (by rw [y8, (show A3 (AM.BM V k (D7 t g)) (ls.put k ⟨[], [], []⟩) ev = AL.set (A3 V ls ev) k (Cb (D7 t g) WS) from Hn V ls ev hk.1 hk.2 _ _)]; exact (hF.comes hk.1 hk.2 t g).tell hk.1 hk.2 (show AL.HQ.length ≤ _ by decide)) (by omega) (by omega)) (fun w hS => ⟨gl0.pull gm0 hS (.c .h (.c .h (.c .h .n))), gl1.pull gm1 hS (.c .h (.c .h (.c .h .n))), gl2.pull gm2 hS (.c .h (.c .h (.c .h .n))), gl3.pull gm3 hS (.c .h (.c .h (.c .h .n)))⟩) (fun v9 B hv => ?_)
 obtain ⟨y10, y11, y12, rfl, y13, rfl⟩ := hv
 refine AO ?_
 refine Be rfl .n ?_
 intro w1 hS
 have hS := (hS.perm (Av.perm (.c .h (.c .h (.c .h .n))))).Az
 refine ⟨_, ⟨y10, y11, y12, rfl, ?ga1, rfl⟩, hS⟩
 case ga1 => rw [y13, y8, (show A3 (AM.BM V k (D7 t g)) (ls.put k ⟨[], [], []⟩) ev = AL.set (A3 V ls ev) k (Cb (D7 t g) WS) from Hn V ls ev hk.1 hk.2 _ _), hI13, hI14]; unfold AL.QR; rw [← NH]; rfl
theorem EP {α : Type} {ea : α → List Value} {o : Nat} {g : α → Int} {st : α → Int → α} (b V : Nat) (Y : α) (on : Bool) (opt yes no : Int) (h0 : 0 ≤ yes ∧ yes ≤ 255) (h1 : 0 ≤ no ∧ no ≤ 255) (h2 : 0 ≤ opt ∧ opt ≤ 255) (ln : AS ea Au o 1 g st) : JU Tryz.prog 75 #[.pointer (some ⟨b, o, none⟩), .bool on, .int .i64 opt, .int .i64 yes, .int .i64 no] [Ad.box b V (ea Y)] (fun v B => v = BQ (AN.H0 (g Y) on opt yes no) ∧ B = [Ad.box b V (ea (st Y (AN.Wq on)))]) := by
 intro w hS0
 refine Am _ _ Tryz.func75 rfl rfl rfl (hS0) ?_
 refine Gs (Ga rfl (Gn (.t5 0 1 2 3 4) (Gs (Gm rfl (Gt (BR rfl) (Gt (AG rfl A2 .m0 ln rfl rfl) (Ga rfl ?_)))))))
 refine Gn (.t6 0 1 2 3 4 11) (Gs (Gm rfl (Gt (BR rfl) ?_)))
 refine AR (AJ ln rfl rfl rfl Cy rfl .h) ?_
 refine Gn (.t6 0 1 2 3 4 11) (B7 (Gm rfl (AO (AA ?_))))
 refine Gc (fun c1 => ?_) (fun c1 => ?_)
 ·
  have c1p := kz c1
  refine AI (Gm rfl (Gt (BR rfl) ?_))
  refine AR (AJ ln rfl rfl rfl Cy rfl .h) ?_
  refine Gn (.t5 1 2 3 4 11) (Ap (Ae (Gs (Gm rfl (Gm rfl (Bh 22 rfl rfl (fun q => AE rfl) (Bh 22 rfl rfl (fun q => Af (Bc rfl q) rfl) ?_)))))))
  refine Gt (BI rfl rfl (fun h => h)) (Ga rfl (Gn (.t6 1 2 3 4 11 20) ?_))
  refine Gc (fun c2 => ?_) (fun c2 => ?_)
  ·
   have c2p := kz c2
   refine Gs (Gm rfl (Gm rfl ?_))
   refine A7 rfl QY (.c rfl (.c rfl .n)) (fun w hS => Co _ _ (by first | assumption | omega) (by first | assumption | omega) w) ?_
   refine Ga rfl (Gn (.t1 10) (Ab (AP (AD ?_))))
   refine AY rfl (.tmp rfl .n) ?_
   intro w1 hS
   have hS := (hS.perm (Av.perm (.c .h .n))).Az
   exact ⟨_, ⟨by clear hS; simp_all [AN.H0, Ua], by simp only [AN.Wq, ln.JW, c1, c2, ↓reduceIte, Bool.false_eq_true]⟩, hS⟩
  have c2p := kz c2
  refine Gs (Gm rfl (Gt (BS rfl) (Gm rfl (Bh 32 rfl rfl (fun q => AE rfl) (Bh 32 rfl rfl (fun q => Af (Bc rfl q) rfl) (Gt (BI rfl rfl (fun h => h)) (Ga rfl ?_)))))))
  refine Gn (.t3 2 4 29) ?_
  refine Gc (fun c3 => ?_) (fun c3 => ?_)
  ·
   have c3p := kz c3
   refine Gs (Gm rfl (Gm rfl ?_))
   refine A7 rfl QY (.c rfl (.c rfl .n)) (fun w hS => Co _ _ (by first | assumption | omega) (by first | assumption | omega) w) ?_
   refine Ga rfl (Gn (.t1 10) (Ab (AP (AD ?_))))
   refine AY rfl (.tmp rfl .n) ?_
   intro w1 hS
   have hS := (hS.perm (Av.perm (.c .h .n))).Az
   exact ⟨_, ⟨by clear hS; simp_all [AN.H0, Ua], by simp only [AN.Wq, ln.JW, c1, c2, c3, ↓reduceIte, Bool.false_eq_true]⟩, hS⟩
  have c3p := kz c3
  refine Aa ?_
  refine AB (.nil _) ?_
  refine AT (AA (Gs (Ga rfl (AO (AA (Ab ?_))))))
  refine AY rfl (.tmp rfl .n) ?_
  intro w1 hS
  have hS := (hS.perm (Av.perm (.c .h .n))).Az
  exact ⟨_, ⟨by clear hS; simp_all [AN.H0, Ua], by simp only [AN.Wq, ln.JW, c1, c2, c3, ↓reduceIte, Bool.false_eq_true]⟩, hS⟩
 have c1p := kz c1
 refine Aa ?_
 refine AB (.t5 1 2 3 4 11) ?_
 refine AA (Ap (Ae (Gs (Gm rfl (Gm rfl (Bh 22 rfl rfl (fun q => AE rfl) (Bh 22 rfl rfl (fun q => Af (Bc rfl q) rfl) ?_)))))))
 refine Gt (BI rfl rfl (fun h => h)) (Ga rfl (Gn (.t6 1 2 3 4 11 20) ?_))
 refine Gc (fun c4 => ?_) (fun c4 => ?_)
 ·
  have c4p := kz c4
  refine Gs (Gm rfl (Gm rfl ?_))
  refine A7 rfl QY (.c rfl (.c rfl .n)) (fun w hS => Co _ _ (by first | assumption | omega) (by first | assumption | omega) w) ?_
  refine Ga rfl (Gn (.t1 10) (Ab (AP (AD ?_))))
  refine AY rfl (.tmp rfl .n) ?_
  intro w1 hS
  have hS := (hS.perm (Av.perm (.c .h .n))).Az
  exact ⟨_, ⟨by clear hS; simp_all [AN.H0, Ua], by simp only [AN.Wq, ln.JW, c1, c4, ↓reduceIte, Bool.false_eq_true]⟩, hS⟩
 have c4p := kz c4
 refine Gs (Gm rfl (Gt (BS rfl) (Gm rfl (Bh 32 rfl rfl (fun q => AE rfl) (Bh 32 rfl rfl (fun q => Af (Bc rfl q) rfl) (Gt (BI rfl rfl (fun h => h)) (Ga rfl ?_)))))))
 refine Gn (.t3 2 4 29) ?_
 refine Gc (fun c5 => ?_) (fun c5 => ?_)
 ·
  have c5p := kz c5
  refine Gs (Gm rfl (Gm rfl ?_))
  refine A7 rfl QY (.c rfl (.c rfl .n)) (fun w hS => Co _ _ (by first | assumption | omega) (by first | assumption | omega) w) ?_
  refine Ga rfl (Gn (.t1 10) (Ab (AP (AD ?_))))
  refine AY rfl (.tmp rfl .n) ?_
  intro w1 hS
  have hS := (hS.perm (Av.perm (.c .h .n))).Az
  exact ⟨_, ⟨by clear hS; simp_all [AN.H0, Ua], by simp only [AN.Wq, ln.JW, c1, c4, c5, ↓reduceIte, Bool.false_eq_true]⟩, hS⟩
 have c5p := kz c5
 refine Aa ?_
 refine AB (.nil _) ?_
 refine AT (AA (Gs (Ga rfl (AO (AA (Ab ?_))))))
 refine AY rfl (.tmp rfl .n) ?_
 intro w1 hS
 have hS := (hS.perm (Av.perm (.c .h .n))).Az
 exact ⟨_, ⟨by clear hS; simp_all [AN.H0, Ua], by simp only [AN.Wq, ln.JW, c1, c4, c5, ↓reduceIte, Bool.false_eq_true]⟩, hS⟩
theorem Ib (b : Nat) (X : AN) (verb opt : Int) (h0 : 0 ≤ opt ∧ opt ≤ 255) : JU Tryz.prog 56 #[.pointer (some ⟨b, 0, none⟩), .int .i64 verb, .int .i64 opt] [Ad.box b 69 X.enc] (fun v B => v = BQ (X.Bx verb opt).2 ∧ B = [Ad.box b 69 (X.Bx verb opt).1.enc]) := by
 intro w hS0
 refine Am _ _ Tryz.func56 rfl rfl rfl (hS0) ?_
 refine Gs (Ga rfl (Gn (.t3 0 1 2) (Gs (Gm rfl ?_))))
 refine A7 rfl Yb (.c rfl .n) (fun w hS => FH _ w) ?_
 refine Gm rfl (Gt (AK rfl rfl) (Gt (AK rfl rfl) (Gt (AK rfl rfl) (Ga rfl (Ga rfl (Ga rfl (Gn (.t6 0 1 2 7 8 9) ?_)))))))
 refine B7 (Gm rfl (Gn (.t6 0 2 7 8 9 16) (Ae (Gs (Gt (Af rfl rfl) (Ga rfl (Gn (.t7 0 2 7 8 9 16 17) ?_)))))))
 refine Gc (fun c1 => ?_) (fun c1 => ?_)
 ·
  have c1p := kz c1
  refine B7 (Gm rfl (Gt (BS rfl) (Gn (.t4 0 2 7 20) ?_)))
  refine Gc (fun c2 => ?_) (fun c2 => ?_)
  ·
   have c2p := kz c2
   refine Gs (Gm rfl ?_)
   refine A7 rfl QY (.c rfl (.c rfl .n)) (fun w hS => Co _ _ (by first | assumption | omega) (by first | assumption | omega) w) ?_
   refine Ga rfl (Gn (.t1 6) (Ab (AD (AP (AD ?_)))))
   refine AY rfl (.tmp rfl .n) ?_
   intro w1 hS
   have hS := (hS.perm (Av.perm (.c .h .n))).Az
   exact ⟨_, ⟨by simp only [AN.Bx, c1, c2, ↓reduceIte, Bool.false_eq_true] <;> rfl, by simp only [AN.Bx, c1, c2, ↓reduceIte, Bool.false_eq_true] <;> rfl⟩, hS⟩
  have c2p := kz c2
  have hk := AN.NM (opt := opt) (by simpa using c2)
  have hk1 : 0 ≤ (AN.place opt).1 ∧ (AN.place opt).1 < 3 := by rcases hk with ⟨_, e⟩ | ⟨_, e⟩ <;> rw [e] <;> decide
  refine Aa ?_
  refine AB (.t3 0 2 7) ?_
  refine AA (Gs (Gm rfl (Gm rfl (Gt (BR rfl) (Gt (Ai KF rfl) ?_)))))
  refine Gt (AQ Jp rfl rfl (by omega) (by omega)) ?_
  refine Gm rfl ?_
  refine Ah rfl XQ (.c rfl (.c rfl (.c rfl (.c rfl (.c rfl .n))))) (.c .h .n) (EP _ _ _ _ _ _ _ (by first | assumption | omega) (by first | assumption | omega) (by first | assumption | omega) (AN.l3.comp (AS.ar (n := 3) Bw (by omega)))) (fun v1 B hv => ?_)
  obtain ⟨rfl, rfl⟩ := hv
  refine Ga rfl (Gn (.t1 6) (Ab (AP (AD ?_))))
  refine AY rfl (.tmp rfl .n) ?_
  intro w1 hS
  have hS := (hS.perm (Av.perm (.c .h .n))).Az
  exact ⟨_, ⟨by simp only [AN.Bx, c1, c2, ↓reduceIte, Bool.false_eq_true] <;> rfl, by simp only [AN.Bx, c1, c2, ↓reduceIte, Bool.false_eq_true] <;> rfl⟩, hS⟩
 have c1p := kz c1
 refine Gs (Gt (Af rfl rfl) (Ga rfl (Gn (.t7 0 2 7 8 9 16 30) ?_)))
 refine Gc (fun c3 => ?_) (fun c3 => ?_)
 ·
  have c3p := kz c3
  refine Gs (Gm rfl (Gn (.t4 0 2 7 32) ?_))
  refine Gc (fun c4 => ?_) (fun c4 => ?_)
  ·
   have c4p := kz c4
   have hk := AN.NM (opt := opt) (by simpa using c4)
   have hk1 : 0 ≤ (AN.place opt).1 ∧ (AN.place opt).1 < 3 := by rcases hk with ⟨_, e⟩ | ⟨_, e⟩ <;> rw [e] <;> decide
   refine Gs (Gm rfl (Gm rfl (Gt (BR rfl) (Gt (Ai KF rfl) ?_))))
   refine Gt (AQ Jp rfl rfl (by omega) (by omega)) ?_
   refine Gm rfl ?_
   refine Ah rfl XQ (.c rfl (.c rfl (.c rfl (.c rfl (.c rfl .n))))) (.c .h .n) (EP _ _ _ _ _ _ _ (by first | assumption | omega) (by first | assumption | omega) (by first | assumption | omega) (AN.l3.comp (AS.ar (n := 3) Bw (by omega)))) (fun v2 B hv => ?_)
   obtain ⟨rfl, rfl⟩ := hv
   refine Ga rfl (Gn (.t1 6) (Ab (AP (AD ?_))))
   refine AY rfl (.tmp rfl .n) ?_
   intro w1 hS
   have hS := (hS.perm (Av.perm (.c .h .n))).Az
   exact ⟨_, ⟨by simp only [AN.Bx, c1, c3, c4, ↓reduceIte, Bool.false_eq_true] <;> rfl, by simp only [AN.Bx, c1, c3, c4, ↓reduceIte, Bool.false_eq_true] <;> rfl⟩, hS⟩
  refine Aa ?_
  refine AB (.nil _) ?_
  refine AT (AA (Gs (Ga rfl (AO (AA (Ab ?_))))))
  refine AY rfl (.tmp rfl .n) ?_
  intro w1 hS
  have hS := (hS.perm (Av.perm (.c .h .n))).Az
  exact ⟨_, ⟨by simp only [AN.Bx, c1, c3, c4, ↓reduceIte, Bool.false_eq_true] <;> rfl, by simp only [AN.Bx, c1, c3, c4, ↓reduceIte, Bool.false_eq_true] <;> rfl⟩, hS⟩
 have c3p := kz c3
 refine Gs (Gt (Af rfl rfl) (Ga rfl (Gn (.t6 0 2 7 9 16 40) ?_)))
 refine Gc (fun c5 => ?_) (fun c5 => ?_)
 ·
  have c5p := kz c5
  refine B7 (Gm rfl (Gt (BS rfl) (Gn (.t4 0 2 7 43) ?_)))
  refine Gc (fun c6 => ?_) (fun c6 => ?_)
  ·
   have c6p := kz c6
   refine Gs (Gm rfl ?_)
   refine A7 rfl QY (.c rfl (.c rfl .n)) (fun w hS => Co _ _ (by first | assumption | omega) (by first | assumption | omega) w) ?_
   refine Ga rfl (Gn (.t1 6) (Ab (AD (AP (AD ?_)))))
   refine AY rfl (.tmp rfl .n) ?_
   intro w1 hS
   have hS := (hS.perm (Av.perm (.c .h .n))).Az
   exact ⟨_, ⟨by simp only [AN.Bx, c1, c3, c5, c6, ↓reduceIte, Bool.false_eq_true] <;> rfl, by simp only [AN.Bx, c1, c3, c5, c6, ↓reduceIte, Bool.false_eq_true] <;> rfl⟩, hS⟩
  have c6p := kz c6
  have hk := AN.KI (opt := opt) (by simpa using c6)
  have hk1 : 0 ≤ (AN.place opt).1 ∧ (AN.place opt).1 < 3 := by rcases hk with ⟨_, e⟩ | ⟨_, e⟩ <;> rw [e] <;> decide
  refine Aa ?_
  refine AB (.t3 0 2 7) ?_
  refine AA (Gs (Gm rfl (Gm rfl (Gt (BR rfl) (Gt (Ai I7 rfl) ?_)))))
  refine Gt (AQ Jp rfl rfl (by omega) (by omega)) ?_
  refine Gm rfl ?_
  refine Ah rfl XQ (.c rfl (.c rfl (.c rfl (.c rfl (.c rfl .n))))) (.c .h .n) (EP _ _ _ _ _ _ _ (by first | assumption | omega) (by first | assumption | omega) (by first | assumption | omega) (AN.l4.comp (AS.ar (n := 3) Bw (by omega)))) (fun v3 B hv => ?_)
  obtain ⟨rfl, rfl⟩ := hv
  refine Ga rfl (Gn (.t1 6) (Ab (AP (AD ?_))))
  refine AY rfl (.tmp rfl .n) ?_
  intro w1 hS
  have hS := (hS.perm (Av.perm (.c .h .n))).Az
  exact ⟨_, ⟨by simp only [AN.Bx, c1, c3, c5, c6, ↓reduceIte, Bool.false_eq_true] <;> rfl, by simp only [AN.Bx, c1, c3, c5, c6, ↓reduceIte, Bool.false_eq_true] <;> rfl⟩, hS⟩
 have c5p := kz c5
 refine Gs (Gt (Af rfl rfl) (Ga rfl (Gn (.t5 0 2 7 9 53) ?_)))
 refine Gc (fun c7 => ?_) (fun c7 => ?_)
 ·
  have c7p := kz c7
  refine Gs (Gm rfl (Gn (.t4 0 2 7 55) ?_))
  refine Gc (fun c8 => ?_) (fun c8 => ?_)
  ·
   have c8p := kz c8
   have hk := AN.KI (opt := opt) (by simpa using c8)
   have hk1 : 0 ≤ (AN.place opt).1 ∧ (AN.place opt).1 < 3 := by rcases hk with ⟨_, e⟩ | ⟨_, e⟩ <;> rw [e] <;> decide
   refine Gs (Gm rfl (Gm rfl (Gt (BR rfl) (Gt (Ai I7 rfl) ?_))))
   refine Gt (AQ Jp rfl rfl (by omega) (by omega)) ?_
   refine Gm rfl ?_
   refine Ah rfl XQ (.c rfl (.c rfl (.c rfl (.c rfl (.c rfl .n))))) (.c .h .n) (EP _ _ _ _ _ _ _ (by first | assumption | omega) (by first | assumption | omega) (by first | assumption | omega) (AN.l4.comp (AS.ar (n := 3) Bw (by omega)))) (fun v4 B hv => ?_)
   obtain ⟨rfl, rfl⟩ := hv
   refine Ga rfl (Gn (.t1 6) (Ab (AP (AD ?_))))
   refine AY rfl (.tmp rfl .n) ?_
   intro w1 hS
   have hS := (hS.perm (Av.perm (.c .h .n))).Az
   exact ⟨_, ⟨by simp only [AN.Bx, c1, c3, c5, c7, c8, ↓reduceIte, Bool.false_eq_true] <;> rfl, by simp only [AN.Bx, c1, c3, c5, c7, c8, ↓reduceIte, Bool.false_eq_true] <;> rfl⟩, hS⟩
  refine Aa ?_
  refine AB (.nil _) ?_
  refine AT (AA (Gs (Ga rfl (AO (AA (Ab ?_))))))
  refine AY rfl (.tmp rfl .n) ?_
  intro w1 hS
  have hS := (hS.perm (Av.perm (.c .h .n))).Az
  exact ⟨_, ⟨by simp only [AN.Bx, c1, c3, c5, c7, c8, ↓reduceIte, Bool.false_eq_true] <;> rfl, by simp only [AN.Bx, c1, c3, c5, c7, c8, ↓reduceIte, Bool.false_eq_true] <;> rfl⟩, hS⟩
 refine Aa ?_
 refine AB (.nil _) ?_
 refine AT (AA (Gs (Ga rfl (AO (AA (Ab ?_))))))
 refine AY rfl (.tmp rfl .n) ?_
 intro w1 hS
 have hS := (hS.perm (Av.perm (.c .h .n))).Az
 exact ⟨_, ⟨by simp only [AN.Bx, c1, c3, c5, c7, ↓reduceIte, Bool.false_eq_true] <;> rfl, by simp only [AN.Bx, c1, c3, c5, c7, ↓reduceIte, Bool.false_eq_true] <;> rfl⟩, hS⟩
theorem GM (b : Nat) (X : AN) (c : UInt8) (h0 : X.sub.length ≤ 16) : JU Tryz.prog 57 #[.pointer (some ⟨b, 0, none⟩), .int .u8 (c.toNat : Int)] [Ad.box b 69 X.enc] (fun v B => v = .tuple #[] ∧ B = [Ad.box b 69 (X.collect c).enc]) := by
 intro w hS0
 refine Am _ _ Tryz.func57 rfl rfl rfl (hS0) ?_
 refine Gs (Gm rfl (Gt (BR rfl) (Gt (Ai GH rfl) (Gt (AG rfl CN .m0 AN.l2 rfl rfl) (Gt (BE rfl Tryz.underlying9 rfl) (Gt (A6 rfl rfl) (Gn (.t3 0 1 9) ?_)))))))
 refine Gc (fun c1 => ?_) (fun c1 => ?_)
 ·
  have c1p := kz c1
  refine BD (N := 11) [0, 1, 3, 7, 0, 16, 48, 127, 255, 511, 1023] mix (by kernel_rfl) rfl ?_
  refine Pf 0 rfl (AE rfl) (Pf 1 rfl (BR rfl) (Pf 2 rfl (Ai GH rfl) (Pf 3 rfl (AG rfl CN .m0 AN.l2 rfl rfl) (Pf 4 rfl (AE rfl) ?_))))
  refine An 5 rfl (by kernel_rfl) ?_
  refine SU rfl Tryz.underlying105 UO X1 rfl (by decide) (by decide) rfl rfl rfl (fun b1 => ?_)
  refine Bo rfl ⟨?_, ?_⟩
  · exact (Pk (Po rfl (AG rfl CN .m1 AN.l2 rfl rfl) rfl rfl (Po rfl (Ai GH rfl) rfl rfl (Po rfl (BR rfl) rfl rfl (Po rfl (AE rfl) rfl rfl Ar)))))
  refine Pf 6 rfl (NT (s := [c]) rfl Tryz.underlying105 Tryz.underlying9 Tryz.underlying5 rfl (Kn.own .m0)) ?_
  refine Pf 7 rfl (CM rfl rfl (by simp only [List.length_cons, List.length_nil]; omega)) ?_
  refine Pf 8 rfl (BR rfl) (Pf 9 rfl (Ai GH rfl) ?_)
  refine An 10 rfl (by kernel_rfl) ?_
  refine AR (AJ AN.l2 rfl rfl rfl Ei rfl (.t .h)) ?_
  refine BK rfl ⟨?_, ?_⟩
  · exact (Pk (Pk (Pk (Pk (Pk (Pk (Pk (Pk (Pk Ar)))))))))
  refine A1 (by kernel_rfl) ?_
  refine Be rfl .n ?_
  intro w1 hS
  have hS := (hS.perm (Av.perm (.c (.t .h) .n))).Az
  exact ⟨_, ⟨rfl, by simp only [AN.collect, c1, ↓reduceIte, Bool.false_eq_true]⟩, hS⟩
 refine Aa ?_
 refine Be rfl .n ?_
 intro w1 hS
 have hS := (hS.perm (Av.perm (.c .h .n))).Az
 exact ⟨_, ⟨rfl, by simp only [AN.collect, c1, ↓reduceIte, Bool.false_eq_true]⟩, hS⟩
theorem Jc (b : Nat) (X : AN) : JU Tryz.prog 58 #[.pointer (some ⟨b, 0, none⟩)] [Ad.box b 69 X.enc] (fun v B => v = .tuple #[] ∧ B = [Ad.box b 69 X.measure.enc]) := by
 intro w hS0
 refine Am _ _ Tryz.func58 rfl rfl rfl (hS0) ?_
 refine Gs (Gm rfl (Gt (BR rfl) (Gt (Ai GH rfl) (Gt (AG rfl CN .m0 AN.l2 rfl rfl) (Gt (BE rfl Tryz.underlying9 rfl) (Gt (Af rfl rfl) (Gm rfl ?_)))))))
 refine Bh 8 rfl rfl (fun q => AE rfl) (Bh 8 rfl rfl (fun q => BR (Bc rfl q)) (Bh 8 rfl rfl (fun q => Ai GH (Bc rfl q)) (Bh 8 rfl rfl (fun q => AG (Bc rfl q) CN .m0 AN.l2 rfl rfl) ?_)))
 refine Bh 8 rfl rfl (fun q => by have q1 := q; (try simp at q1); exact Bg Tryz.underlying9 (Bc rfl q) rfl (by decide) (by omega)) ?_
 refine Bh 8 rfl rfl (fun q => Af (Bc rfl q) rfl) (Gt (BI rfl rfl (fun h => h)) (Gm rfl (Bh 16 rfl rfl (fun q => AE rfl) (Bh 16 rfl rfl (fun q => BR (Bc rfl q)) (Bh 16 rfl rfl (fun q => Ai I7 (Bc rfl q)) ?_)))))
 refine Bh 16 rfl rfl (fun q => AQ Jp (Bc rfl q) rfl (by decide) (by decide)) ?_
 refine Bh 16 rfl rfl (fun q => AG (Bc rfl q) A2 .m0 (AN.l4.comp (AS.arr (n := 3) Bw (by decide) (by decide))) rfl rfl) ?_
 refine Bh 16 rfl rfl (fun q => Af (Bc rfl q) rfl) (Gt (BI rfl rfl (fun h => h)) (Gn (.t2 0 23) ?_))
 refine Gc (fun c1 => ?_) (fun c1 => ?_)
 ·
  have c1p := kz c1
  refine BD (N := 19) [0, 0, 2, 6, 14, 30, 62, 126, 0, 256, 768, 1792, 3840, 7936, 16382, 32766, 65535, 131071, 262143] mix (by kernel_rfl) rfl ?_
  refine Pf 0 rfl (AE rfl) (Pf 1 rfl (AE rfl) (Pf 2 rfl (BR rfl) (Pf 3 rfl (Ai GH rfl) (Pf 4 rfl (AG rfl CN .m0 AN.l2 rfl rfl) ?_))))
  refine Pf 5 rfl (Bg Tryz.underlying9 rfl rfl (by decide) (by omega)) ?_
  refine Pf 6 rfl (R5 Tryz.underlying3 Tryz.underlying5 rfl) (Pf 7 rfl (Ww rfl rfl) (Pf 8 rfl (AE rfl) (Pf 9 rfl (BR rfl) (Pf 10 rfl (Ai GH rfl) (Pf 11 rfl (AG rfl CN .m0 AN.l2 rfl rfl) ?_)))))
  refine Pf 12 rfl (Bg Tryz.underlying9 rfl rfl (by decide) (by omega)) ?_
  refine Pf 13 rfl (R5 Tryz.underlying3 Tryz.underlying5 rfl) (Pf 14 rfl (X8 rfl rfl) (Pf 15 rfl (Kf rfl rfl) (Pf 16 rfl (BR rfl) (Pf 17 rfl (Ai O8 rfl) ?_))))
  refine An 18 rfl (by kernel_rfl) ?_
  refine AR (AJ AN.l5 rfl rfl rfl Cy rfl .h) ?_
  refine BK rfl ⟨?_, ?_⟩
  · exact (Pk (Pk (Pk (Pk (Pk (Pk (Pk (Pk (Pk (Pk (Pk (Pk (Pk (Pk (Pk (Pk (Pk (Pk Ar))))))))))))))))))
  refine A1 (by kernel_rfl) ?_
  refine Be rfl .n ?_
  intro w1 hS
  have hS := (hS.perm (Av.perm (.c .h .n))).Az
  exact ⟨_, ⟨rfl, by rw [show X.measure = _ from A9 c1]; rfl⟩, hS⟩
 refine Aa ?_
 refine Be rfl .n ?_
 intro w1 hS
 have hS := (hS.perm (Av.perm (.c .h .n))).Az
 exact ⟨_, ⟨rfl, by rw [show X.measure = _ from AU c1]⟩, hS⟩
theorem LF (X : AN) (u : Aq) (hu : u.length ≤ 140737488351232) (w : World) : EL Tryz.prog 29 #[.agg X.enc.toArray, BQ u] w fun v w' => v = .tuple #[.agg (X.DK u).1.enc.toArray, BQ (X.DK u).2.1, BQ (X.DK u).2.2.1, .int .i64 (X.DK u).2.2.2] ∧ B4 w w' := by
 refine Am [] [] Tryz.func29 rfl rfl rfl (St.start w []) ?_
 refine Gs ?_
 refine B3 rfl rfl rfl (fun b1 => ?_)
 refine BF rfl YK rfl (fun b2 => ?_)
 refine Ga rfl (Ga rfl (Ga rfl (Gn (.t3 1 2 4) (B7 (Gt (AZ rfl Dk .m1 (AS.id AN.fl.len AN.fl.one) rfl) ?_)))))
 refine A7 rfl Ya (.c rfl .n) (fun w hS => FV _ w) ?_
 refine Gt (BS rfl) (Gn (.t4 1 2 4 15) ?_)
 refine Gc (fun c1 => ?_) (fun c1 => ?_)
 ·
  refine Gs (Gt (AZ rfl Dk .m1 (AS.id AN.fl.len AN.fl.one) rfl) ?_)
  refine AR (AJ (AS.id AN.fl.len AN.fl.one) rfl rfl rfl Jd rfl .h) ?_
  refine Ga rfl (Ga rfl (Ga rfl (Gn (.t4 4 5 6 7) (Ab (AD ?_)))))
  refine AY rfl (.cell rfl .m0 (.inl ⟨(by rw [AN.fl.len]; exact Dk), rfl⟩) (.tmp rfl (.tmp rfl (.tmp rfl .n)))) ?_
  intro w1 hS; refine ⟨?_, hS.Aj⟩; rw [show X.DK u = _ from A9 c1]; rfl
 have c1p := kz c1
 have hg : X.Bq = true := by simpa using c1
 refine Aa ?_
 refine AB (.t3 1 2 4) ?_
 refine AA (Gs ?_)
 refine BF rfl Sq rfl (fun b3 => ?_)
 refine C9 C8 5 1 ?_
 refine BF rfl Sq rfl (fun b4 => ?_)
 refine C9 C8 5 1 ?_
 refine AO (AA (B7 (Gm rfl ?_)))
 refine Ng rfl Tryz.underlying9 Tryz.underlying105 Tryz.underlying5 rfl (fun h1 h1l => ?_)
 refine Gt (Ao rfl Tryz.underlying105 rfl) (Gm rfl (Gn (.t7 2 4 8 9 18 19 20) (Ae ?_)))
 refine Bl (.t7 20 2 4 8 9 18 19) ?_
 refine BZ (.t (.t (.t (.t (.t (.t .h)))))) ?_
 refine BZ (.t (.t (.t (.t (.t .h))))) ?_
 refine BZ (.t (.t (.t (.t (.t .h))))) ?_
 refine BZ (.t (.t (.t (.t (.t .h))))) ?_
 refine BZ (.t (.t (.t (.t (.t .h))))) ?_
 refine Qw (fun (k : Int) (t : AN) (x : Aq) (y : Aq) (p : Option Addr) (h : Hd) (q : Option Addr) (g : Hd) => AN.Ip X u k t x y ∧ (p = none ∨ p = some ⟨b3, 0, none⟩) ∧ h.Z ∧ h.len = x.length ∧ (q = none ∨ q = some ⟨b4, 0, none⟩) ∧ g.Z ∧ g.len = y.length) (fun (k : Int) (t : AN) (x : Aq) (y : Aq) (p : Option Addr) (h : Hd) (q : Option Addr) (g : Hd) => ((u.length : Int) - k).toNat) (fun (k : Int) (t : AN) (x : Aq) (y : Aq) (p : Option Addr) (h : Hd) (q : Option Addr) (g : Hd) => [(20, .int .i64 k)]) (fun (k : Int) (t : AN) (x : Aq) (y : Aq) (p : Option Addr) (h : Hd) (q : Option Addr) (g : Hd) => [Ad.own g 5 1 (y.flatMap C8), Ad.box b4 107 (DC.enc ⟨q, g⟩), Ad.own h 5 1 (x.flatMap C8), Ad.box b3 107 (DC.enc ⟨p, h⟩), Ad.box b1 69 (AN.enc t)]) (0) (X) ([]) ([]) (none) (⟨none, 0, 0⟩) (none) (⟨none, 0, 0⟩) ?_ rfl rfl (fun k t x y p h q g hI1 => ?_)
 · exact ⟨AN.Ip.start (AN.Uk hg), .inl rfl, Hd.S2, rfl, .inl rfl, Hd.S2, rfl⟩
 obtain ⟨hI11, hp, hz, hl, hq, hzg, hlg⟩ := hI1; have hk0 := hI11.k0; have hk1 := hI11.k1; have hsub := hI11.sub; have hxl := hI11.xl; have hyl := hI11.yl; have hc8 := (u.getD k.toNat 0).toNat_lt; have hyb := hI11.yb
 refine Gs (Gt (A6 rfl rfl) (AO (AA (Ap ?_))))
 refine Gc (fun c2 => ?_) (fun c2 => ?_)
 ·
  have c2p := kz c2
  refine Aa ?_
  refine AB (.t7 2 4 8 9 18 19 20) ?_
  refine AA (Ap (Ae (Gs ?_)))
  refine Gt (Bm V9 (by decide) (Kn.own .m5) rfl rfl (by omega) (by omega)) ?_
  refine Gt (VJ rfl Zb (Kn.own .m5) (by omega)) ?_
  refine Ga rfl (Gn (.t8 2 4 8 9 11 18 19 20) (Gs (Gm rfl (Gt (R5 Tryz.underlying3 Tryz.underlying5 rfl) (Ga rfl (Gn (.t9 2 4 8 9 11 12 18 19 20) (Gs ?_)))))))
  refine Gt (Ai FG rfl) (Gt (AG rfl A2 .m4 AN.l0 rfl rfl) (Gn (.t10 2 4 8 9 11 12 18 19 20 27) (Ae (Gs (Gt (Af rfl rfl) (Ga rfl (Gn (.t11 2 4 8 9 11 12 18 19 20 27 28) ?_)))))))
  refine Gc (fun c3 => ?_) (fun c3 => ?_)
  ·
   have c3p := kz c3
   refine Gs (Gm rfl (Gt (Af rfl rfl) (Gn (.t9 2 4 8 9 11 18 19 20 31) ?_)))
   refine Gc (fun c4 => ?_) (fun c4 => ?_)
   ·
    have c4p := kz c4
    refine AI (Gt (Ai FG rfl) ?_)
    refine AR (AJ AN.l0 rfl rfl rfl Cy rfl (.t (.t (.t (.t .h))))) ?_
    refine AO (AB (.t7 2 4 8 9 18 19 20) ?_)
    refine AT (AT (AA (AI ?_)))
    refine Gt (As rfl rfl (IntWalk.i64_in _ (by omega))) ?_
    refine Gm rfl ?_
    refine AO (AB (.t7 2 4 8 9 18 19 20) ?_)
    refine CJ _ _ _ _ _ _ _ _ ?_ ?_ (.t7 20 2 4 8 9 18 19) (.refl _)
    · exact ⟨hI11.next (by omega) (by simp only [AN.step, c1, c2, c3, c4, ↓reduceIte, Bool.false_eq_true]) (by simp only [AN.step, c1, c2, c3, c4, List.append_nil, ↓reduceIte, Bool.false_eq_true]) (by simp only [AN.step, c1, c2, c3, c4, List.append_nil, ↓reduceIte, Bool.false_eq_true]), by assumption, by assumption, by assumption, by assumption, by assumption, by assumption⟩
    · omega
   have c4p := kz c4
   refine AI (Gm rfl ?_)
   refine Ah rfl Wg (.c rfl (.c rfl .n)) (.c (.t (.t (.t .h))) (.c (.t (.t .h)) .n)) (CU _ _ _ _ (by assumption) (by assumption) (by assumption) _ (by omega)) (fun v2 B hv => ?_)
   obtain ⟨y3, y4, rfl, y5, y6, y7, rfl⟩ := hv
   refine AO (AB (.t7 2 4 8 9 18 19 20) ?_)
   refine AT (AT (AA (AI ?_)))
   refine Gt (As rfl rfl (IntWalk.i64_in _ (by omega))) ?_
   refine Gm rfl ?_
   refine AO (AB (.t7 2 4 8 9 18 19 20) ?_)
   refine CP (.c (.t (.t .h)) (.c (.t (.t .h)) (.c (.t .h) (.c .h (.c .h (.c .h (.c .h .n))))))) ?_
   refine CZ ?_
   refine CJ _ _ _ _ _ _ _ _ ?_ ?_ (.t7 20 2 4 8 9 18 19) (.refl _)
   · exact ⟨hI11.next (by omega) (by simp only [AN.step, c1, c2, c3, c4, ↓reduceIte, Bool.false_eq_true]) (by simp only [AN.step, c1, c2, c3, c4, List.append_nil, ↓reduceIte, Bool.false_eq_true]) (by simp only [AN.step, c1, c2, c3, c4, List.append_nil, ↓reduceIte, Bool.false_eq_true]), by assumption, by assumption, by assumption, by assumption, by assumption, by assumption⟩
   · omega
  have c3p := kz c3
  refine Gs (Gt (Af rfl rfl) (Ga rfl (Gn (.t11 2 4 8 9 11 12 18 19 20 27 35) ?_)))
  refine Gc (fun c5 => ?_) (fun c5 => ?_)
  ·
   have c5p := kz c5
   refine Gs (Gt (Ai FG rfl) ?_)
   refine AR (AJ AN.l0 rfl rfl rfl Cy rfl (.t (.t (.t (.t .h))))) ?_
   refine Gn (.t9 2 4 8 9 11 12 18 19 20) (Ae (Gs (Gm rfl (Gt (Af rfl rfl) (Ga rfl (Gn (.t10 2 4 8 9 11 12 18 19 20 38) ?_))))))
   refine Gc (fun c6 => ?_) (fun c6 => ?_)
   ·
    have c6p := kz c6
    refine AI (Gm rfl ?_)
    refine Ah rfl Wg (.c rfl (.c rfl .n)) (.c (.t (.t (.t .h))) (.c (.t (.t .h)) .n)) (CU _ _ _ _ (by assumption) (by assumption) (by assumption) _ (by omega)) (fun v8 B hv => ?_)
    obtain ⟨y9, y10, rfl, y11, y12, y13, rfl⟩ := hv
    refine AO (AB (.t7 2 4 8 9 18 19 20) ?_)
    refine AT (AT (AT (AA (AI ?_))))
    refine Gt (As rfl rfl (IntWalk.i64_in _ (by omega))) ?_
    refine Gm rfl ?_
    refine AO (AB (.t7 2 4 8 9 18 19 20) ?_)
    refine CP (.c (.t (.t .h)) (.c (.t (.t .h)) (.c (.t .h) (.c .h (.c .h (.c .h (.c .h .n))))))) ?_
    refine CZ ?_
    refine CJ _ _ _ _ _ _ _ _ ?_ ?_ (.t7 20 2 4 8 9 18 19) (.refl _)
    · exact ⟨hI11.next (by omega) (by simp only [AN.step, c1, c2, c3, c5, c6, ↓reduceIte, Bool.false_eq_true]) (by simp only [AN.step, c1, c2, c3, c5, c6, List.append_nil, ↓reduceIte, Bool.false_eq_true]) (by simp only [AN.step, c1, c2, c3, c5, c6, List.append_nil, ↓reduceIte, Bool.false_eq_true]), by assumption, by assumption, by assumption, by assumption, by assumption, by assumption⟩
    · omega
   have c6p := kz c6
   refine Gs (Gm rfl (Gt (Af rfl rfl) (Ga rfl (Gn (.t9 2 4 8 9 12 18 19 20 43) ?_))))
   refine Gc (fun c7 => ?_) (fun c7 => ?_)
   ·
    have c7p := kz c7
    refine AI (Gt (Ai FG rfl) ?_)
    refine AR (AJ AN.l0 rfl rfl rfl Cy rfl (.t (.t (.t (.t .h))))) ?_
    refine AO (AB (.t7 2 4 8 9 18 19 20) ?_)
    refine AT (AT (AT (AA (AI ?_))))
    refine Gt (As rfl rfl (IntWalk.i64_in _ (by omega))) ?_
    refine Gm rfl ?_
    refine AO (AB (.t7 2 4 8 9 18 19 20) ?_)
    refine CJ _ _ _ _ _ _ _ _ ?_ ?_ (.t7 20 2 4 8 9 18 19) (.refl _)
    · exact ⟨hI11.next (by omega) (by simp only [AN.step, c1, c2, c3, c5, c6, c7, ↓reduceIte, Bool.false_eq_true]) (by simp only [AN.step, c1, c2, c3, c5, c6, c7, List.append_nil, ↓reduceIte, Bool.false_eq_true]) (by simp only [AN.step, c1, c2, c3, c5, c6, c7, List.append_nil, ↓reduceIte, Bool.false_eq_true]), by assumption, by assumption, by assumption, by assumption, by assumption, by assumption⟩
    · omega
   have c7p := kz c7
   refine Gs (Gm rfl (Gt (CL rfl rfl) (Ga rfl (Gn (.t9 2 4 8 9 12 18 19 20 47) ?_))))
   refine Gc (fun c8 => ?_) (fun c8 => ?_)
   ·
    have c8p := kz c8
    refine AI (Gm rfl (Gt (Ai FG rfl) ?_))
    refine AR (AJ AN.l0 rfl rfl rfl Cy rfl (.t (.t (.t (.t .h))))) ?_
    refine Gt (Ai Jr rfl) ?_
    refine AR (AJ AN.l1 rfl rfl rfl Cy rfl (.t (.t (.t (.t .h))))) ?_
    refine AO (AB (.t7 2 4 8 9 18 19 20) ?_)
    refine AT (AT (AT (AA (AI ?_))))
    refine Gt (As rfl rfl (IntWalk.i64_in _ (by omega))) ?_
    refine Gm rfl ?_
    refine AO (AB (.t7 2 4 8 9 18 19 20) ?_)
    refine CJ _ _ _ _ _ _ _ _ ?_ ?_ (.t7 20 2 4 8 9 18 19) (.refl _)
    · exact ⟨hI11.next (by omega) (by simp only [AN.step, c1, c2, c3, c5, c6, c7, c8, ↓reduceIte, Bool.false_eq_true]) (by simp only [AN.step, c1, c2, c3, c5, c6, c7, c8, List.append_nil, ↓reduceIte, Bool.false_eq_true]) (by simp only [AN.step, c1, c2, c3, c5, c6, c7, c8, List.append_nil, ↓reduceIte, Bool.false_eq_true]), by assumption, by assumption, by assumption, by assumption, by assumption, by assumption⟩
    · omega
   have c8p := kz c8
   refine Aa ?_
   refine AB (.t7 2 4 8 9 18 19 20) ?_
   refine AT (AT (AT (AA (AI ?_))))
   refine Gt (As rfl rfl (IntWalk.i64_in _ (by omega))) ?_
   refine Gm rfl ?_
   refine AO (AB (.t7 2 4 8 9 18 19 20) ?_)
   refine CJ _ _ _ _ _ _ _ _ ?_ ?_ (.t7 20 2 4 8 9 18 19) (.refl _)
   · exact ⟨hI11.next (by omega) (by simp only [AN.step, c1, c2, c3, c5, c6, c7, c8, ↓reduceIte, Bool.false_eq_true]) (by simp only [AN.step, c1, c2, c3, c5, c6, c7, c8, List.append_nil, ↓reduceIte, Bool.false_eq_true]) (by simp only [AN.step, c1, c2, c3, c5, c6, c7, c8, List.append_nil, ↓reduceIte, Bool.false_eq_true]), by assumption, by assumption, by assumption, by assumption, by assumption, by assumption⟩
   · omega
  have c5p := kz c5
  refine Gs (Gt (Af rfl rfl) (Ga rfl (Gn (.t11 2 4 8 9 11 12 18 19 20 27 53) ?_)))
  refine Gc (fun c9 => ?_) (fun c9 => ?_)
  ·
   have c9p := kz c9
   refine Gs (Gt (Ai Jr rfl) (Gt (AG rfl A2 .m4 AN.l1 rfl rfl) (Gm rfl ?_)))
   refine Ah rfl aJ (.c rfl (.c rfl (.c rfl .n))) (.c (.t (.t (.t (.t .h)))) .n) (Ib _ _ _ _ (by first | assumption | omega)) (fun v14 B hv => ?_)
   obtain ⟨rfl, rfl⟩ := hv
   refine Ah rfl N5 (.c rfl (.c rfl .n)) (.c (.t (.t .h)) (.c (.t .h) .n)) (BH _ _ _ _ (by assumption) (by assumption) (by assumption) _ (by have := AN.HW t t.verb ((u.getD k.toNat 0).toNat : Int); omega)) (fun v15 B hv => ?_)
   obtain ⟨y16, y17, rfl, y18, y19, y20, rfl⟩ := hv
   refine Gn (.t7 2 4 8 9 18 19 20) (AI (Gt (Ai FG rfl) ?_))
   refine AR (AJ AN.l0 rfl rfl rfl Cy rfl (.t (.t .h))) ?_
   refine Gt (Ai Jr rfl) ?_
   refine AR (AJ AN.l1 rfl rfl rfl Cy rfl (.t (.t .h))) ?_
   refine AO (AB (.t7 2 4 8 9 18 19 20) ?_)
   refine AT (AT (AA (AI ?_)))
   refine Gt (As rfl rfl (IntWalk.i64_in _ (by omega))) ?_
   refine Gm rfl ?_
   refine AO (AB (.t7 2 4 8 9 18 19 20) ?_)
   refine CP (.c (.t .h) (.c .h (.c (.t .h) (.c (.t .h) (.c .h (.c .h (.c .h .n))))))) ?_
   refine CZ ?_
   refine CJ _ _ _ _ _ _ _ _ ?_ ?_ (.t7 20 2 4 8 9 18 19) (.refl _)
   · exact ⟨hI11.next (by omega) (by simp only [AN.step, c1, c2, c3, c5, c9, ↓reduceIte, Bool.false_eq_true]) (by simp only [AN.step, c1, c2, c3, c5, c9, List.append_nil, ↓reduceIte, Bool.false_eq_true]) (by simp only [AN.step, c1, c2, c3, c5, c9, List.append_nil, ↓reduceIte, Bool.false_eq_true]), by assumption, by assumption, by assumption, by assumption, by assumption, by assumption⟩
   · omega
  have c9p := kz c9
  refine Gs (Gt (Af rfl rfl) (Ga rfl (Gn (.t11 2 4 8 9 11 12 18 19 20 27 62) ?_)))
  refine Gc (fun c10 => ?_) (fun c10 => ?_)
  ·
   have c10p := kz c10
   refine Gs (Gm rfl (Gt (Af rfl rfl) (Gn (.t9 2 4 8 9 11 18 19 20 65) ?_)))
   refine Gc (fun c11 => ?_) (fun c11 => ?_)
   ·
    have c11p := kz c11
    refine AI (Gt (Ai FG rfl) ?_)
    refine AR (AJ AN.l0 rfl rfl rfl Cy rfl (.t (.t (.t (.t .h))))) ?_
    refine AO (AB (.t7 2 4 8 9 18 19 20) ?_)
    refine AT (AT (AA (AI ?_)))
    refine Gt (As rfl rfl (IntWalk.i64_in _ (by omega))) ?_
    refine Gm rfl ?_
    refine AO (AB (.t7 2 4 8 9 18 19 20) ?_)
    refine CJ _ _ _ _ _ _ _ _ ?_ ?_ (.t7 20 2 4 8 9 18 19) (.refl _)
    · exact ⟨hI11.next (by omega) (by simp only [AN.step, c1, c2, c3, c5, c9, c10, c11, ↓reduceIte, Bool.false_eq_true]) (by simp only [AN.step, c1, c2, c3, c5, c9, c10, c11, List.append_nil, ↓reduceIte, Bool.false_eq_true]) (by simp only [AN.step, c1, c2, c3, c5, c9, c10, c11, List.append_nil, ↓reduceIte, Bool.false_eq_true]), by assumption, by assumption, by assumption, by assumption, by assumption, by assumption⟩
    · omega
   have c11p := kz c11
   refine AI (Gm rfl ?_)
   refine Ah rfl ZF (.c rfl (.c rfl .n)) (.c (.t (.t (.t (.t .h)))) .n) (GM _ _ _ (by first | assumption | omega)) (fun v21 B hv => ?_)
   obtain ⟨rfl, rfl⟩ := hv
   refine AO (AB (.t7 2 4 8 9 18 19 20) ?_)
   refine AT (AT (AA (AI ?_)))
   refine Gt (As rfl rfl (IntWalk.i64_in _ (by omega))) ?_
   refine Gm rfl ?_
   refine AO (AB (.t7 2 4 8 9 18 19 20) ?_)
   refine CP (.c (.t .h) (.c (.t .h) (.c (.t .h) (.c (.t .h) (.c .h (.c .h (.c .h .n))))))) ?_
   refine CZ ?_
   refine CJ _ _ _ _ _ _ _ _ ?_ ?_ (.t7 20 2 4 8 9 18 19) (.refl _)
   · exact ⟨hI11.next (by omega) (by simp only [AN.step, c1, c2, c3, c5, c9, c10, c11, ↓reduceIte, Bool.false_eq_true]) (by simp only [AN.step, c1, c2, c3, c5, c9, c10, c11, List.append_nil, ↓reduceIte, Bool.false_eq_true]) (by simp only [AN.step, c1, c2, c3, c5, c9, c10, c11, List.append_nil, ↓reduceIte, Bool.false_eq_true]), by assumption, by assumption, by assumption, by assumption, by assumption, by assumption⟩
   · omega
  have c10p := kz c10
  refine Gs (Gt (Af rfl rfl) (Ga rfl (Gn (.t10 2 4 8 9 11 12 18 19 20 69) ?_)))
  refine Gc (fun c12 => ?_) (fun c12 => ?_)
  ·
   have c12p := kz c12
   refine Gs (Gm rfl (Gn (.t10 2 4 8 9 11 12 18 19 20 71) (Ae (Gs (Gt (Af rfl rfl) (Ga rfl (Gn (.t10 2 4 8 9 11 12 18 19 20 77) ?_)))))))
   refine Gc (fun c13 => ?_) (fun c13 => ?_)
   ·
    have c13p := kz c13
    refine Gs (Gt (Ai FG rfl) ?_)
    refine AR (AJ AN.l0 rfl rfl rfl Cy rfl (.t (.t (.t (.t .h))))) ?_
    refine Gn (.t8 2 4 8 9 11 18 19 20) (AI (Gm rfl ?_))
    refine Ah rfl ZF (.c rfl (.c rfl .n)) (.c (.t (.t (.t (.t .h)))) .n) (GM _ _ _ (by first | assumption | omega)) (fun v22 B hv => ?_)
    obtain ⟨rfl, rfl⟩ := hv
    refine AO (AB (.t7 2 4 8 9 18 19 20) ?_)
    refine AT (AT (AT (AA (AI ?_))))
    refine Gt (As rfl rfl (IntWalk.i64_in _ (by omega))) ?_
    refine Gm rfl ?_
    refine AO (AB (.t7 2 4 8 9 18 19 20) ?_)
    refine CP (.c (.t .h) (.c (.t .h) (.c (.t .h) (.c (.t .h) (.c .h (.c .h (.c .h .n))))))) ?_
    refine CZ ?_
    refine CJ _ _ _ _ _ _ _ _ ?_ ?_ (.t7 20 2 4 8 9 18 19) (.refl _)
    · exact ⟨hI11.next (by omega) (by simp only [AN.step, c1, c2, c3, c5, c9, c10, c12, c13, ↓reduceIte, Bool.false_eq_true]) (by simp only [AN.step, c1, c2, c3, c5, c9, c10, c12, c13, List.append_nil, ↓reduceIte, Bool.false_eq_true]) (by simp only [AN.step, c1, c2, c3, c5, c9, c10, c12, c13, List.append_nil, ↓reduceIte, Bool.false_eq_true]), by assumption, by assumption, by assumption, by assumption, by assumption, by assumption⟩
    · omega
   have c13p := kz c13
   refine B7 (Gm rfl (Gt (Af rfl rfl) (Gn (.t8 2 4 8 9 18 19 20 73) ?_)))
   refine Gc (fun c14 => ?_) (fun c14 => ?_)
   ·
    have c14p := kz c14
    refine AI ?_
    refine Ah rfl aq (.c rfl .n) (.c (.t (.t (.t (.t .h)))) .n) (Jc _ _) (fun v23 B hv => ?_)
    obtain ⟨rfl, rfl⟩ := hv
    refine Gn (.t7 2 4 8 9 18 19 20) (AI (Gt (Ai FG rfl) ?_))
    refine AR (AJ AN.l0 rfl rfl rfl Cy rfl .h) ?_
    refine Gt (Ai GH rfl) ?_
    refine AR (AJ AN.l2 rfl rfl rfl Ei rfl .h) ?_
    refine AO (AB (.t7 2 4 8 9 18 19 20) ?_)
    refine AT (AT (AT (AA (AI ?_))))
    refine Gt (As rfl rfl (IntWalk.i64_in _ (by omega))) ?_
    refine Gm rfl ?_
    refine AO (AB (.t7 2 4 8 9 18 19 20) ?_)
    refine CP (.c (.t .h) (.c (.t .h) (.c (.t .h) (.c (.t .h) (.c .h (.c .h (.c .h .n))))))) ?_
    refine CZ ?_
    refine CJ _ _ _ _ _ _ _ _ ?_ ?_ (.t7 20 2 4 8 9 18 19) (.refl _)
    · exact ⟨hI11.next (by omega) (by simp only [AN.step, c1, c2, c3, c5, c9, c10, c12, c13, c14, ↓reduceIte, Bool.false_eq_true]) (by simp only [AN.step, c1, c2, c3, c5, c9, c10, c12, c13, c14, List.append_nil, ↓reduceIte, Bool.false_eq_true]) (by simp only [AN.step, c1, c2, c3, c5, c9, c10, c12, c13, c14, List.append_nil, ↓reduceIte, Bool.false_eq_true]), by assumption, by assumption, by assumption, by assumption, by assumption, by assumption⟩
    · omega
   have c14p := kz c14
   refine Aa ?_
   refine AB (.t7 2 4 8 9 18 19 20) ?_
   refine AA (AI (Gt (Ai FG rfl) ?_))
   refine AR (AJ AN.l0 rfl rfl rfl Cy rfl (.t (.t (.t (.t .h))))) ?_
   refine Gt (Ai GH rfl) ?_
   refine AR (AJ AN.l2 rfl rfl rfl Ei rfl (.t (.t (.t (.t .h))))) ?_
   refine AO (AB (.t7 2 4 8 9 18 19 20) ?_)
   refine AT (AT (AT (AA (AI ?_))))
   refine Gt (As rfl rfl (IntWalk.i64_in _ (by omega))) ?_
   refine Gm rfl ?_
   refine AO (AB (.t7 2 4 8 9 18 19 20) ?_)
   refine CJ _ _ _ _ _ _ _ _ ?_ ?_ (.t7 20 2 4 8 9 18 19) (.refl _)
   · exact ⟨hI11.next (by omega) (by simp only [AN.step, c1, c2, c3, c5, c9, c10, c12, c13, c14, ↓reduceIte, Bool.false_eq_true]) (by simp only [AN.step, c1, c2, c3, c5, c9, c10, c12, c13, c14, List.append_nil, ↓reduceIte, Bool.false_eq_true]) (by simp only [AN.step, c1, c2, c3, c5, c9, c10, c12, c13, c14, List.append_nil, ↓reduceIte, Bool.false_eq_true]), by assumption, by assumption, by assumption, by assumption, by assumption, by assumption⟩
   · omega
  have c12p := kz c12
  refine Aa ?_
  refine AB (.t7 2 4 8 9 18 19 20) ?_
  refine AT (AT (AA (AI ?_)))
  refine Gt (As rfl rfl (IntWalk.i64_in _ (by omega))) ?_
  refine Gm rfl ?_
  refine AO (AB (.t7 2 4 8 9 18 19 20) ?_)
  refine CJ _ _ _ _ _ _ _ _ ?_ ?_ (.t7 20 2 4 8 9 18 19) (.refl _)
  · exact ⟨hI11.next (by omega) (by simp only [AN.step, c1, c2, c3, c5, c9, c10, c12, ↓reduceIte, Bool.false_eq_true]) (by simp only [AN.step, c1, c2, c3, c5, c9, c10, c12, List.append_nil, ↓reduceIte, Bool.false_eq_true]) (by simp only [AN.step, c1, c2, c3, c5, c9, c10, c12, List.append_nil, ↓reduceIte, Bool.false_eq_true]), by assumption, by assumption, by assumption, by assumption, by assumption, by assumption⟩
  · omega
 have c2p := kz c2
 refine BX (AW (AW (Ag ?_)))
 refine AB (.t4 2 4 8 9) ?_
 refine AA (Ap ?_)
 refine BD (N := 7) [0, 0, 2, 7, 15, 31, 63] mix (by kernel_rfl) rfl ?_
 refine Pf 0 rfl (AZ rfl Dk .m4 (AS.id AN.fl.len AN.fl.one) rfl) ?_
 refine An 1 rfl (by kernel_rfl) ?_
 refine Ah rfl Wc (.c rfl .n) (.c (.t (.t (.t .h))) (.c (.t (.t .h)) .n)) (Ch _ _ _ _ (by assumption) (by assumption) (by omega)) (fun v24 B hv => ?_)
 obtain ⟨rfl, rfl⟩ := hv
 refine Bo rfl ⟨?_, ?_⟩
 · exact (Po rfl (AZ rfl Dk .m3 (AS.id AN.fl.len AN.fl.one) rfl) rfl rfl Ar)
 refine An 2 rfl (by kernel_rfl) ?_
 refine Ah rfl Wc (.c rfl .n) (.c (.t (.t .h)) (.c (.t .h) .n)) (Ch _ _ _ _ (by assumption) (by assumption) (by omega)) (fun v25 B hv => ?_)
 obtain ⟨rfl, rfl⟩ := hv
 refine Bo rfl ⟨?_, ?_⟩
 · exact (Po rfl (AZ rfl Dk .m2 (AS.id AN.fl.len AN.fl.one) rfl) rfl rfl Ar)
 refine An 3 rfl (by kernel_rfl) ?_
 refine AR (AJ (AS.id AN.fl.len AN.fl.one) rfl rfl rfl Jd rfl (.t (.t (.t (.t .h))))) ?_
 refine BK rfl ⟨?_, ?_⟩
 · exact (Pk Ar)
 refine Pf 4 rfl (Ay rfl) (Pf 5 rfl (Ay rfl) (Pf 6 rfl (Ay rfl) ?_))
 refine A1 (by kernel_rfl) ?_
 refine AB (.t4 4 5 6 7) ?_
 refine AA (Ab ?_)
 refine AY rfl (.cell rfl .m4 (.inl ⟨(by rw [AN.fl.len]; exact Dk), rfl⟩) (.tmp rfl (.tmp rfl (.tmp rfl .n)))) ?_
 intro w1 hS; refine ⟨?_, hS.Aj⟩; rw [show X.DK u = _ from AU c1, hI11.done (by omega)]; rfl
theorem GI (b : UInt8) (w : World) : EL Tryz.prog 70 #[.int .u8 (b.toNat : Int)] w fun v w' => v = .bool (Bb.FJ b) ∧ B4 w w' := by
 refine Am [] [] Tryz.func70 rfl rfl rfl (St.start w []) ?_
 refine Gs (Ga rfl (Gn (.t1 0) (Gs (Gm rfl (Gt (CL rfl rfl) (Gm rfl (Bh 5 rfl rfl (fun q => AE rfl) ?_)))))))
 refine Bh 5 rfl rfl (fun q => A6 (Bc rfl q) rfl) (Gt (BI rfl rfl (fun h => h)) (Ga rfl (Gn (.t1 2) (Ab ?_))))
 refine AY rfl (.tmp rfl .n) ?_
 intro w1 hS; refine ⟨?_, hS.Aj⟩; rfl
end Go.Proofs.YtoidpggbbfncpaaGreatDoor
