/- What the functions that the law TopTurns reaches compute: walks, part 5. No condition. -/
import Derived.Test.YtoidpggbbfncpaaGreatDoorCards
import Derived.Test.YtoidpggbbfncpaaGreatDoorTie
import Derived.Deep.DeepHandedRow
import Derived.Test.YtoidpggbbfncpaaGreatDoorRows
import Derived.Test.YtoidpggbbfncpaaGreatDoorTopTurnsEc3
import Derived.Test.YtoidpggbbfncpaaGreatDoorTopTurnsRa1
import Derived.Test.YtoidpggbbfncpaaGreatDoorTopTurnsRb1
import Derived.Test.YtoidpggbbfncpaaGreatDoorTopTurnsRc1
import Derived.Test.YtoidpggbbfncpaaGreatDoorTopTurnsWalks
import Derived.Test.YtoidpggbbfncpaaGreatDoorTopTurnsWalks2
import Derived.Test.YtoidpggbbfncpaaGreatDoorTopTurnsWalks3
import Derived.Test.YtoidpggbbfncpaaGreatDoorTopTurnsWalks4
set_option linter.unusedSimpArgs false
set_option linter.unusedVariables false
set_option maxRecDepth 100000
set_option maxHeartbeats 1000000
namespace Go.Proofs.YtoidpggbbfncpaaGreatDoor
open Go Go.Ing Go.RowKit Go.ChangeShapes Go.WideShapes Go.ChangeAt
theorem L4 (X : AH) (d : Int) (hw : X.DE) : FL Tryz.prog 78 #[.agg X.enc.toArray, .int .i64 d] [] (fun w => (GV 0 AH.DG w ∧ 0 ∉ Cd [])) (fun v B => ∃ h : Hd, v = .tuple #[.agg ((AF.CU X d).1.enc).toArray, h.val, .int .i64 (AF.CU X d).2.2] ∧ h.len = (AF.CU X d).2.1.length ∧ B = [Ac.own h 56 16 ((AF.CU X d).2.1.flatMap Ing.Event.enc)]) := by
 intro w hS0 hH
 obtain ⟨gl0, gm0⟩ := hH
 have hm := Cp d
 refine Al _ _ Tryz.func78 rfl rfl rfl (hS0) ?_
 refine Gs ?_
 refine B4 rfl rfl rfl (fun b1 => ?_)
 refine BH rfl M9 rfl (fun b2 => ?_)
 refine Ga rfl (Ga rfl (Gn (.t3 1 2 4) (CG (Gt (AZ rfl BW .m1 (AU.id AH.fl.len AH.fl.one) rfl) ?_))))
 refine BA rfl Z4 (.c rfl .n) (fun w hS => HS _ w) ?_
 refine Gt (BV rfl) (Gn (.t4 1 2 4 16) ?_)
 refine Gc (fun c1 => ?_) (fun c1 => ?_)
 ·
  refine Gs (Gt (AZ rfl BW .m1 (AU.id AH.fl.len AH.fl.one) rfl) ?_)
  refine AT (AK (AU.id AH.fl.len AH.fl.one) rfl rfl rfl D6 rfl .h) ?_
  refine Ga rfl (Ga rfl (Gn (.t3 4 5 6) (Ab (AD ?_))))
  refine AY rfl (.cell rfl .m0 (.inl ⟨(by rw [AH.fl.len]; exact BW), rfl⟩) (.tmp rfl (.tmp rfl .n))) ?_
  intro w1 hS
  have hS := hS.Ck 56 16
  have hS := (hS.perm (Ax.perm (.c .h .n))).A1
  have hq : AF.CU X d = _ := BB c1
  refine ⟨_, ⟨⟨none, 0, 0⟩, ?hv, ?hl, ?hB⟩, hS⟩
  case hv => rw [hq]; rfl
  case hl => rw [hq]; rfl
  case hB => rw [hq]; rfl
 have c1p := kz c1
 refine Aa ?_
 refine AB (.t3 1 2 4) ?_
 refine AA (Gs (Ga rfl (AQ (AA (CG (Gm rfl (AQ ?_)))))))
 refine AA (Af ?_)
 refine Bo (.t5 7 18 1 2 4) ?_
 refine E7 Ing.Event.enc 56 16 ?_
 refine Be (.t (.t .h)) ?_
 refine Be (.t .h) ?_
 refine Dt (fun (k : Int) (s : AH × List Ing.Event) (h : Hd) => 0 ≤ k ∧ k ≤ 6 ∧ s = AF.DT X d k.toNat ∧ s.1.Bg = true ∧ s.1.DE ∧ (s.2.length : Int) ≤ 13 * k ∧ h.len = s.2.length) (fun (k : Int) (s : AH × List Ing.Event) (h : Hd) => (6 - k).toNat) (fun (k : Int) (s : AH × List Ing.Event) (h : Hd) => [(7, h.val), (18, .int .i64 k)]) (fun (k : Int) (s : AH × List Ing.Event) (h : Hd) => [Ac.own h 56 16 (s.2.flatMap Ing.Event.enc), Ac.box b1 35 (AH.enc s.1)]) (0) ((X, [])) (_) ?_ rfl rfl (fun k s h hI1 => ?_)
 · exact ⟨by omega, by omega, rfl, by simpa using c1, hw, by simp, rfl⟩
 obtain ⟨hI11, hI12, hI13, hI14, hI15, hI16, hI17⟩ := hI1
 refine Gs (Gt (A8 rfl rfl) (AQ (AA (Ao ?_))))
 refine Gc (fun c2 => ?_) (fun c2 => ?_)
 ·
  have c2p := kz c2
  have hbe := AF.G6 hI14 hI11 (show k < 6 by omega)
  have hfo := hbe.B0
  refine Aa ?_
  refine AB (.t5 1 2 4 7 18) ?_
  refine AA (Ao (Af (Gs (Gm rfl (Ga rfl (Gn (.t6 1 2 4 7 8 18) (Gs ?_)))))))
  refine Gm rfl (Gt (Ah Bn rfl) ?_)
  refine Gt (AR C6 rfl rfl (by first | omega | (dsimp only; omega) | (have := Cp (d.tmod 3 + 3 + k); omega)) (by first | omega | (dsimp only; omega) | (have := Cp (d.tmod 3 + 3 + k); omega))) ?_
  refine Gt (AZ rfl Fj .m1 (AH.l2.comp (AU.arr (n := 6) Aj.fl (by first | omega | (dsimp only; omega) | (have := Cp (d.tmod 3 + 3 + k); omega)) (by first | omega | (dsimp only; omega) | (have := Cp (d.tmod 3 + 3 + k); omega)))) rfl) ?_
  refine BH rfl Lw rfl (fun b3 => ?_)
  refine AT (AK (AU.id Aj.fl.len Aj.fl.one) rfl rfl rfl KQ rfl .h) ?_
  refine Gn (.t7 1 2 4 7 8 9 18) (CG (Gt (Ah IB rfl) (Gt (AG rfl Dj .m0 Aj.l1 rfl rfl) (Gt (BV rfl) (Gm rfl (Ba 28 rfl rfl (fun q => Ah GG rfl) (Ba 28 rfl rfl (fun q => AG (cF rfl q) A3 .m0 Aj.l5 rfl rfl) ?_)))))))
  refine Ba 28 rfl rfl (fun q => Ae (cF rfl q) rfl) ?_
  refine Gt (BR rfl rfl (fun h => by rw [h]; rfl)) ?_
  refine Gn (.t8 1 2 4 7 8 9 18 32) ?_
  refine Gc (fun c3 => ?_) (fun c3 => ?_)
  ·
   have c3p := kz c3
   refine Bf (AX (Ai ?_))
   refine AB (.t5 1 2 4 7 18) ?_
   refine AA (AJ ?_)
   refine Gt (Av rfl rfl (IntWalk.i64_in _ (by first | omega | (dsimp only; omega) | (have := Cp (d.tmod 3 + 3 + k); omega)))) ?_
   refine Gm rfl ?_
   refine AQ (AB (.t5 1 2 4 7 18) ?_)
   refine Bz (k + 1) (s) _ ?_ ?_ (.t5 7 18 1 2 4) (.cons _ (.refl _))
   · have hrs : AF.EG d k s = _ := (BB c3)
     have hrg := AF.Fa (draw := d) hI14 hI15 hI11 (by omega)
     rw [hrs] at hrg
     exact ⟨by omega, by omega, by rw [AF.Hp hI11, ← hI13, hrs], hrg.1, hrg.2.1, (by have := hrg.2.2; omega), (by first | assumption | (have hso : (AF.CC s.1 k ((s.1.AN.at k).B0 - 1) (AF.LX d k)).out.length = 1 := rfl; (try dsimp only at *); simp only [List.length_append] at *; omega))⟩
   · omega
  have c3p := kz c3
  have hf0 : 0 ≤ ((s.1.AN.at k).B0 - 1) ∧ ((s.1.AN.at k).B0 - 1) < 6 := by omega
  have hbf := (AF.G6 hI14 hf0.1 hf0.2).BL
  refine Aa ?_
  refine AB (.t7 1 2 4 7 8 9 18) ?_
  refine AA (Gs (Gt (Ah GG rfl) (Gt (AG rfl A3 .m0 Aj.l5 rfl rfl) ?_)))
  refine Gt (E3 rfl rfl (IntWalk.i64_in _ (by first | omega | (dsimp only; omega) | (have := Cp (d.tmod 3 + 3 + k); omega)))) ?_
  refine Ga rfl (Gn (.t8 1 2 4 7 8 9 10 18) (Ao (Ao ?_)))
  refine BE (N := 16) [0, 0, 3, 7, 15, 31, 63, 127, 127, 511, 1023, 2047, 127, 4223, 16383, 32767] mix (by kernel_rfl) rfl ?_
  refine Pf 0 rfl (AE rfl) (Pf 1 rfl (Ah Bn rfl) ?_)
  refine Pf 2 rfl (AR C6 rfl rfl (by first | omega | (dsimp only; omega) | (have := Cp (d.tmod 3 + 3 + k); omega)) (by first | omega | (dsimp only; omega) | (have := Cp (d.tmod 3 + 3 + k); omega))) ?_
  refine Pf 3 rfl (Ah IB rfl) ?_
  refine Pf 4 rfl (AG rfl Dj .m2 ((AH.l2.comp (AU.arr (n := 6) Aj.fl (by first | omega | (dsimp only; omega) | (have := Cp (d.tmod 3 + 3 + k); omega)) (by first | omega | (dsimp only; omega) | (have := Cp (d.tmod 3 + 3 + k); omega)))).comp Aj.l1) rfl rfl) ?_
  refine Pf 5 rfl (BV rfl) (Pf 6 rfl (AE rfl) (Hf 7 42 rfl rfl rfl (fun q => AE rfl) (Hf 8 42 rfl rfl rfl (fun q => Ah Bn rfl) ?_)))
  refine BZ 9 rfl rfl (by kernel_rfl) (G2 (t := 42) rfl rfl (fun q => by have q1 := q; (try simp at q1); exact IT (AR C6 (cF rfl q) (cF rfl q) (by first | omega | (dsimp only; omega) | (have := Cp (d.tmod 3 + 3 + k); omega)) (by first | omega | (dsimp only; omega) | (have := Cp (d.tmod 3 + 3 + k); omega))))) ?_
  refine Hf 10 42 rfl rfl rfl (fun q => Ah C2 (cF rfl q)) ?_
  refine BZ 11 rfl rfl (by kernel_rfl) (G2 (t := 42) rfl rfl (fun q => by have q1 := q; (try simp at q1); exact IT (AG (cF rfl q) A3 .m2 ((AH.l2.comp (AU.arr (n := 6) Aj.fl (by first | omega | (dsimp only; omega) | (have := Cp (d.tmod 3 + 3 + k); omega)) (by first | omega | (dsimp only; omega) | (have := Cp (d.tmod 3 + 3 + k); omega)))).comp Aj.l3) rfl rfl))) ?_
  refine Hf 12 42 rfl rfl rfl (fun q => Ah C2 rfl) (Hf 13 42 rfl rfl rfl (fun q => AG (cF rfl q) A3 .m0 Aj.l3 rfl rfl) (Hf 14 42 rfl rfl rfl (fun q => CX (cF rfl q) (cF rfl q)) ?_))
  refine Pf 15 rfl (BR rfl rfl (fun h => by rw [h]; rfl)) ?_
  refine A4 (by kernel_rfl) ?_
  refine AB (.t8 1 2 4 7 8 10 18 51) ?_
  refine AA ?_
  refine Gc (fun c4 => ?_) (fun c4 => ?_)
  ·
   have c4p := kz c4
   refine Gs (Gm rfl (Gt (Ah Bn rfl) ?_))
   refine Gt (AR C6 rfl rfl (by first | omega | (dsimp only; omega) | (have := Cp (d.tmod 3 + 3 + k); omega)) (by first | omega | (dsimp only; omega) | (have := Cp (d.tmod 3 + 3 + k); omega))) ?_
   refine Gt (Ah GG rfl) ?_
   refine AT (AK ((AH.l2.comp (AU.arr (n := 6) Aj.fl (by first | omega | (dsimp only; omega) | (have := Cp (d.tmod 3 + 3 + k); omega)) (by first | omega | (dsimp only; omega) | (have := Cp (d.tmod 3 + 3 + k); omega)))).comp Aj.l5) rfl rfl rfl C5 rfl (.t (.t .h))) ?_
   refine Gn (.t5 1 2 4 7 18) (Bf (AX (Ai (AA (AJ ?_)))))
   refine Gt (Av rfl rfl (IntWalk.i64_in _ (by first | omega | (dsimp only; omega) | (have := Cp (d.tmod 3 + 3 + k); omega)))) ?_
   refine Gm rfl ?_
   refine AQ (AB (.t5 1 2 4 7 18) ?_)
   refine Bz (k + 1) ((s.1.C3 k { s.1.AN.at k with B0 := 0 }, s.2)) _ ?_ ?_ (.t5 7 18 1 2 4) (.cons _ (.refl _))
   · have hrs : AF.EG d k s = _ := ((AW c3).trans (BB c4))
     have hrg := AF.Fa (draw := d) hI14 hI15 hI11 (by omega)
     rw [hrs] at hrg
     exact ⟨by omega, by omega, by rw [AF.Hp hI11, ← hI13, hrs], hrg.1, hrg.2.1, (by have := hrg.2.2; omega), (by first | assumption | (have hso : (AF.CC s.1 k ((s.1.AN.at k).B0 - 1) (AF.LX d k)).out.length = 1 := rfl; (try dsimp only at *); simp only [List.length_append] at *; omega))⟩
   · omega
  have c4p := kz c4
  have hsf := AF.LG (b := k) (n := AF.LX d k) hI14 hI15 (B0 := ((s.1.AN.at k).B0 - 1)) hf0.1 hf0.2 c4p.1
  have hht := AF.Le (draw := d) hI11
  refine Aa ?_
  refine AB (.t7 1 2 4 7 8 10 18) ?_
  refine AA (Gs (Gm rfl ?_))
  refine Gt (TL rfl rfl (by first | omega | (dsimp only; omega) | (have := Cp (d.tmod 3 + 3 + k); omega))) ?_
  refine Gt (Av rfl rfl (IntWalk.i64_in _ (by first | omega | (dsimp only; omega) | (have := Cp (d.tmod 3 + 3 + k); omega)))) ?_
  refine Gm rfl ?_
  refine Gt (Av rfl rfl (IntWalk.i64_in _ (by first | omega | (dsimp only; omega) | (have := Cp (d.tmod 3 + 3 + k); omega)))) ?_
  refine Gt (TL rfl rfl (by first | omega | (dsimp only; omega) | (have := Cp (d.tmod 3 + 3 + k); omega))) ?_
  refine Gt (Av rfl rfl (IntWalk.i64_in _ (by first | omega | (dsimp only; omega) | (have := Cp (d.tmod 3 + 3 + k); omega)))) ?_
  refine Ga rfl (Gn (.t8 1 2 4 7 8 10 11 18) (Gs (Gt (AZ rfl BW .m2 (AU.id AH.fl.len AH.fl.one) rfl) (Gm rfl (Gt (BC Ul Uf rfl (.cons Ad.l0 rfl rfl rfl (.cons Ad.l1 rfl rfl rfl .nil))) ?_)))))
  refine B4 rfl rfl rfl (fun b4 => ?_)
  refine Ga rfl (Gn (.t8 1 2 4 7 10 11 12 18) (Gs (Gm rfl (Gm rfl (Gm rfl (Gt (BC N9 IP rfl (.cons Ing.Event.l0 rfl rfl rfl (.cons Ing.Event.l3 rfl rfl rfl (.cons Ing.Event.l5 rfl rfl rfl .nil)))) ?_))))))
  refine Dh Ing.Event.enc 56 16 ?_
  refine Ag rfl O9 (.c rfl (.c rfl .n)) (.c (.t .h) (.c .h .n)) (CL _ ⟨s.1, k, []⟩ _ { AF.Fk 14 with other := ((s.1.AN.at k).B0 - 1), n := AF.LX d k } rfl (show 0 ≤ k ∧ k < 6 by omega) (show ((s.1.AN.at k).B0 - 1) < 6 by omega) (Nat.zero_le _)) (fun v3 B hv => ?_)
  obtain ⟨y4, rfl, y5, rfl⟩ := hv
  refine Gn (.t8 1 2 4 7 10 11 12 18) (Ao ?_)
  refine BE (N := 16) [0, 0, 0, 0, 12, 28, 60, 0, 252, 508, 1, 1025, 3073, 8191, 16383, 32767] mix (by kernel_rfl) rfl ?_
  refine Pf 0 rfl (AE rfl) (Pf 1 rfl (AE rfl) (Pf 2 rfl (AE rfl) (Pf 3 rfl (Ah Bn rfl) ?_)))
  refine Pf 4 rfl (AR C6 rfl rfl (by first | omega | (dsimp only; omega) | (have := Cp (d.tmod 3 + 3 + k); omega)) (by first | omega | (dsimp only; omega) | (have := Cp (d.tmod 3 + 3 + k); omega))) ?_
  refine Pf 5 rfl (Ah JV rfl) ?_
  refine Pf 6 rfl (AG rfl A3 .m4 ((AH.l2.comp (AU.arr (n := 6) Aj.fl (by first | omega | (dsimp only; omega) | (have := Cp (d.tmod 3 + 3 + k); omega)) (by first | omega | (dsimp only; omega) | (have := Cp (d.tmod 3 + 3 + k); omega)))).comp Aj.l4) rfl rfl) ?_
  refine Pf 7 rfl (AE rfl) ?_
  refine Pf 8 rfl (E3 rfl rfl (IntWalk.i64_in _ (by first | omega | (dsimp only; omega) | (have := Cp (d.tmod 3 + 3 + k); omega)))) ?_
  refine Pf 9 rfl (KA rfl rfl) (Pf 10 rfl (BT rfl) (Pf 11 rfl (Ah A9 rfl) (Pf 12 rfl (Ah Bn rfl) ?_)))
  refine Pf 13 rfl (AR C6 rfl rfl (by first | omega | (dsimp only; omega) | (have := Cp (d.tmod 3 + 3 + k); omega)) (by first | omega | (dsimp only; omega) | (have := Cp (d.tmod 3 + 3 + k); omega))) ?_
  refine Pf 14 rfl (Ah JV rfl) ?_
  refine An 15 rfl (by kernel_rfl) ?_
  refine AT (AK (((Ad.l0.comp AH.l2).comp (AU.arr (n := 6) Aj.fl (by first | omega | (dsimp only; omega) | (have := Cp (d.tmod 3 + 3 + k); omega)) (by first | omega | (dsimp only; omega) | (have := Cp (d.tmod 3 + 3 + k); omega)))).comp Aj.l4) rfl rfl rfl C5 rfl .h) ?_
  refine BN rfl ⟨?_, ?_⟩
  · exact (Pk (Pk (Pk (Pk (Pk (Pk (Pk (Pk (Pk (Pk (Pk (Pk (Pk (Pk (Pk Aq)))))))))))))))
  refine A4 (by kernel_rfl) ?_
  refine AB (.t7 1 2 4 7 10 12 18) ?_
  refine AA (Ao ?_)
  have hl1 : y4.len = 1 := y5
  refine AJ (Gm rfl (Gm rfl (Gt (BT rfl) (Gt (Ah CJ rfl) (Gt (AG rfl Di .m0 Ad.l2 rfl rfl) ?_)))))
  refine Cc Ing.Event.fl rfl Tryz.underlying53 Ni IP rfl XI (by decide) (by decide) rfl rfl (fun w hS => Src.D3 Tryz.underlying53 ((Kn.own .m1) w hS)) (by (try dsimp only at *); omega) (fun _ => (.t (.t (.t .h)))) (fun h6 h6l h6z => ?_)
  refine Ga rfl (Gn (.t7 1 2 4 7 10 12 18) (Gs (Gm rfl (Gt (BT rfl) (Gt (Ah A9 rfl) (Gt (AZ rfl BW .m0 Ad.l0 rfl) ?_))))))
  refine AT (AK (AU.id AH.fl.len AH.fl.one) rfl rfl rfl D6 rfl (.t (.t (.t (.t .h))))) ?_
  refine Gn (.t6 1 2 4 7 10 18) (Gs (Gm rfl (Gt (Ah Bn rfl) ?_)))
  refine Gt (AR C6 rfl rfl (by first | omega | (dsimp only; omega) | (have := Cp (d.tmod 3 + 3 + k); omega)) (by first | omega | (dsimp only; omega) | (have := Cp (d.tmod 3 + 3 + k); omega))) ?_
  refine Gt (Ah JV rfl) ?_
  refine Gt (AG rfl A3 .m4 ((AH.l2.comp (AU.arr (n := 6) Aj.fl (by first | omega | (dsimp only; omega) | (have := Cp (d.tmod 3 + 3 + k); omega)) (by first | omega | (dsimp only; omega) | (have := Cp (d.tmod 3 + 3 + k); omega)))).comp Aj.l4) rfl rfl) ?_
  refine Gt (Ae rfl rfl) (Gn (.t7 1 2 4 7 10 18 102) ?_)
  refine Gc (fun c5 => ?_) (fun c5 => ?_)
  ·
   have c5p := kz c5
   refine Gs (Ga rfl (Gn (.t6 1 2 4 7 10 18) (Gs (Gt (AZ rfl BW .m4 (AU.id AH.fl.len AH.fl.one) rfl) (Gm rfl ?_)))))
   refine BF rfl df (.c rfl (.c rfl .n)) .n (OE (AF.CC s.1 k ((s.1.AN.at k).B0 - 1) (AF.LX d k)).w ((s.1.AN.at k).B0 - 1) hsf) (fun w hS => gl0.pull gm0 hS .n) (fun v7 B hv => ?_)
   obtain ⟨y8, rfl, y9, rfl⟩ := hv
   refine Gm rfl (Gt (AM rfl rfl) (Gt (AM rfl rfl) ?_))
   refine AT (AK (AU.id AH.fl.len AH.fl.one) rfl rfl rfl D6 rfl (.t (.t (.t (.t (.t .h)))))) ?_
   refine Ga rfl (Gn (.t6 1 2 4 7 13 18) ?_)
   have hl2 : y8.len ≤ 12 := by rw [y9]; exact (AF.Pl hsf).2.2
   refine AJ (Gm rfl (Gm rfl ?_))
   refine Cc Ing.Event.fl rfl Tryz.underlying53 Ni IP rfl XI (by decide) (by decide) rfl rfl (fun w hS => Src.D3 Tryz.underlying53 ((Kn.own .m0) w hS)) (by (try dsimp only at *); omega) (fun _ => (.t (.t (.t (.t .h))))) (fun h11 h11l h11z => ?_)
   refine Ga rfl ?_
   refine AQ (AB (.t5 1 2 4 7 18) ?_)
   refine AV (AA (AJ ?_))
   refine Gt (Av rfl rfl (IntWalk.i64_in _ (by first | omega | (dsimp only; omega) | (have := Cp (d.tmod 3 + 3 + k); omega)))) ?_
   refine Gm rfl ?_
   refine AQ (AB (.t5 1 2 4 7 18) ?_)
   refine Bz (k + 1) (((AF.Hn (AF.CC s.1 k ((s.1.AN.at k).B0 - 1) (AF.LX d k)).w ((s.1.AN.at k).B0 - 1)).w, (s.2 ++ (AF.CC s.1 k ((s.1.AN.at k).B0 - 1) (AF.LX d k)).out) ++ (AF.Hn (AF.CC s.1 k ((s.1.AN.at k).B0 - 1) (AF.LX d k)).w ((s.1.AN.at k).B0 - 1)).out)) _ ?_ ?_ (.t5 7 18 1 2 4) (.cons _ (.cons _ (.cons _ (.cons _ (.refl _)))))
   · have hrs : AF.EG d k s = _ := ((AW c3).trans ((AW c4).trans (BB c5)))
     have hrg := AF.Fa (draw := d) hI14 hI15 hI11 (by omega)
     rw [hrs] at hrg
     exact ⟨by omega, by omega, by rw [AF.Hp hI11, ← hI13, hrs], hrg.1, hrg.2.1, (by have := hrg.2.2; omega), (by first | assumption | (have hso : (AF.CC s.1 k ((s.1.AN.at k).B0 - 1) (AF.LX d k)).out.length = 1 := rfl; (try dsimp only at *); simp only [List.length_append] at *; omega))⟩
   · omega
  have c5p := kz c5
  refine Aa ?_
  refine AB (.t5 1 2 4 7 18) ?_
  refine AV (AA (AJ ?_))
  refine Gt (Av rfl rfl (IntWalk.i64_in _ (by first | omega | (dsimp only; omega) | (have := Cp (d.tmod 3 + 3 + k); omega)))) ?_
  refine Gm rfl ?_
  refine AQ (AB (.t5 1 2 4 7 18) ?_)
  refine Bz (k + 1) (((AF.CC s.1 k ((s.1.AN.at k).B0 - 1) (AF.LX d k)).w, s.2 ++ (AF.CC s.1 k ((s.1.AN.at k).B0 - 1) (AF.LX d k)).out)) _ ?_ ?_ (.t5 7 18 1 2 4) (.cons _ (.cons _ (.cons _ (.refl _))))
  · have hrs : AF.EG d k s = _ := ((AW c3).trans ((AW c4).trans (AW c5)))
    have hrg := AF.Fa (draw := d) hI14 hI15 hI11 (by omega)
    rw [hrs] at hrg
    exact ⟨by omega, by omega, by rw [AF.Hp hI11, ← hI13, hrs], hrg.1, hrg.2.1, (by have := hrg.2.2; omega), (by first | assumption | (have hso : (AF.CC s.1 k ((s.1.AN.at k).B0 - 1) (AF.LX d k)).out.length = 1 := rfl; (try dsimp only at *); simp only [List.length_append] at *; omega))⟩
  · omega
 have c2p := kz c2
 obtain rfl : k = 6 := by omega
 refine Bf (AX (AX (Ai ?_)))
 refine AB (.t3 2 4 7) ?_
 refine AA (Gs (Gt (AZ rfl BW .m1 (AU.id AH.fl.len AH.fl.one) rfl) (Gm rfl ?_)))
 refine AT (AK (AU.id AH.fl.len AH.fl.one) rfl rfl rfl D6 rfl (.t (.t .h))) ?_
 refine Ga rfl (Ga rfl (Gn (.t3 4 5 6) (Ab ?_)))
 refine AY rfl (.cell rfl .m2 (.inl ⟨(by rw [AH.fl.len]; exact BW), rfl⟩) (.tmp rfl (.tmp rfl .n))) ?_
 intro w1 hS
 have hS := (hS.perm (Ax.perm (.c .h .n))).A1
 have hq : AF.CU X d = ((AF.DT X d 6).1, (AF.DT X d 6).2, 0) := AW c1
 have hs6 : s = AF.DT X d 6 := hI13
 rw [← hs6] at hq
 refine ⟨_, ⟨h, ?hv, ?hl, ?hB⟩, hS⟩
 case hv => rw [hq]; (try rfl)
 case hl => rw [hq]; exact hI17
 case hB => rw [hq]; (try rfl)
theorem EP (p : Ay) (s : Ap) (hs : s.length ≤ 9000000000000000000) (w : World) : Ei Tryz.prog 62 #[.agg p.enc.toArray, BS s] w fun v w' => v = .tuple #[.agg (Ay.enc ⟨p.wait, (Page.send p s).1.shown, (Page.send p s).1.B7, (Page.send p s).1.ring, (Page.send p s).1.cut⟩).toArray, .int .i64 (Page.send p s).2] ∧ CB w w' := by
 refine Al [] [] Tryz.func62 rfl rfl rfl (St.start w []) ?_
 refine Gs ?_
 refine B4 rfl rfl rfl (fun b1 => ?_)
 refine BH rfl Xf rfl (fun b2 => ?_)
 refine Ga rfl (Gn (.t3 1 2 4) (Ao (Af (Gs (Gt (AZ rfl Cy .m1 (AU.id Ay.fl.len Ay.fl.one) rfl) ?_)))))
 refine BA rfl ZS (.c rfl .n) (fun w hS => Gq _ w) ?_
 refine Gt (BV rfl) (Ga rfl (Gn (.t4 1 2 4 6) ?_))
 refine Gc (fun c1 => ?_) (fun c1 => ?_)
 ·
  refine Gs (Gt (AZ rfl Cy .m1 (AU.id Ay.fl.len Ay.fl.one) rfl) ?_)
  refine AT (AK (AU.id Ay.fl.len Ay.fl.one) rfl rfl rfl Fv rfl .h) ?_
  refine Ga rfl (Gn (.t2 4 5) (Ab (AS (AD ?_))))
  refine AY rfl (.cell rfl .m0 (.inl ⟨(by rw [Ay.fl.len]; exact Cy), rfl⟩) (.tmp rfl .n)) ?_
  intro w1 hS; refine ⟨?_, hS.Am⟩; simp only [Page.send, Page.put, Page.of, c1, ↓reduceIte, Bool.false_eq_true]; rfl
 have c1p := kz c1
 have hg := (Page.HI p).1 (by simpa using c1)
 refine Gs (Gt (Ah K2 rfl) (Gt (AG rfl Dj .m1 Ay.l4 rfl rfl) (Ga rfl (Gn (.t4 1 2 4 11) ?_))))
 refine Gc (fun c2 => ?_) (fun c2 => ?_)
 ·
  refine Gs (Gt (AZ rfl Cy .m1 (AU.id Ay.fl.len Ay.fl.one) rfl) ?_)
  refine AT (AK (AU.id Ay.fl.len Ay.fl.one) rfl rfl rfl Fv rfl .h) ?_
  refine Ga rfl (Gn (.t2 4 5) (Ab (AS (AD ?_))))
  refine AY rfl (.cell rfl .m0 (.inl ⟨(by rw [Ay.fl.len]; exact Cy), rfl⟩) (.tmp rfl .n)) ?_
  intro w1 hS; refine ⟨?_, hS.Am⟩; rw [show Page.send p s = (Page.of p, 6) from by simp only [Page.send, c1, c2, ↓reduceIte, Bool.false_eq_true]]; rfl
 have c2p := kz c2
 refine Gs (Gm rfl (Gt (BI rfl Tryz.underlying9 rfl) (Gt (Ah Jc rfl) (Gt (AG rfl CV .m1 Ay.l3 rfl rfl) (Gt (BI rfl Tryz.underlying9 rfl) ?_)))))
 refine Gt (E3 rfl rfl (IntWalk.i64_in _ (by first | omega | (simp at *; omega)))) ?_
 refine Gt (Cj rfl rfl) (Ga rfl (Gn (.t4 1 2 4 15) ?_))
 refine Gc (fun c3 => ?_) (fun c3 => ?_)
 ·
  refine Gs (Gt (Ah K2 rfl) ?_)
  refine AT (AK Ay.l4 rfl rfl rfl KX rfl (.t .h)) ?_
  refine Gn (.t2 2 4) (Gs (Gt (AZ rfl Cy .m1 (AU.id Ay.fl.len Ay.fl.one) rfl) ?_))
  refine AT (AK (AU.id Ay.fl.len Ay.fl.one) rfl rfl rfl Fv rfl .h) ?_
  refine Ga rfl (Gn (.t2 4 5) (Ab (AS (AD ?_))))
  refine AY rfl (.cell rfl .m0 (.inl ⟨(by rw [Ay.fl.len]; exact Cy), rfl⟩) (.tmp rfl .n)) ?_
  intro w1 hS; refine ⟨?_, hS.Am⟩; simp only [Page.send, Page.put, Page.of, c1, c2, c3, ↓reduceIte, Bool.false_eq_true]; rfl
 have c3p := kz c3
 refine Aa ?_
 refine AB (.t3 1 2 4) ?_
 refine AV (AA (Gs (Gt (Ah Jc rfl) (Gt (AG rfl CV .m1 Ay.l3 rfl rfl) (Gm rfl ?_)))))
 refine Gt (CT rfl rfl (by first | omega | (simp at *; omega))) ?_
 refine Gt (Ah Jc rfl) ?_
 refine AT (AK Ay.l3 rfl rfl rfl Eo rfl (.t .h)) ?_
 refine Gn (.t2 2 4) (Gs (Gt (AZ rfl Cy .m1 (AU.id Ay.fl.len Ay.fl.one) rfl) ?_))
 refine AT (AK (AU.id Ay.fl.len Ay.fl.one) rfl rfl rfl Fv rfl .h) ?_
 refine Ga rfl (Gn (.t2 4 5) (Ab ?_))
 refine AY rfl (.cell rfl .m0 (.inl ⟨(by rw [Ay.fl.len]; exact Cy), rfl⟩) (.tmp rfl .n)) ?_
 intro w1 hS; refine ⟨?_, hS.Am⟩; simp only [Page.send, Page.put, Page.of, c1, c2, c3, ↓reduceIte, Bool.false_eq_true]; rfl
theorem Hj (b : Nat) (m : Int) (h0 : 0 < m) (h1 : m ≤ 281474976710656) : JS Tryz.prog 186 #[.pointer (some ⟨b, 0, none⟩), .int .i64 m] [Ac.box b 107 (DV.enc ⟨some ⟨b, 0, none⟩, ⟨none, 0, 0⟩⟩)] (fun v B => ∃ h', v = .tuple #[] ∧ h'.Z ∧ h'.len = 0 ∧ B = [Ac.box b 107 (DV.enc ⟨some ⟨b, 0, none⟩, h'⟩), Ac.own h' 5 1 (([] : Ap).flatMap DQ)]) := by
 intro w hS0
 refine Al _ _ Tryz.func186 rfl rfl rfl (hS0) ?_
 refine Ao ?_
 refine BE (N := 16) [0, 1, 3, 7, 15, 31, 0, 127, 255, 0, 512, 1536, 3584, 7680, 16383, 32767] mix (by kernel_rfl) rfl ?_
 refine Pf 0 rfl (AE rfl) (Pf 1 rfl (BT rfl) (Pf 2 rfl (Ah En rfl) (Pf 3 rfl (AG rfl ID .m0 DV.l1 rfl rfl) (Pf 4 rfl (Lj rfl Tryz.underlying105 rfl) ?_))))
 refine Pf 5 rfl (Xi rfl rfl (IntWalk.i64_in _ (by first | omega | (dsimp only; omega)))) ?_
 refine Pf 6 rfl (AE rfl) ?_
 refine Pf 7 rfl (Av rfl rfl (IntWalk.i64_in _ (by first | omega | (dsimp only; omega)))) ?_
 refine Pf 9 rfl (AE rfl) (Pf 10 rfl (BT rfl) (Pf 11 rfl (Ah En rfl) (Pf 12 rfl (AG rfl ID .m0 DV.l1 rfl rfl) (Pf 13 rfl (Ar rfl Tryz.underlying105 rfl) ?_))))
 refine An 8 rfl (by kernel_rfl) ?_
 refine Sc (ps := #[3]) rfl Tryz.func193 (by kernel_rfl) (by kernel_rfl) (by kernel_rfl) (by kernel_rfl) Tryz.underlying105 VT rfl (by first | omega | (dsimp only; omega)) (by first | omega | (dsimp only; omega)) (fun b1 b1c b1x b1l b1k => ?_)
 refine Bp rfl ⟨?_, ?_⟩
 · exact (Po rfl (Ar rfl Tryz.underlying105 rfl) rfl rfl (Po rfl (AG rfl ID .m1 DV.l1 rfl rfl) rfl rfl (Po rfl (Ah En rfl) rfl rfl (Po rfl (BT rfl) rfl rfl (Po rfl (AE rfl) rfl rfl (Pk (Pk (Pk (Pk (Pk (Pk (Pk (Pk Aq)))))))))))))
 refine An 14 rfl (by kernel_rfl) ?_
 refine KE WC rfl Tryz.underlying105 VT rfl rfl (by first | omega | (dsimp only; omega)) (by first | omega | (dsimp only; omega)) (fun _ => .h) ?_
 refine Bp rfl ⟨?_, ?_⟩
 · exact (Pk (Pk (Pk (Pk (Pk (Pk (Pk (Pk (Pk (Pk (Pk (Pk (Pk Aq)))))))))))))
 refine Pf 15 rfl (A0 rfl) ?_
 refine A4 (by kernel_rfl) ?_
 refine AB (.t2 0 4) ?_
 refine AA (Gs (Gm rfl (Gm rfl (Gt (BT rfl) (Gt (Ah En rfl) (Gt (AG rfl ID .m1 DV.l1 rfl rfl) (Gt (Xg rfl Tryz.underlying105 VT rfl rfl) ?_)))))))
 refine Gn (.t2 0 4) (AJ (Gm rfl (Gm rfl (Gt (BT rfl) (Gt (Ah En rfl) ?_)))))
 refine AT (AK DV.l1 rfl rfl rfl Tv rfl (.t .h)) ?_
 refine AQ ?_
 refine Bk rfl .n ?_
 intro w1 hS
 have hS := (hS.perm (Ax.perm (.c (.t .h) (.c .h .n)))).A1
 exact ⟨_, ⟨_, rfl, ⟨by intro a h; cases h; rfl, fun _ => by dsimp only at b1k ⊢; omega⟩, rfl, rfl⟩, hS⟩
theorem Hk (b : Nat) (m : Int) (h0 : 0 ≤ m) (h1 : m ≤ 281474976710656) : JS Tryz.prog 175 #[.pointer (some ⟨b, 0, none⟩), .int .i64 m] [Ac.box b 107 (DV.enc ⟨none, ⟨none, 0, 0⟩⟩)] (fun v B => ∃ h', v = .tuple #[] ∧ h'.Z ∧ h'.len = 0 ∧ B = [Ac.box b 107 (DV.enc ⟨some ⟨b, 0, none⟩, h'⟩), Ac.own h' 5 1 (([] : Ap).flatMap DQ)]) := by
 intro w hS0
 refine Al _ _ Tryz.func175 rfl rfl rfl (hS0) ?_
 refine Gs (Gm rfl ?_)
 refine Ag rfl Zc (.c rfl .n) (.c .h .n) (C8 _ _ _ (.inl rfl)) (fun v1 B hv => ?_)
 obtain ⟨rfl, rfl⟩ := hv
 refine Gn (.t2 0 1) (CG (Gm rfl (Gt (A8 rfl rfl) (Gn (.t3 0 1 7) ?_))))
 refine EJ rfl (by simp; omega) ?_
 refine Aa ?_
 refine AB (.t2 0 1) ?_
 refine AA (Ao ?_)
 refine BE (N := 13) [0, 1, 3, 7, 15, 0, 32, 96, 224, 480, 1023, 0, 4095] mix (by kernel_rfl) rfl ?_
 refine Pf 0 rfl (AE rfl) (Pf 1 rfl (BT rfl) (Pf 2 rfl (Ah En rfl) (Pf 3 rfl (AG rfl ID .m0 DV.l1 rfl rfl) (Pf 4 rfl (Lj rfl Tryz.underlying105 rfl) (Pf 5 rfl (AE rfl) (Pf 6 rfl (BT rfl) (Pf 7 rfl (Ah En rfl) ?_)))))))
 refine Pf 8 rfl (AG rfl ID .m0 DV.l1 rfl rfl) (Pf 9 rfl (Ar rfl Tryz.underlying105 rfl) ?_)
 refine Pf 10 rfl (E3 rfl rfl (IntWalk.i64_in _ (by first | omega | (dsimp only; omega)))) ?_
 refine Pf 11 rfl (AE rfl) (Pf 12 rfl (A8 rfl rfl) ?_)
 refine A4 (by kernel_rfl) ?_
 refine AB (.t3 0 1 21) ?_
 refine AA ?_
 refine Gc (fun c1 => ?_) (fun c1 => ?_)
 ·
  have c1p := kz c1
  refine AJ (Gm rfl (Gm rfl ?_))
  refine Ag rfl ay (.c rfl (.c rfl .n)) (.c .h .n) (Hj _ _ (by dsimp only at *; omega) h1) (fun v2 B hv => ?_)
  obtain ⟨y3, rfl, y4, y5, rfl⟩ := hv
  refine AQ ?_
  refine Bk rfl .n ?_
  intro w1 hS
  have hS := (hS.perm (Ax.perm (.c .h (.c .h .n)))).A1
  exact ⟨_, ⟨_, rfl, by assumption, by assumption, rfl⟩, hS⟩
 refine Aa ?_
 refine Bk rfl .n ?_
 intro w1 hS
 have hS := hS.Ck 5 1
 have hS := (hS.perm (Ax.perm (.c (.t .h) (.c .h .n)))).A1
 exact ⟨_, ⟨_, rfl, Hd.UA, rfl, rfl⟩, hS⟩
theorem JT (s : Ap) (hs : s.length ≤ 70368744000000) (w : World) : Ei Tryz.prog 158 #[BS s, BS [255], BS [255, 255], .int .i64 (-1)] w fun v w' => v = BS (Page.escape s) ∧ CB w w' := by
 have hcl := List.count_le_length (a := (255 : UInt8)) (l := s)
 refine Al [] [] Tryz.func158 rfl rfl rfl (St.start w []) ?_
 refine Gs (Ga rfl (Gn (.t4 0 1 2 3) (CG (Gm rfl (Gm rfl (Gt (Bw rfl rfl) (Gm rfl ?_)))))))
 refine Ba 19 rfl rfl (fun q => AE rfl) (Ba 19 rfl rfl (fun q => Ae (cF rfl q) rfl) ?_)
 refine Gt (BR rfl rfl (fun h => by rw [h]; rfl)) ?_
 refine Gn (.t5 0 1 2 3 22) ?_
 refine EJ rfl (by simp) ?_
 refine Aa ?_
 refine AB (.t4 0 1 2 3) ?_
 refine AA (CG (Gm rfl (Gm rfl ?_)))
 refine BA rfl Y9 (.c rfl (.c rfl .n)) (fun w hS => Hb _ 255 w) ?_
 refine Ga rfl (Gn (.t5 0 1 2 3 9) (Gs (Gm rfl (Gt (Ae rfl rfl) (Gn (.t6 0 1 2 3 9 28) ?_)))))
 refine Gc (fun c1 => ?_) (fun c1 => ?_)
 ·
  have c1p := kz c1
  refine Gs (Gm rfl (Ga rfl (Gn (.t1 8) (Ab (AD ?_)))))
  refine AY rfl (.tmp rfl .n) ?_
  intro w1 hS; refine ⟨?_, hS.Am⟩; have e : s.count 255 = 0 := by simp at c1; omega
  rw [Page.Md _ e]; rfl
 have c1p := kz c1
 refine Gs (Gm rfl (Gt (A8 rfl rfl) (Gm rfl (Ba 32 rfl rfl (fun q => AE rfl) (Ba 32 rfl rfl (fun q => AE rfl) (Ba 32 rfl rfl (fun q => A8 (cF rfl q) (cF rfl q)) ?_))))))
 refine Gt (BR rfl rfl (fun h => by rw [h]; rfl)) ?_
 refine Gn (.t6 0 1 2 3 9 36) ?_
 refine G0 rfl rfl ?_
 refine AJ (Gm rfl (Ga rfl (Gn (.t4 0 1 2 3) (Gs ?_))))
 refine BH rfl Ue rfl (fun b1 => ?_)
 refine Dh DQ 5 1 ?_
 refine AQ (AA (Gs (Gm rfl (Gt (BI rfl Tryz.underlying9 rfl) (Gm rfl (Gm rfl (Gt (BI rfl Tryz.underlying9 rfl) ?_)))))))
 refine Gm rfl (Gt (BI rfl Tryz.underlying9 rfl) ?_)
 refine Gt (E3 rfl rfl (IntWalk.i64_in _ (by (try simp only [List.length_cons, List.length_nil]); omega))) ?_
 refine Gt (Xi rfl rfl (IntWalk.i64_in _ (by (try simp only [List.length_cons, List.length_nil]); omega))) ?_
 refine Gt (Av rfl rfl (IntWalk.i64_in _ (by (try simp only [List.length_cons, List.length_nil]); omega))) ?_
 refine Ag rfl ax (.c rfl (.c rfl .n)) (.c (.t .h) .n) (Hk _ _ (by simp only [List.length_cons, List.length_nil]; omega) (by simp only [List.length_cons, List.length_nil]; omega)) (fun v1 B hv => ?_)
 obtain ⟨y2, rfl, y3, y4, rfl⟩ := hv
 refine Gn (.t5 0 1 2 3 10) (Gs (Ga rfl (AQ (AA (CG (Gm rfl (Gt (BI rfl Tryz.underlying9 rfl) ?_)))))))
 refine Gt (Cj rfl rfl) (Gn (.t7 0 1 2 3 10 11 51) ?_)
 refine G0 rfl (by simp) ?_
 refine Gs (Gm rfl (Gm rfl (Gn (.t7 0 1 2 10 11 52 53) (Af ?_))))
 refine Bo (.t7 11 53 0 1 2 10 52) ?_
 refine Be (.t .h) ?_
 refine Be (.t .h) ?_
 refine N3 (fun (k : Int) (start : Int) (x : Ap) (p : Option Addr) (h : Hd) => Page.Qe s (s.count 255) k start x ∧ (p = none ∨ p = some ⟨b1, 0, none⟩) ∧ h.Z ∧ h.len = x.length) (fun (k : Int) (start : Int) (x : Ap) (p : Option Addr) (h : Hd) => ((s.count 255 : Int) - k).toNat) (fun (k : Int) (start : Int) (x : Ap) (p : Option Addr) (h : Hd) => [(11, .int .i64 start), (53, .int .i64 k)]) (fun (k : Int) (start : Int) (x : Ap) (p : Option Addr) (h : Hd) => [Ac.box b1 107 (DV.enc ⟨p, h⟩), Ac.own h 5 1 (x.flatMap DQ)]) (0) (0) ([]) (_) (_) ?_ rfl rfl (fun k start x p h hI1 => ?_)
 · exact ⟨Page.Qe.start rfl, .inr rfl, by assumption, by assumption⟩
 obtain ⟨hI11, hp, hz, hl⟩ := hI1; have hk0 := hI11.k0; have hs0 := hI11.s0; have hs1 := hI11.s1; have hxl := hI11.xl
 refine Gs (Gt (A8 rfl rfl) (AQ (AA (Ao ?_))))
 refine Gc (fun c2 => ?_) (fun c2 => ?_)
 ·
  have c2p := kz c2
  obtain ⟨i, hi, hlt, hR⟩ := hI11.idx (by omega)
  rw [← hi] at hR hlt
  refine Aa ?_
  refine AB (.t7 0 1 2 10 11 52 53) ?_
  refine AA (Ao (Af (Gs (Gm rfl (Gm rfl (Gm rfl ?_))))))
  refine Gt (GU Tryz.underlying9 rfl rfl (by (try simp only [List.length_cons, List.length_nil]); omega) (by (try simp only [List.length_cons, List.length_nil]); omega)) ?_
  refine Gm rfl ?_
  refine BA rfl Xb (.c rfl (.c rfl .n)) (fun w hS => FQ _ 255 w) ?_
  refine Gt (Av rfl rfl (IntWalk.i64_in _ (by (try simp only [List.length_cons, List.length_nil]); omega))) ?_
  refine Ga rfl (Gn (.t8 0 1 2 10 11 12 52 53) (Gs (Gm rfl (Gm rfl (Gm rfl ?_)))))
  refine Gt (Yf Tryz.underlying9 rfl rfl rfl (by (try simp only [List.length_cons, List.length_nil]); omega) (by (try simp only [List.length_cons, List.length_nil]); omega) (by (try simp only [List.length_cons, List.length_nil]); omega)) ?_
  refine Ag rfl PH (.c rfl (.c rfl .n)) (.c .h (.c .h .n)) (BM _ _ _ _ (by assumption) (by assumption) (by assumption) _ (by (try simp only [List.length_drop, List.length_take, List.length_append, List.length_cons, List.length_nil]); omega)) (fun v6 B hv => ?_)
  obtain ⟨y7, y8, rfl, y9, y10, y11, rfl⟩ := hv
  refine Gn (.t7 0 1 2 10 12 52 53) (Gs (Gm rfl ?_))
  refine Ag rfl PH (.c rfl (.c rfl .n)) (.c .h (.c .h .n)) (BM _ _ _ _ (by assumption) (by assumption) (by assumption) _ (by (try simp only [List.length_drop, List.length_take, List.length_append, List.length_cons, List.length_nil]); omega)) (fun v12 B hv => ?_)
  obtain ⟨y13, y14, rfl, y15, y16, y17, rfl⟩ := hv
  refine Gn (.t7 0 1 2 10 12 52 53) (AJ (Gm rfl (Gm rfl (Gt (BI rfl Tryz.underlying9 rfl) ?_))))
  refine Gt (Av rfl rfl (IntWalk.i64_in _ (by (try simp only [List.length_cons, List.length_nil]); omega))) ?_
  refine Ga rfl ?_
  refine AQ (AB (.t7 0 1 2 10 11 52 53) ?_)
  refine AV (AA (AJ ?_))
  refine Gt (Av rfl rfl (IntWalk.i64_in _ (by (try simp only [List.length_cons, List.length_nil]); omega))) ?_
  refine Gm rfl ?_
  refine AQ (AB (.t7 0 1 2 10 11 52 53) ?_)
  refine IJ (k + 1) _ _ _ _ ?_ ?_ (.t7 11 53 0 1 2 10 52) (.refl _)
  · exact ⟨hR, by assumption, by assumption, by assumption⟩
  · omega
 have c2p := kz c2
 refine Bf (AX (AX (Ai ?_)))
 refine AB (.t3 0 10 11) ?_
 refine AA (Gs (Gm rfl (Gm rfl ?_)))
 refine Gt (GU Tryz.underlying9 rfl rfl (by (try simp only [List.length_cons, List.length_nil]); omega) (by (try simp only [List.length_cons, List.length_nil]); omega)) ?_
 refine Ag rfl PH (.c rfl (.c rfl .n)) (.c .h (.c .h .n)) (BM _ _ _ _ (by assumption) (by assumption) (by assumption) _ (by (try simp only [List.length_drop, List.length_take, List.length_append, List.length_cons, List.length_nil]); omega)) (fun v18 B hv => ?_)
 obtain ⟨y19, y20, rfl, y21, y22, y23, rfl⟩ := hv
 refine Gn (.t1 10) (Gs ?_)
 refine Ag rfl Ym (.c rfl .n) (.c .h (.c .h .n)) (Ct _ _ _ _ (by assumption) (by assumption) (by (try simp only [List.length_append, List.length_drop]); omega)) (fun v24 B hv => ?_)
 obtain ⟨rfl, rfl⟩ := hv
 refine Ga rfl (Gn (.t1 8) (Ab ?_))
 refine AY rfl (.tmp rfl .n) ?_
 intro w1 hS; refine ⟨?_, hS.Am⟩; rw [← hI11.done (by omega)]; rfl
theorem Iq (s : Ap) (hs : s.length ≤ 70368744000000) (w : World) : Ei Tryz.prog 126 #[BS s, BS [255], BS [255, 255]] w fun v w' => v = BS (Page.escape s) ∧ CB w w' := by
 refine Al [] [] Tryz.func126 rfl rfl rfl (St.start w []) ?_
 refine Gs (Ga rfl (Gn (.t3 0 1 2) (Gs (Gm rfl (Gm rfl (Gm rfl ?_))))))
 refine BA rfl aq (.c rfl (.c rfl (.c rfl (.c rfl .n)))) (fun w hS => JT _ (by first | assumption | omega) w) ?_
 refine Ga rfl (Gn (.t1 6) (Ab ?_))
 refine AY rfl (.tmp rfl .n) ?_
 intro w1 hS; refine ⟨?_, hS.Am⟩; rfl
theorem K0 (s : Ap) (hs : s.length ≤ 70368744000000) (w : World) : Ei Tryz.prog 98 #[BS s] w fun v w' => v = BS (Page.escape s) ∧ CB w w' := by
 refine Al [] [] Tryz.func98 rfl rfl rfl (St.start w []) ?_
 refine Gs (Ga rfl (Gn (.t1 0) (Gs (Gm rfl ?_))))
 refine BA rfl bd (.c rfl (.c rfl (.c rfl .n))) (fun w hS => Iq _ (by first | assumption | omega) w) ?_
 refine Ga rfl (Gn (.t1 2) (Ab ?_))
 refine AY rfl (.tmp rfl .n) ?_
 intro w1 hS; refine ⟨?_, hS.Am⟩; rfl
theorem NC {t0 : Nat} (p : Ay) (qs : List Ap) (top : Int) (hs : ∀ s ∈ qs, s.length ≤ 70368744000000) : FL Tryz.prog 83 #[.agg p.enc.toArray, .int .i64 top] [] (fun w => Rd w p.wait t0 1 (qs.flatMap A7) ∧ p.wait.len ≤ p.wait.cap) (fun v B => ((!Page.Bg p || decide (top < 0) || decide (200 < top)) = true ∧ v = .tuple #[.agg p.enc.toArray, .int .i64 2] ∧ B = []) ∨ ((!Page.Bg p || decide (top < 0) || decide (200 < top)) = false ∧ ∃ (T : Nat) (h' g : Hd) (zs : List Ap), v = .tuple #[.agg (Ay.enc ⟨h', (Page.BX top qs (Page.of p)).1.shown, (Page.BX top qs (Page.of p)).1.B7, (Page.BX top qs (Page.of p)).1.ring, (Page.BX top qs (Page.of p)).1.cut⟩).toArray, .int .i64 0] ∧ h'.len = (Page.BX top qs (Page.of p)).2.length ∧ aN T h' (Page.BX top qs (Page.of p)).2 t0 p.wait qs 9 g zs ∧ B = [Ac.own g 9 1 (zs.flatMap A7)])) := by
 intro w hS0 hH
 obtain ⟨r0, k0⟩ := hH
 have hl0 := r0.Mu DW (by decide)
 refine Al _ _ Tryz.func83 rfl rfl rfl (hS0) ?_
 refine Gs ?_
 refine B4 rfl rfl rfl (fun b1 => ?_)
 refine BH rfl Xf rfl (fun b2 => ?_)
 refine Ga rfl (Gn (.t3 1 2 4) (CG (Gt (AZ rfl Cy .m1 (AU.id Ay.fl.len Ay.fl.one) rfl) ?_)))
 refine BA rfl ZS (.c rfl .n) (fun w hS => Gq _ w) ?_
 refine Gt (BV rfl) (Gm rfl (Ba 10 rfl rfl (fun q => AE rfl) (Ba 10 rfl rfl (fun q => A8 (cF rfl q) rfl) ?_)))
 refine Gt (BR rfl rfl (fun h => by rw [h]; rfl)) ?_
 refine Gm rfl (Ba 14 rfl rfl (fun q => AE rfl) (Ba 14 rfl rfl (fun q => Cj (cF rfl q) rfl) ?_))
 refine Gt (BR rfl rfl (fun h => by rw [h]; rfl)) ?_
 refine Gn (.t4 1 2 4 17) ?_
 refine Gc (fun c1 => ?_) (fun c1 => ?_)
 ·
  refine Gs (Gt (AZ rfl Cy .m1 (AU.id Ay.fl.len Ay.fl.one) rfl) ?_)
  refine AT (AK (AU.id Ay.fl.len Ay.fl.one) rfl rfl rfl Fv rfl .h) ?_
  refine Ga rfl (Gn (.t2 4 5) (Ab (AD ?_)))
  refine AY rfl (.cell rfl .m0 (.inl ⟨(by rw [Ay.fl.len]; exact Cy), rfl⟩) (.tmp rfl .n)) ?_
  intro w1 hS
  have hS := (hS.perm (Ax.perm .n)).A1
  exact ⟨_, .inl ⟨c1, rfl, rfl⟩, hS⟩
 have c1p := kz c1
 have hgd : Page.Bg p = true ∧ 0 ≤ top ∧ top ≤ 200 := by simp at c1; exact ⟨c1.1.1, by omega, by omega⟩
 refine Aa ?_
 refine AB (.t3 1 2 4) ?_
 refine AA (Ao (Af ?_))
 refine Bo (.t3 1 2 4) ?_
 refine E7 A7 9 1 ?_
 refine Be (.t (.t .h)) ?_
 refine Be (.t .h) ?_
 refine Xq (fun (rest : List Ap) (sh : Int) (ak : Bool) (ring : Ap) (ct : Bool) (T : Nat) (hx : Hd) (g : Hd) (zs : List Ap) => Page.FI top qs (Page.of p) rest hx ⟨sh, ak, ring, ct⟩ ∧ aN T hx rest t0 p.wait qs 9 g zs) (fun (rest : List Ap) (sh : Int) (ak : Bool) (ring : Ap) (ct : Bool) (T : Nat) (hx : Hd) (g : Hd) (zs : List Ap) => rest.length) (fun (rest : List Ap) (sh : Int) (ak : Bool) (ring : Ap) (ct : Bool) (T : Nat) (hx : Hd) (g : Hd) (zs : List Ap) => []) (fun (rest : List Ap) (sh : Int) (ak : Bool) (ring : Ap) (ct : Bool) (T : Nat) (hx : Hd) (g : Hd) (zs : List Ap) => [Ac.own g 9 1 (zs.flatMap A7), Ac.box b1 65 (Ay.enc ⟨hx, sh, ak, ring, ct⟩)]) (qs) (p.shown) (p.B7) (p.ring) (p.cut) (t0) (p.wait) (_) (_) ?_ rfl rfl (fun rest sh ak ring ct T hx g zs hI1 => ?_)
 · exact ⟨Page.FI.start hgd.1 hl0 hs, .inl ⟨rfl, rfl, rfl, rfl, rfl⟩⟩
 obtain ⟨hI11, hor⟩ := hI1; have hl := hI11.hl; have hn := hI11.n; have hr := hI11.ring; have hs0 := hI11.s0; have hs1 := hI11.s1; dsimp only at hr hs0 hs1
 refine CG (Gt (Ah Jm rfl) (Gt (AG rfl FZ .m1 Ay.l0 rfl rfl) (Gt (Ar rfl Tryz.underlying52 rfl) (Gt (Cj rfl rfl) (Gm rfl (Bi 23 rfl rfl (fun q => Ah Q9 rfl) (Bi 23 rfl rfl (fun q => AG (Bh rfl q) Dj .m1 Ay.l2 rfl rfl) ?_)))))))
 refine Bi 23 rfl rfl (fun q => BV (Bh rfl q)) (Gt (BK rfl rfl (fun h => h)) (Gm rfl (Bi 28 rfl rfl (fun q => Ah K2 rfl) (Bi 28 rfl rfl (fun q => AG (Bh rfl q) Dj .m1 Ay.l4 rfl rfl) (Bi 28 rfl rfl (fun q => BV (Bh rfl q)) (Gt (BK rfl rfl (fun h => h)) (Gn (.t4 1 2 4 32) ?_)))))))
 refine Gc (fun c2 => ?_) (fun c2 => ?_)
 ·
  have c2p := kz c2
  have hc3 : 0 < rest.length ∧ ak = false ∧ ct = false := by simp at c2; exact ⟨by omega, c2.1.2, c2.2⟩
  obtain ⟨hc0, hak, hct⟩ := hc3
  obtain ⟨q, r, rfl⟩ := Bb.UO (qs := rest) (by omega)
  refine Aa ?_
  refine AB (.t3 1 2 4) ?_
  refine AA (Af (CG (Gm rfl (Gt (Cj rfl rfl) (Gm rfl (Bi 35 rfl rfl (fun q => Ah MZ rfl) (Bi 35 rfl rfl (fun q => AG (Bh rfl q) A3 .m1 Ay.l1 rfl rfl) ?_)))))))
  refine Bi 35 rfl rfl (fun q => AE rfl) (Bi 35 rfl rfl (fun q => CN (Bh rfl q) (Bh rfl q)) (Gt (BK rfl rfl (fun h => h)) (Gn (.t4 1 2 4 40) ?_)))
  refine Gc (fun c3 => ?_) (fun c3 => ?_)
  ·
   have c3p := kz c3
   refine Gs (Gt (Ah Q9 rfl) ?_)
   refine AT (AK Ay.l2 rfl rfl rfl KX rfl (.t .h)) ?_
   refine Gn (.t2 2 4) (Gs (Gt (AZ rfl Cy .m1 (AU.id Ay.fl.len Ay.fl.one) rfl) ?_))
   refine BA rfl XZ (.c rfl (.c rfl .n)) (fun w hS => EP _ _ (by first | omega | (have h1 := Page.HT ((q :: r).getD (0 : Int).toNat []); have h2 := hI11.len ((q :: r).getD (0 : Int).toNat []) (by simp); simp only [List.length_append, List.length_cons, List.length_nil] at *; omega)) w) ?_
   refine Gm rfl (Gt (AM rfl rfl) (Gt (AM rfl rfl) ?_))
   refine AT (AK (AU.id Ay.fl.len Ay.fl.one) rfl rfl rfl Fv rfl (.t .h)) ?_
   refine Gn (.t2 2 4) (Bf (AX ?_))
   refine Jq rfl ?_
   refine AX (Ai (AA (Gs (Gt (AZ rfl Cy .m1 (AU.id Ay.fl.len Ay.fl.one) rfl) ?_))))
   refine AT (AK (AU.id Ay.fl.len Ay.fl.one) rfl rfl rfl Fv rfl (.t (.t .h))) ?_
   refine Ga rfl (Gn (.t2 4 5) (Ab ?_))
   refine AY rfl (.cell rfl .m2 (.inl ⟨(by rw [Ay.fl.len]; exact Cy), rfl⟩) (.tmp rfl .n)) ?_
   intro w1 hS
   have hS := (hS.perm (Ax.perm (.c .h .n))).A1
   have e := hI11.asks hak hct c3
   exact ⟨_, .inr ⟨c1, T, hx, g, zs, (by first | (rw [e]; done) | (rw [e]; rfl)), (by rw [e]; exact hI11.hl), (by rw [e]; exact hor), rfl⟩, hS⟩
  have c3p := kz c3
  refine Aa ?_
  refine AB (.t3 1 2 4) ?_
  refine AA (Gs (Gt (Ah Jm rfl) (Gt (AG rfl FZ .m1 Ay.l0 rfl rfl) ?_)))
  refine Gt (Br JQ (by decide) (aE hor (Kn.I0 r0) (Kn.own .m0)) rfl rfl (by omega) (by omega)) ?_
  refine Gt (Dg rfl CV (aE hor (Kn.I0 r0) (Kn.own .m0)) (by simp)) ?_
  refine Ga rfl (Gn (.t4 1 2 4 6) (Gs (Gt (Ah Jm rfl) (Gt (AG rfl FZ .m1 Ay.l0 rfl rfl) ?_))))
  refine Gt (Sa Tryz.underlying52 Eo rfl rfl (by decide) (by first | omega | (have h1 := Page.HT ((q :: r).getD (0 : Int).toNat []); have h2 := hI11.len ((q :: r).getD (0 : Int).toNat []) (by simp); simp only [List.length_append, List.length_cons, List.length_nil] at *; omega))) ?_
  refine BF rfl U6 (.c rfl .n) .n (Bx _ r (by simp only [List.length_cons] at *; omega)) (fun w hS => by have h := (Kn.cut (l := 1) (r := hx.len) DW (aE hor (Kn.I0 r0) (Kn.own .m0)) (by omega) (Nat.le_refl _) (bp hor (Vn.of k0) (Vn.own .m0))) w hS; rw [show (((q :: r).take hx.len).drop 1) = r from by rw [List.take_of_length_le (by simp only [List.length_cons] at *; omega)]; rfl] at h; exact h) (fun v2 B hv => ?_)
  obtain ⟨y3, rfl, y4, rfl⟩ := hv
  refine Gt (Ah Jm rfl) ?_
  refine AT (AK Ay.l0 rfl rfl rfl My rfl (.t (.t .h))) ?_
  refine Gn (.t4 1 2 4 6) (Gs (Gt (Ah MZ rfl) (Gt (AG rfl A3 .m2 Ay.l1 rfl rfl) ?_)))
  refine Gt (Av rfl rfl (IntWalk.i64_in _ (by first | omega | (have h1 := Page.HT ((q :: r).getD (0 : Int).toNat []); have h2 := hI11.len ((q :: r).getD (0 : Int).toNat []) (by simp); simp only [List.length_append, List.length_cons, List.length_nil] at *; omega)))) ?_
  refine Gt (LR rfl rfl) (Gt (Ah MZ rfl) ?_)
  refine AT (AK Ay.l1 rfl rfl rfl C5 rfl (.t (.t .h))) ?_
  refine Gn (.t4 1 2 4 6) ?_
  refine BE (N := 9) [0, 0, 2, 6, 15, 31, 63, 63, 127] mix (by kernel_rfl) rfl ?_
  refine Pf 0 rfl (AZ rfl Cy .m2 (AU.id Ay.fl.len Ay.fl.one) rfl) (Pf 1 rfl (AE rfl) ?_)
  refine BZ 2 rfl rfl (by kernel_rfl) (Lb (K9 (D7 dT (.c rfl .n) (fun w hS => K0 _ (hI11.len _ (by simp)) w)))) ?_
  refine Pf 3 rfl (CT rfl rfl (by first | omega | (have h1 := Page.HT ((q :: r).getD (0 : Int).toNat []); have h2 := hI11.len ((q :: r).getD (0 : Int).toNat []) (by simp); simp only [List.length_append, List.length_cons, List.length_nil] at *; omega))) ?_
  refine BZ 4 rfl rfl (by kernel_rfl) (Lb (K9 (D7 XZ (.c rfl (.c rfl .n)) (fun w hS => EP _ _ (by first | omega | (have h1 := Page.HT ((q :: r).getD (0 : Int).toNat []); have h2 := hI11.len ((q :: r).getD (0 : Int).toNat []) (by simp); simp only [List.length_append, List.length_cons, List.length_nil] at *; omega)) w)))) ?_
  refine Pf 5 rfl (AE rfl) (Pf 6 rfl (AM rfl rfl) (Pf 7 rfl (AM rfl rfl) ?_))
  refine An 8 rfl (by kernel_rfl) ?_
  refine AT (AK (AU.id Ay.fl.len Ay.fl.one) rfl rfl rfl Fv rfl (.t (.t .h))) ?_
  refine BN rfl ⟨?_, ?_⟩
  · exact (Po rfl (AM rfl rfl) rfl rfl (Pk (Pk (Pk (Pk (Pk (Pk (Pk Aq))))))))
  refine A4 (by kernel_rfl) ?_
  refine AB (.t3 1 2 4) ?_
  refine AV ?_
  refine B9 (.c .h (.c (.t .h) (.c (.t .h) .n))) ?_
  refine CO ?_
  refine Vg (r) _ _ _ _ (9) _ _ (r) ?_ ?_ (.t3 1 2 4) (.refl _)
  · exact ⟨hI11.next hak hct c3 (by assumption) rfl, .inr ⟨rfl, rfl, rfl⟩⟩
  · simp only [List.length_cons]; omega
 refine Bf (AX (AX (Ai ?_)))
 refine AB (.t2 2 4) ?_
 refine AA (Gs (Gt (AZ rfl Cy .m1 (AU.id Ay.fl.len Ay.fl.one) rfl) ?_))
 refine AT (AK (AU.id Ay.fl.len Ay.fl.one) rfl rfl rfl Fv rfl (.t (.t .h))) ?_
 refine Ga rfl (Gn (.t2 4 5) (Ab ?_))
 refine AY rfl (.cell rfl .m2 (.inl ⟨(by rw [Ay.fl.len]; exact Cy), rfl⟩) (.tmp rfl .n)) ?_
 intro w1 hS
 have hS := (hS.perm (Ax.perm (.c .h .n))).A1
 have e := hI11.bh c2
 exact ⟨_, .inr ⟨c1, T, hx, g, zs, (by first | (rw [e]; done) | (rw [e]; rfl)), (by rw [e]; exact hI11.hl), (by rw [e]; exact hor), rfl⟩, hS⟩
theorem Dq (b : Nat) (V : AL) (ls : Vector BD 4) (ev : List Ing.Event) (n m : Nat) (hF : AI.Fit (A5 V ls ev) n m) (hn : n ≤ 600000) (hm : m ≤ 600000) : FL Tryz.prog 65 #[.pointer (some ⟨b, 0, none⟩)] [Ac.box b 101 (AL.enc V), Ac.Dz (CH 9 (AL.Aw V) ls), Ac.own (AL.last V) 56 16 ((ev).flatMap Ing.Event.enc)] (fun w => (GV 2 Fu w ∧ 2 ∉ Cd [Ac.box b 101 (AL.enc V), Ac.Dz (CH 9 (AL.Aw V) ls), Ac.own (AL.last V) 56 16 ((ev).flatMap Ing.Event.enc)]) ∧ (GV 0 AH.DG w ∧ 0 ∉ Cd [Ac.box b 101 (AL.enc V), Ac.Dz (CH 9 (AL.Aw V) ls), Ac.own (AL.last V) 56 16 ((ev).flatMap Ing.Event.enc)]) ∧ (Gl 7 w ∧ 7 ∉ Cd [Ac.box b 101 (AL.enc V), Ac.Dz (CH 9 (AL.Aw V) ls), Ac.own (AL.last V) 56 16 ((ev).flatMap Ing.Event.enc)]) ∧ (Gl 8 w ∧ 8 ∉ Cd [Ac.box b 101 (AL.enc V), Ac.Dz (CH 9 (AL.Aw V) ls), Ac.own (AL.last V) 56 16 ((ev).flatMap Ing.Event.enc)])) (fun v B => ∃ V' ls' ev', v = .tuple #[] ∧ A5 V' ls' ev' = AI.BX (A5 V ls ev) ∧ B = [Ac.box b 101 (AL.enc V'), Ac.Dz (CH 9 (AL.Aw V') ls'), Ac.own (AL.last V') 56 16 ((ev').flatMap Ing.Event.enc)]) := by
 intro w hS0 hH
 obtain ⟨⟨gl0, gm0⟩, ⟨gl1, gm1⟩, ⟨gl2, gm2⟩, ⟨gl3, gm3⟩⟩ := hH
 refine Al _ _ Tryz.func65 rfl rfl rfl (hS0) ?_
 refine Gs (Gm rfl (AQ (AA (Af ?_))))
 refine Bo (.t2 5 0) ?_
 refine Be (.t (.t .h)) ?_
 refine Be (.t (.t .h)) ?_
 refine Be (.t (.t .h)) ?_
 refine IU (fun (k : Int) (V1 : AL) (ls1 : Vector BD 4) (ev1 : List Ing.Event) => 0 ≤ k ∧ k ≤ 5 ∧ (A5 V ls ev).BX = (A5 V1 ls1 ev1).HZ (5 - k).toNat ∧ AI.Fit (A5 V1 ls1 ev1) (n + 44 * k.toNat) (m + 44 * k.toNat)) (fun (k : Int) (V1 : AL) (ls1 : Vector BD 4) (ev1 : List Ing.Event) => (5 - k).toNat) (fun (k : Int) (V1 : AL) (ls1 : Vector BD 4) (ev1 : List Ing.Event) => [(5, .int .i64 k)]) (fun (k : Int) (V1 : AL) (ls1 : Vector BD 4) (ev1 : List Ing.Event) => [Ac.box b 101 (AL.enc V1), Ac.Dz (CH 9 (AL.Aw V1) ls1), Ac.own (AL.last V1) 56 16 (ev1.flatMap Ing.Event.enc)]) (0) (V) (ls) (ev) ?_ rfl rfl (fun k V1 ls1 ev1 hI1 => ?_)
 · exact ⟨by omega, by omega, rfl, hF⟩
 obtain ⟨hI11, hI12, hI13, hI14⟩ := hI1
 refine Gs (Gt (A8 rfl rfl) (AQ (AA (Ao ?_))))
 refine Gc (fun c1 => ?_) (fun c1 => ?_)
 ·
  have c1p := kz c1
  refine Aa ?_
  refine AB (.t2 0 5) ?_
  refine AA (Ao (Af (Gs (Ga rfl (AQ (AA (CG ?_)))))))
  refine Gm rfl (AQ (AA (Af ?_)))
  refine Bo (.t4 2 7 0 5) ?_
  refine Be (.t (.t .h)) ?_
  refine Be (.t (.t .h)) ?_
  refine Be (.t (.t .h)) ?_
  refine N3 (fun (i : Int) (V2 : AL) (ls2 : Vector BD 4) (ev2 : List Ing.Event) (c : Bool) => 0 ≤ i ∧ i ≤ 4 ∧ ((A5 V2 ls2 ev2), c) = (A5 V1 ls1 ev1).Ce i.toNat) (fun (i : Int) (V2 : AL) (ls2 : Vector BD 4) (ev2 : List Ing.Event) (c : Bool) => (4 - i).toNat) (fun (i : Int) (V2 : AL) (ls2 : Vector BD 4) (ev2 : List Ing.Event) (c : Bool) => [(2, .bool c), (7, .int .i64 i)]) (fun (i : Int) (V2 : AL) (ls2 : Vector BD 4) (ev2 : List Ing.Event) (c : Bool) => [Ac.box b 101 (AL.enc V2), Ac.Dz (CH 9 (AL.Aw V2) ls2), Ac.own (AL.last V2) 56 16 (ev2.flatMap Ing.Event.enc)]) (0) (V1) (ls1) (ev1) (false) ?_ rfl rfl (fun i V2 ls2 ev2 c hI2 => ?_)
  · exact ⟨by omega, by omega, rfl⟩
  obtain ⟨hI21, hI22, hI23⟩ := hI2
  refine Gs (Gt (A8 rfl rfl) (AQ (AA (Ao ?_))))
  refine Gc (fun c2 => ?_) (fun c2 => ?_)
  ·
   have c2p := kz c2
   have hi : 0 ≤ i ∧ i < 4 := ⟨by omega, by omega⟩
   have hF2 := QI hI14 hi.1 (by omega) hI23
   refine Aa ?_
   refine AB (.t4 0 2 5 7) ?_
   refine AA (Ao (Af (Gs (Gm rfl (Ga rfl (Gn (.t5 0 2 3 5 7) (Gs ?_)))))))
   refine Gm rfl (Gm rfl (Gt (BT rfl) (Gt (Ah GP rfl) ?_)))
   refine Gt (AR PL rfl rfl (by first | omega | exact hi.1 | exact hi.2) (by first | omega | exact hi.1 | exact hi.2)) ?_
   refine Ga rfl (Gn (.t5 0 2 4 5 7) (CG (Gm rfl (Gt (BT rfl) (Gt (Ah I9 rfl) ?_)))))
   refine Gt (AG rfl A3 .m0 ((AL.l1.comp (AU.ar (n := 4) A2.fl (by first | omega | exact hi))).comp A2.l0) rfl rfl) ?_
   refine Gt (Ae rfl rfl) (Gn (.t6 0 2 4 5 7 19) ?_)
   refine Gc (fun c3 => ?_) (fun c3 => ?_)
   ·
    have c3p := kz c3
    refine Bf (AX (Ai ?_))
    refine AB (.t4 0 2 5 7) ?_
    refine AA (AJ ?_)
    refine Gt (Av rfl rfl (IntWalk.i64_in _ (by first | omega | exact hi.1 | exact hi.2))) ?_
    refine Gm rfl ?_
    refine AQ (AB (.t4 0 2 5 7) ?_)
    refine IJ (i + 1) _ _ _ _ ?_ ?_ (.t4 2 7 0 5) (.refl _)
    · exact ⟨by omega, by omega, ((Ky hi.1 hi.2 hI23).trans (BB c3)).symm⟩
    · omega
   have c3p := kz c3
   refine Aa ?_
   refine AB (.t5 0 2 4 5 7) ?_
   refine AA ?_
   refine Be (.t (.t .h)) ?_
   refine Be (.t (.t .h)) ?_
   refine Be (.t (.t .h)) ?_
   refine QV (Lm := [_, _, _]) (fun (V3 : AL) (ls3 : Vector BD 4) => (A5 V3 ls3 ev2) = (A5 V2 ls2 ev2).set i ((A5 V2 ls2 ev2).at_ i).BX) (fun (V3 : AL) (ls3 : Vector BD 4) => []) (fun (V3 : AL) (ls3 : Vector BD 4) => [Ac.box b 101 (AL.enc V3), Ac.Dz (CH 9 (AL.Aw V3) ls3), Ac.own (AL.last V3) 56 16 (ev2.flatMap Ing.Event.enc)]) (.t5 0 2 4 5 7) rfl ?_ (fun V3 ls3 hC => ?_)
   ·
    refine FR (k := i) hi.1 hi.2 (fun sv sl hsv hlv hln => ?_)
    refine BE (N := 17) [0, 0, 2, 6, 14, 0, 32, 96, 224, 480, 1022, 2046, 4094, 4094, 8191, 24575, 57343] mix (by kernel_rfl) rfl ?_
    refine Pf 0 rfl (AE rfl) (Pf 1 rfl (AE rfl) (Pf 2 rfl (BT rfl) (Pf 3 rfl (Ah Dw rfl) (Pf 4 rfl (AZ rfl Cy .m3 ((AU.BJ V2 hi.1 hi.2).comp A2.l4) rfl) (Pf 5 rfl (AE rfl) (Pf 6 rfl (BT rfl) (Pf 7 rfl (Ah Kj rfl) ?_)))))))
    refine Pf 8 rfl (Ah QN rfl) (Pf 9 rfl (AG rfl A3 .m3 (((AU.BJ V2 hi.1 hi.2).comp A2.l2).comp AP.l5) rfl rfl) ?_)
    refine An 10 rfl (by kernel_rfl) ?_
    refine BF rfl cw (.c rfl (.c rfl .n)) .n (NC _ _ _ (by rw [← hlv]; exact XY hF2 hi.1 hi.2)) (fun w hS => ⟨(Kn.own .m1) w hS, (Vn.own .m1) w hS⟩) (fun v1 B hv => ?_)
    rcases hv with ⟨y2, rfl, rfl⟩ | ⟨y3, y4, y5, y6, y7, rfl, y8, y9, rfl⟩
    ·
     refine Bp rfl ⟨?_, ?_⟩
     · exact (Pk (Pk (Pk (Pk (Pk (Pk (Pk (Pk (Pk (Po rfl (AE rfl) rfl rfl Aq))))))))))
     refine Pf 11 rfl (AE rfl) (Pf 12 rfl (AM rfl rfl) (Pf 13 rfl (AM rfl rfl) (Pf 14 rfl (BT rfl) (Pf 15 rfl (Ah Dw rfl) ?_))))
     refine An 16 rfl (by kernel_rfl) ?_
     refine AT (AK ((AU.BJ V2 hi.1 hi.2).comp A2.l4) rfl rfl rfl Fv rfl (.t (.t (.t .h)))) ?_
     refine BN rfl ⟨?_, ?_⟩
     · exact (Pk (Pk (Po rfl (AM rfl rfl) rfl rfl (Pk (Pk (Pk (Pk (Pk (Pk (Pk (Pk (Pk (Pk (Pk (Pk Aq)))))))))))))))
     refine A4 (by kernel_rfl) ?_
     refine AB (.t5 0 2 4 5 7) ?_
     refine B9 (.c .h (.c .h (.c .h (.c .h (.c .h .n))))) ?_
     refine Ru hi.1 hi.2 (by rfl) (by rfl) (by rfl) ?_
     refine Eb _ _ ?_ (.t5 0 2 4 5 7) (.refl _)
     · exact Eg hi.1 hi.2 hsv hlv (f := As.BX) (LV hln.2.1 y2)
    refine Bp rfl ⟨?_, ?_⟩
    · exact (Pk (Pk (Pk (Pk (Pk (Pk (Pk (Pk (Pk (Po rfl (AE rfl) rfl rfl Aq))))))))))
    refine Pf 11 rfl (AE rfl) (Pf 12 rfl (AM rfl rfl) (Pf 13 rfl (AM rfl rfl) (Pf 14 rfl (BT rfl) (Pf 15 rfl (Ah Dw rfl) ?_))))
    refine An 16 rfl (by kernel_rfl) ?_
    refine AT (AK ((AU.BJ V2 hi.1 hi.2).comp A2.l4) rfl rfl rfl Fv rfl (.t (.t (.t (.t .h))))) ?_
    refine BN rfl ⟨?_, ?_⟩
    · exact (Pk (Pk (Po rfl (AM rfl rfl) rfl rfl (Pk (Pk (Pk (Pk (Pk (Pk (Pk (Pk (Pk (Pk (Pk (Pk Aq)))))))))))))))
    refine A4 (by kernel_rfl) ?_
    refine AB (.t5 0 2 4 5 7) ?_
    refine B9 (.c .h (.c (.t .h) .n)) ?_
    refine bV y9 ?_
    refine B9 (.c (.t .h) (.c .h (.c .h (.c .h (.c .h .n))))) ?_
    refine Ru hi.1 hi.2 (by rfl) (by rfl) (by rfl) ?_
    refine Eb _ _ ?_ (.t5 0 2 4 5 7) (.refl _)
    · exact Eg hi.1 hi.2 hsv hlv (f := As.BX) (Yk hln.2.1 y3 _)
   refine Gs (Gm rfl (Gt (BT rfl) (Gt (Ah Dw rfl) (Gt (Ah K2 rfl) ?_))))
   refine Gt (AG rfl Dj .m0 (((AL.l1.comp (AU.ar (n := 4) A2.fl (by first | omega | exact hi))).comp A2.l4).comp Ay.l4) rfl rfl) ?_
   refine Gn (.t6 0 2 4 5 7 40) ?_
   refine Gc (fun c4 => ?_) (fun c4 => ?_)
   ·
    have c4p := kz c4
    refine Gs (Gm rfl (Gm rfl ?_))
    refine BF rfl Zz (.c rfl (.c rfl .n)) (.c .h (.c .h (.c .h .n))) (H7 _ V3 ls3 ev2 i _ _ hi (by rw [hC]; exact hF2.XW hi.1 hi.2) (by omega) (by omega)) (fun w hS => ⟨gl0.pull gm0 hS (.c .h (.c .h (.c .h .n))), gl1.pull gm1 hS (.c .h (.c .h (.c .h .n))), gl2.pull gm2 hS (.c .h (.c .h (.c .h .n))), gl3.pull gm3 hS (.c .h (.c .h (.c .h .n)))⟩) (fun v13 B hv => ?_)
    obtain ⟨y14, y15, y16, rfl, y17, rfl⟩ := hv
    refine Gn (.t3 0 5 7) (AJ (Ga rfl (AQ (AV (AA (AJ ?_))))))
    refine Gt (Av rfl rfl (IntWalk.i64_in _ (by first | omega | exact hi.1 | exact hi.2))) ?_
    refine Gm rfl ?_
    refine AQ (AB (.t4 0 2 5 7) ?_)
    refine IJ (i + 1) _ _ _ _ ?_ ?_ (.t4 2 7 0 5) (.refl _)
    · exact ⟨by omega, by omega, (((Ky hi.1 hi.2 hI23).trans ((AW c3).trans (BB (show _ = true from (Uo hi.1 hi.2 hC).symm.trans c4)))).trans (by rw [← hC, ← y17])).symm⟩
    · omega
   have c4p := kz c4
   refine Aa ?_
   refine AB (.t4 0 2 5 7) ?_
   refine AV (AA (AJ ?_))
   refine Gt (Av rfl rfl (IntWalk.i64_in _ (by first | omega | exact hi.1 | exact hi.2))) ?_
   refine Gm rfl ?_
   refine AQ (AB (.t4 0 2 5 7) ?_)
   refine IJ (i + 1) _ _ _ _ ?_ ?_ (.t4 2 7 0 5) (.refl _)
   · exact ⟨by omega, by omega, (((Ky hi.1 hi.2 hI23).trans ((AW c3).trans (AW (show _ = false from (Uo hi.1 hi.2 hC).symm.trans c4)))).trans (by rw [← hC])).symm⟩
   · omega
  have c2p := kz c2
  obtain rfl : i = 4 := by omega
  have hE : (A5 V1 ls1 ev1).Ce 4 = ((A5 V2 ls2 ev2), c) := hI23.symm
  refine Bf (AX (AX (Ai ?_)))
  refine AB (.t3 0 2 5) ?_
  refine AA (Gs (Gm rfl (Gt (BV rfl) (Gn (.t3 0 5 46) ?_))))
  refine Gc (fun c5 => ?_) (fun c5 => ?_)
  ·
   have c5p := kz c5
   refine Ab (AS (AD (AD (AS ?_))))
   refine AY rfl .n ?_
   intro w1 hS
   have hS := (hS.perm (Ax.perm (.c .h (.c .h (.c .h .n))))).A1
   refine ⟨_, ⟨V2, ls2, ev2, rfl, ?ga1, rfl⟩, hS⟩
   case ga1 => exact (hI13.trans ((Oi hI11 (by omega)).trans ((BB (show (!((A5 V1 ls1 ev1).Ce 4).2) = true by rw [hE]; exact c5)).trans (by rw [hE])))).symm
  have c5p := kz c5
  refine Aa ?_
  refine AB (.t2 0 5) ?_
  refine AV (AA (AJ ?_))
  refine Gt (Av rfl rfl (IntWalk.i64_in _ (by first | omega | exact hi.1 | exact hi.2))) ?_
  refine Gm rfl ?_
  refine AQ (AB (.t2 0 5) ?_)
  refine DA (k + 1) _ _ _ ?_ ?_ (.t2 5 0) (.refl _)
  · exact ⟨by omega, by omega, hI13.trans ((Oi hI11 (by omega)).trans ((AW (show (!((A5 V1 ls1 ev1).Ce 4).2) = false by rw [hE]; exact c5)).trans (by rw [hE]))), (QI hI14 (by omega) (by omega) hI23).mono (by omega) (by omega)⟩
  · omega
 have c1p := kz c1
 refine Bf (AX (AX (Ai ?_)))
 refine Bk rfl .n ?_
 intro w1 hS
 have hS := (hS.perm (Ax.perm (.c .h (.c .h (.c .h .n))))).A1
 refine ⟨_, ⟨V1, ls1, ev1, rfl, ?ga2, rfl⟩, hS⟩
 case ga2 => exact (hI13.trans (by rw [show (5 - k).toNat = 0 by omega]; rfl)).symm
theorem PN (b : Nat) (V : AL) (ls : Vector BD 4) (ev : List Ing.Event) (d : Int) (n m : Nat) (hF : AI.Fit (A5 V ls ev) n m) (hn : n ≤ 500000) (hm : m ≤ 500000) : FL Tryz.prog 60 #[.pointer (some ⟨b, 0, none⟩), .int .i64 d] [Ac.box b 101 (AL.enc V), Ac.Dz (CH 9 (AL.Aw V) ls), Ac.own (AL.last V) 56 16 ((ev).flatMap Ing.Event.enc)] (fun w => (GV 2 Fu w ∧ 2 ∉ Cd [Ac.box b 101 (AL.enc V), Ac.Dz (CH 9 (AL.Aw V) ls), Ac.own (AL.last V) 56 16 ((ev).flatMap Ing.Event.enc)]) ∧ (GV 0 AH.DG w ∧ 0 ∉ Cd [Ac.box b 101 (AL.enc V), Ac.Dz (CH 9 (AL.Aw V) ls), Ac.own (AL.last V) 56 16 ((ev).flatMap Ing.Event.enc)]) ∧ (Gl 7 w ∧ 7 ∉ Cd [Ac.box b 101 (AL.enc V), Ac.Dz (CH 9 (AL.Aw V) ls), Ac.own (AL.last V) 56 16 ((ev).flatMap Ing.Event.enc)]) ∧ (Gl 8 w ∧ 8 ∉ Cd [Ac.box b 101 (AL.enc V), Ac.Dz (CH 9 (AL.Aw V) ls), Ac.own (AL.last V) 56 16 ((ev).flatMap Ing.Event.enc)])) (fun v B => ∃ V' ls' ev', v = .tuple #[] ∧ A5 V' ls' ev' = AI.Mn (A5 V ls ev) d ∧ B = [Ac.box b 101 (AL.enc V'), Ac.Dz (CH 9 (AL.Aw V') ls'), Ac.own (AL.last V') 56 16 ((ev').flatMap Ing.Event.enc)]) := by
 intro w hS0 hH
 obtain ⟨⟨gl0, gm0⟩, ⟨gl1, gm1⟩, ⟨gl2, gm2⟩, ⟨gl3, gm3⟩⟩ := hH
 refine Al _ _ Tryz.func60 rfl rfl rfl (hS0) ?_
 refine CG (Gm rfl (AQ (AA (Af ?_))))
 refine Bo (.t3 8 0 1) ?_
 refine Be (.t (.t .h)) ?_
 refine Be (.t (.t .h)) ?_
 refine Be (.t (.t .h)) ?_
 refine IU (fun (i : Int) (V1 : AL) (ls1 : Vector BD 4) (ev1 : List Ing.Event) => 0 ≤ i ∧ i ≤ 4 ∧ (A5 V1 ls1 ev1) = AI.turns (A5 V ls ev) i.toNat) (fun (i : Int) (V1 : AL) (ls1 : Vector BD 4) (ev1 : List Ing.Event) => (4 - i).toNat) (fun (i : Int) (V1 : AL) (ls1 : Vector BD 4) (ev1 : List Ing.Event) => [(8, .int .i64 i)]) (fun (i : Int) (V1 : AL) (ls1 : Vector BD 4) (ev1 : List Ing.Event) => [Ac.box b 101 (AL.enc V1), Ac.Dz (CH 9 (AL.Aw V1) ls1), Ac.own (AL.last V1) 56 16 (ev1.flatMap Ing.Event.enc)]) (0) (V) (ls) (ev) ?_ rfl rfl (fun i V1 ls1 ev1 hI1 => ?_)
 · exact ⟨by omega, by omega, rfl⟩
 obtain ⟨hI11, hI12, hI13⟩ := hI1
 refine Gs (Gt (A8 rfl rfl) (AQ (AA (Ao ?_))))
 refine Gc (fun c1 => ?_) (fun c1 => ?_)
 ·
  have c1p := kz c1
  have hi : 0 ≤ i ∧ i < 4 := ⟨by omega, by omega⟩
  refine Aa ?_
  refine AB (.t3 0 1 8) ?_
  refine AA (Ao (Af (Gs (Gm rfl (Ga rfl (Gn (.t4 0 1 4 8) (AJ ?_)))))))
  refine Gm rfl (Gm rfl (Gm rfl (Gt (BT rfl) (Gt (Ah GP rfl) ?_))))
  refine Gt (AR PL rfl rfl (by first | omega | exact hi.1 | exact hi.2) (by first | omega | exact hi.1 | exact hi.2)) ?_
  refine BF rfl cX (.c rfl (.c rfl .n)) (.c .h (.c .h (.c .h .n))) (RB _ V1 ls1 ev1 i (n + 44) (m + 44) hi (by rw [hI13]; exact (AI.KM hF i.toNat (by omega)).mono (by omega) (by omega)) (by omega) (by omega)) (fun w hS => ⟨gl0.pull gm0 hS (.c .h (.c .h (.c .h .n))), gl1.pull gm1 hS (.c .h (.c .h (.c .h .n))), gl2.pull gm2 hS (.c .h (.c .h (.c .h .n))), gl3.pull gm3 hS (.c .h (.c .h (.c .h .n)))⟩) (fun v1 B hv => ?_)
  obtain ⟨y2, y3, y4, rfl, y5, rfl⟩ := hv
  refine AQ (AB (.t3 0 1 8) ?_)
  refine AV (AA (AJ ?_))
  refine Gt (Av rfl rfl (IntWalk.i64_in _ (by first | omega | exact hi.1 | exact hi.2))) ?_
  refine Gm rfl ?_
  refine AQ (AB (.t3 0 1 8) ?_)
  refine DA (i + 1) _ _ _ ?_ ?_ (.t3 8 0 1) (.refl _)
  · exact ⟨by omega, by omega, y5.trans (by rw [hI13]; exact (Te hI11).symm)⟩
  · omega
 have c1p := kz c1
 obtain rfl : i = 4 := by omega
 have hF1 := AI.KM hF 4 (Nat.le_refl 4)
 rw [show (4 : Nat) = (4 : Int).toNat from rfl, ← hI13] at hF1
 have hrl : (AF.CU V1.w d).2.1.length ≤ 78 := AF.QB hF1.Fl.H4 d
 have hrs := AF.Kv (draw := d) hF1.Fl
 have hF4 := ((hF1.land hrs.1).Gu hrs.2).mono (Nat.add_le_add_left hrl _) (Nat.add_le_add_left hrl _)
 refine Bf (AX (AX (Ai ?_)))
 refine AB (.t2 0 1) ?_
 refine AA (Gs (Gm rfl (Gt (BT rfl) (Gt (Ah EI rfl) (Gt (AZ rfl BW .m0 AL.l0 rfl) (Gm rfl ?_))))))
 refine BF rfl dK (.c rfl (.c rfl .n)) .n (L4 V1.w d hF1.Fl.H4) (fun w hS => gl1.pull gm1 hS .n) (fun v6 B hv => ?_)
 obtain ⟨y7, rfl, y8, rfl⟩ := hv
 refine Gm rfl (Gt (AM rfl rfl) (Gt (AM rfl rfl) (Gt (AM rfl rfl) ?_)))
 refine BH rfl M9 rfl (fun b1 => ?_)
 refine AT (AK (AU.id AH.fl.len AH.fl.one) rfl rfl rfl D6 rfl .h) ?_
 refine Ga rfl (Ga rfl (Gn (.t3 0 5 6) (Gs (Gm rfl (Gt (AZ rfl BW .m0 (AU.id AH.fl.len AH.fl.one) rfl) (Gt (BT rfl) (Gt (Ah EI rfl) ?_)))))))
 refine AT (AK AL.l0 rfl rfl rfl D6 rfl (.t (.t .h))) ?_
 refine Gn (.t2 0 6) (Gs (Gm rfl (Gm rfl ?_)))
 refine BF rfl U5 (.c rfl (.c rfl .n)) (.c (.t (.t .h)) (.c (.t (.t .h)) (.c (.t (.t .h)) (.c (.t .h) .n)))) (El _ { V1 with w := (AF.CU V1.w d).1 } ls1 ev1 _ (AF.CU V1.w d).2.1 _ (by assumption) (Gj hF1) (by omega) (Nat.le_trans hF1.last (by omega)) (fun e he c _ => hrs.2 e he)) (fun w hS => ⟨gl0.pull gm0 hS (.c (.t (.t .h)) (.c (.t (.t .h)) (.c (.t (.t .h)) (.c (.t .h) .n)))), gl1.pull gm1 hS (.c (.t (.t .h)) (.c (.t (.t .h)) (.c (.t (.t .h)) (.c (.t .h) .n))))⟩) (fun v10 B hv => ?_)
 obtain ⟨y11, y12, y13, rfl, y14, rfl⟩ := hv
 refine Gn (.t1 0) (AJ (Gm rfl ?_))
 refine BF rfl SB (.c rfl .n) (.c .h (.c .h (.c .h .n))) (Dq _ y11 y12 y13 _ _ (by rw [y14]; exact hF4) (by omega) (by omega)) (fun w hS => ⟨gl0.pull gm0 hS (.c .h (.c .h (.c .h .n))), gl1.pull gm1 hS (.c .h (.c .h (.c .h .n))), gl2.pull gm2 hS (.c .h (.c .h (.c .h .n))), gl3.pull gm3 hS (.c .h (.c .h (.c .h .n)))⟩) (fun v15 B hv => ?_)
 obtain ⟨y16, y17, y18, rfl, y19, rfl⟩ := hv
 refine AQ ?_
 refine Bk rfl .n ?_
 intro w1 hS
 have hS := (hS.perm (Ax.perm (.c .h (.c .h (.c .h .n))))).A1
 refine ⟨_, ⟨y16, y17, y18, rfl, ?ga1, rfl⟩, hS⟩
 case ga1 => rw [y19, y14, PA]; show AI.BX (AI.Gu { (A5 V1 ls1 ev1) with w := (AF.CU ((A5 V1 ls1 ev1)).w d).1 } (AF.CU ((A5 V1 ls1 ev1)).w d).2.1) = _; rw [hI13]; rfl
theorem Fq (opt : Int) (w : World) : Ei Tryz.prog 73 #[.int .i64 opt] w fun v w' => v = .tuple #[.int .i64 (AP.place opt).1, .bool (AP.place opt).2.1, .bool (AP.place opt).2.2] ∧ CB w w' := by
 refine Al [] [] Tryz.func73 rfl rfl rfl (St.start w []) ?_
 refine Gs (Ga rfl (Ga rfl (Ga rfl (Gn (.t1 0) (CG (Gm rfl (Gn (.t1 5) ?_)))))))
 refine Af (Gs (Gt (Ae rfl rfl) (Ga rfl (Gn (.t2 5 6) ?_))))
 refine Gc (fun c1 => ?_) (fun c1 => ?_)
 ·
  refine Gs (Ga rfl (Ga rfl (Ga rfl (Gn (.t3 2 3 4) (Ab (AS (AD ?_)))))))
  refine AY rfl (.tmp rfl (.tmp rfl (.tmp rfl .n))) ?_
  intro w1 hS; refine ⟨?_, hS.Am⟩; simp only [AP.place, c1, ↓reduceIte, Bool.false_eq_true]; rfl
 refine Gs (Gt (Ae rfl rfl) (Ga rfl (Gn (.t2 5 8) ?_)))
 refine Gc (fun c2 => ?_) (fun c2 => ?_)
 ·
  refine Gs (Ga rfl (Ga rfl (Ga rfl (Gn (.t3 2 3 4) (Ab (AS (AD ?_)))))))
  refine AY rfl (.tmp rfl (.tmp rfl (.tmp rfl .n))) ?_
  intro w1 hS; refine ⟨?_, hS.Am⟩; simp only [AP.place, c1, c2, ↓reduceIte, Bool.false_eq_true]; rfl
 refine Gs (Gt (Ae rfl rfl) (Ga rfl (Gn (.t1 10) ?_)))
 refine Gc (fun c3 => ?_) (fun c3 => ?_)
 ·
  refine Gs (Ga rfl (Ga rfl (Ga rfl (Gn (.t3 2 3 4) (Ab (AS (AD ?_)))))))
  refine AY rfl (.tmp rfl (.tmp rfl (.tmp rfl .n))) ?_
  intro w1 hS; refine ⟨?_, hS.Am⟩; simp only [AP.place, c1, c2, c3, ↓reduceIte, Bool.false_eq_true]; rfl
 refine Aa ?_
 refine AB (.nil _) ?_
 refine AV (AA (Gs (Ga rfl (Ga rfl (Ga rfl (AQ (AA ?_)))))))
 refine Ab ?_
 refine AY rfl (.tmp rfl (.tmp rfl (.tmp rfl .n))) ?_
 intro w1 hS; refine ⟨?_, hS.Am⟩; simp only [AP.place, c1, c2, c3, ↓reduceIte, Bool.false_eq_true]; rfl
theorem F9 (X : AP) (w : World) : Ei Tryz.prog 55 #[.agg X.enc.toArray] w fun v w' => v = .bool X.Bg ∧ CB w w' := by
 refine Al [] [] Tryz.func55 rfl rfl rfl (St.start w []) ?_
 refine Gs ?_
 refine B4 rfl rfl rfl (fun b1 => ?_)
 refine Ga rfl (Gn (.t1 1) (CG (Gm rfl (AQ (AA (Af ?_))))))
 refine Bo (.t2 4 1) ?_
 refine Ci (fun (k : Int) => 0 ≤ k ∧ k ≤ 3 ∧ X.Bg = (B5 3 (fun i => !X.O6 i) (3 - k).toNat && (!(!decide (X.us.at 2 = 0) || !decide (X.Gb.at 0 = 0)) && X.P1))) (fun (k : Int) => (3 - k).toNat) (fun (k : Int) => [(4, .int .i64 k)]) (fun (k : Int) => []) (0) ?_ rfl rfl (fun k hI1 => ?_)
 · exact ⟨Int.le_refl _, by omega, rfl⟩
 obtain ⟨hI11, hI12, hI13⟩ := hI1
 refine Gs (Gt (A8 rfl rfl) (AQ (AA (Ao ?_))))
 refine Gc (fun c1 => ?_) (fun c1 => ?_)
 ·
  have c1p := kz c1
  rw [DU _ (by omega)] at hI13
  refine Aa ?_
  refine AB (.t2 1 4) ?_
  refine AA (Ao (Af (Gs (Gm rfl (Ga rfl (Gn (.t3 1 3 4) (Gs ?_)))))))
  refine Gm rfl (Gt (Ah LD rfl) ?_)
  refine Gt (AR Kz rfl rfl (by omega) (by omega)) ?_
  refine Gt (AG rfl A3 .m0 (AP.l3.comp (AU.ar (n := 3) Bv (by omega))) rfl rfl) ?_
  refine Gt (A8 rfl rfl) (Gm rfl (Ba 12 rfl rfl (fun q => AE rfl) (Ba 12 rfl rfl (fun q => Ah LD rfl) ?_)))
  refine Ba 12 rfl rfl (fun q => by have q1 := q; (try simp at q1); exact AR Kz (cF rfl q) (cF rfl q) (by omega) (by omega)) ?_
  refine Ba 12 rfl rfl (fun q => by have q1 := q; (try simp at q1); exact AG (cF rfl q) A3 .m0 (AP.l3.comp (AU.ar (n := 3) Bv (by omega))) rfl rfl) ?_
  refine Ba 12 rfl rfl (fun q => Cj (cF rfl q) rfl) ?_
  refine Gt (BR rfl rfl (fun h => by rw [h]; rfl)) ?_
  refine Gm rfl (Ba 19 rfl rfl (fun q => AE rfl) (Ba 19 rfl rfl (fun q => Ah J1 rfl) ?_))
  refine Ba 19 rfl rfl (fun q => by have q1 := q; (try simp at q1); exact AR Kz (cF rfl q) (cF rfl q) (by omega) (by omega)) ?_
  refine Ba 19 rfl rfl (fun q => by have q1 := q; (try simp at q1); exact AG (cF rfl q) A3 .m0 (AP.l4.comp (AU.ar (n := 3) Bv (by omega))) rfl rfl) ?_
  refine Ba 19 rfl rfl (fun q => A8 (cF rfl q) rfl) ?_
  refine Gt (BR rfl rfl (fun h => by rw [h]; rfl)) ?_
  refine Gm rfl (Ba 26 rfl rfl (fun q => AE rfl) (Ba 26 rfl rfl (fun q => Ah J1 rfl) ?_))
  refine Ba 26 rfl rfl (fun q => by have q1 := q; (try simp at q1); exact AR Kz (cF rfl q) (cF rfl q) (by omega) (by omega)) ?_
  refine Ba 26 rfl rfl (fun q => by have q1 := q; (try simp at q1); exact AG (cF rfl q) A3 .m0 (AP.l4.comp (AU.ar (n := 3) Bv (by omega))) rfl rfl) ?_
  refine Ba 26 rfl rfl (fun q => Cj (cF rfl q) rfl) ?_
  refine Gt (BR rfl rfl (fun h => by rw [h]; rfl)) ?_
  refine Gn (.t3 1 4 32) ?_
  refine Gc (fun c2 => ?_) (fun c2 => ?_)
  ·
   refine Gs (Ga rfl (Gn (.t1 2) (Ab (AS (AD (AD (AS ?_)))))))
   refine AD ?_
   refine AY rfl (.tmp rfl .n) ?_
   intro w1 hS; refine ⟨congrArg Value.bool ?_, hS.Am⟩; rw [hI13, AP.O6, c2]; rfl
  have c2p := kz c2
  refine Aa ?_
  refine AB (.t2 1 4) ?_
  refine AV (AA (AJ ?_))
  refine Gt (Av rfl rfl (IntWalk.i64_in _ (by omega))) ?_
  refine Gm rfl ?_
  refine AQ (AB (.t2 1 4) ?_)
  refine B8 (k + 1) ?_ ?_ (.t2 4 1) (.refl _)
  · exact ⟨by omega, by omega, by rw [hI13, AP.O6, c2]; rfl⟩
  · omega
 have c1p := kz c1
 obtain rfl : k = 3 := by omega
 refine Bf (AX (AX (Ai ?_)))
 refine AB (.t1 1) ?_
 refine AA (CG (Gt (Ah LD rfl) ?_))
 refine Gt (AR Kz rfl rfl (by decide) (by decide)) ?_
 refine Gt (AG rfl A3 .m0 (AP.l3.comp (AU.arr (n := 3) Bv (by decide) (by decide))) rfl rfl) ?_
 refine Gt (CX rfl rfl) (Gm rfl (Ba 38 rfl rfl (fun q => Ah J1 rfl) ?_))
 refine Ba 38 rfl rfl (fun q => AR Kz (cF rfl q) rfl (by decide) (by decide)) ?_
 refine Ba 38 rfl rfl (fun q => AG (cF rfl q) A3 .m0 (AP.l4.comp (AU.arr (n := 3) Bv (by decide) (by decide))) rfl rfl) ?_
 refine Ba 38 rfl rfl (fun q => CX (cF rfl q) rfl) ?_
 refine Gt (BR rfl rfl (fun h => by rw [h]; rfl)) ?_
 refine Gn (.t2 1 43) ?_
 refine Gc (fun c3 => ?_) (fun c3 => ?_)
 ·
  refine Gs (Ga rfl (Gn (.t1 2) (Ab (AD ?_))))
  refine AY rfl (.tmp rfl .n) ?_
  intro w1 hS; refine ⟨congrArg Value.bool ?_, hS.Am⟩; rw [hI13, c3]; rfl
 refine Aa ?_
 refine AB (.t1 1) ?_
 refine AA (Gs (Gt (Ah Fm rfl) (Gt (AG rfl A3 .m0 AP.l0 rfl rfl) (Gt (CN rfl rfl) (Gm rfl (Bi 47 rfl rfl (fun q => Ah Fm rfl) (Bi 47 rfl rfl (fun q => AG (Bh rfl q) A3 .m0 AP.l0 rfl rfl) ?_)))))))
 refine Bi 47 rfl rfl (fun q => IG (Bh rfl q) rfl) (Gt (BK rfl rfl (fun h => h)) (Gm rfl (Bi 52 rfl rfl (fun q => Ah Fm rfl) (Bi 52 rfl rfl (fun q => AG (Bh rfl q) A3 .m0 AP.l0 rfl rfl) (Bi 52 rfl rfl (fun q => Ae (Bh rfl q) rfl) (Bi 52 rfl rfl (fun q => Ah Kk rfl) (Bi 52 rfl rfl (fun q => AG (Bh rfl q) A3 .m0 AP.l1 rfl rfl) ?_)))))))
 refine Bi 52 rfl rfl (fun q => CX (Bh rfl q) rfl) (Bi 52 rfl rfl (fun q => Jv Tryz.underlying4 (Bh rfl q) (Bh rfl q)) (Gt (BK rfl rfl (fun h => h)) (Gm rfl (Bi 61 rfl rfl (fun q => Ah Kk rfl) (Bi 61 rfl rfl (fun q => AG (Bh rfl q) A3 .m0 AP.l1 rfl rfl) (Bi 61 rfl rfl (fun q => Ae (Bh rfl q) rfl) (Bi 61 rfl rfl (fun q => AE (Bh rfl q)) ?_)))))))
 refine C1 (t := 65) rfl rfl rfl (fun qc q => Ah Kk rfl) ?_
 refine C1 (t := 65) rfl rfl rfl (fun qc q => AG (Bh rfl (by rw [qc, q]; rfl)) A3 .m0 AP.l1 rfl rfl) ?_
 refine C1 (t := 65) rfl rfl rfl (fun qc q => CN (Bh rfl (by rw [qc, q]; rfl)) rfl) ?_
 refine C1 (t := 65) rfl rfl rfl (fun qc q => AE (Bh rfl (by rw [qc, q]; rfl))) ?_
 refine Cu (t := 69) rfl rfl rfl (fun qc q => Ah Kk rfl) ?_
 refine Cu (t := 69) rfl rfl rfl (fun qc q => AG (Bh rfl (by rw [qc, q]; rfl)) A3 .m0 AP.l1 rfl rfl) ?_
 refine Cu (t := 69) rfl rfl rfl (fun qc q => IG (Bh rfl (by rw [qc, q]; rfl)) rfl) ?_
 refine C1 (t := 65) rfl rfl rfl (fun qc q => BK (Bh rfl (by rw [qc, q]; rfl)) rfl (fun h => by rw [qc, q, h]; rfl)) ?_
 refine Bi 61 rfl rfl (fun q => BR (Bh rfl q) rfl (fun h => by rw [q, h]; rfl)) ?_
 refine Gt (BK rfl rfl (fun h => h)) (Gm rfl (Bi 76 rfl rfl (fun q => Ah Gw rfl) (Bi 76 rfl rfl (fun q => AG (Bh rfl q) CV .m0 AP.l2 rfl rfl) (Bi 76 rfl rfl (fun q => BI rfl Tryz.underlying9 (Bh rfl q)) (Bi 76 rfl rfl (fun q => IG (Bh rfl q) rfl) (Gt (BK rfl rfl (fun h => h)) (Gm rfl ?_)))))))
 refine Bi 82 rfl rfl (fun q => Ah Fm rfl) (Bi 82 rfl rfl (fun q => AG (Bh rfl q) A3 .m0 AP.l0 rfl rfl) (Bi 82 rfl rfl (fun q => CN (Bh rfl q) rfl) (Bi 82 rfl rfl (fun q => AE (Bh rfl q)) ?_)))
 refine C1 (t := 86) rfl rfl rfl (fun qc q => Ah Gw rfl) ?_
 refine C1 (t := 86) rfl rfl rfl (fun qc q => AG (Bh rfl (by rw [qc, q]; rfl)) CV .m0 AP.l2 rfl rfl) ?_
 refine C1 (t := 86) rfl rfl rfl (fun qc q => Bw (Bh rfl (by rw [qc, q]; rfl)) rfl) ?_
 refine Bi 82 rfl rfl (fun q => BR (Bh rfl q) rfl (fun h => by rw [q, h]; rfl)) ?_
 refine Gt (BK rfl rfl (fun h => h)) (Gm rfl (Bi 92 rfl rfl (fun q => Ah QN rfl) (Bi 92 rfl rfl (fun q => AG (Bh rfl q) A3 .m0 AP.l5 rfl rfl) (Bi 92 rfl rfl (fun q => CN (Bh rfl q) rfl) (Gt (BK rfl rfl (fun h => h)) (Gm rfl (Bi 97 rfl rfl (fun q => Ah QN rfl) ?_)))))))
 refine Bi 97 rfl rfl (fun q => AG (Bh rfl q) A3 .m0 AP.l5 rfl rfl) (Bi 97 rfl rfl (fun q => IG (Bh rfl q) rfl) (Gt (BK rfl rfl (fun h => h)) (Ga rfl (Gn (.t1 2) (Ab ?_)))))
 refine AY rfl (.tmp rfl .n) ?_
 intro w1 hS; refine ⟨congrArg Value.bool ?_, hS.Am⟩; rw [hI13, c3]; rfl
theorem C0 (verb opt : Int) (h0 : 0 ≤ verb ∧ verb ≤ 255) (h1 : 0 ≤ opt ∧ opt ≤ 255) (w : World) : Ei Tryz.prog 74 #[.int .i64 verb, .int .i64 opt] w fun v w' => v = BS (AP.WA verb opt) ∧ CB w w' := by
 refine Al [] [] Tryz.func74 rfl rfl rfl (St.start w []) ?_
 refine Gs (Ga rfl (Gn (.t2 0 1) (Gs (Gm rfl ?_))))
 refine Gt (Ov Tryz.underlying5 Tryz.underlying3 rfl (IntWalk.u8_in _ (by omega))) ?_
 refine Gm rfl ?_
 refine Gt (Ov Tryz.underlying5 Tryz.underlying3 rfl (IntWalk.u8_in _ (by omega))) ?_
 refine WN (cs := B3 (n := 3) ZR (Vector.replicate 3 default)) rfl Tryz.underlying105 VT Zd (by decide) (by decide) (by kernel_rfl) (.cons (AU.arr (n := 3) (i := 0) cP (by decide) (by decide)) rfl rfl rfl (.cons (AU.arr (n := 3) (i := 1) cP (by decide) (by decide)) rfl rfl rfl (.cons (AU.arr (n := 3) (i := 2) cP (by decide) (by decide)) rfl rfl rfl .nil))) ((Ha cP).len _) (fun b1 => ?_)
 refine Gt (OW (s := AP.WA verb opt) (by rw [show (AP.WA verb opt).flatMap DQ = [.int .u8 255, .int .u8 verb, .int .u8 opt] from by simp [AP.WA, DQ, TE h0.1 h0.2, TE h1.1 h1.2]]; rfl) Tryz.underlying105 Tryz.underlying9 Tryz.underlying5 rfl (Kn.own .m0)) ?_
 refine Ga rfl (Gn (.t1 4) (Ab ?_))
 refine AY rfl (.tmp rfl .n) ?_
 intro w1 hS; refine ⟨?_, hS.Am⟩; rfl
theorem LY (X : AP) (opt : Int) (w : World) : Ei Tryz.prog 80 #[.agg X.enc.toArray, .int .i64 opt] w fun v w' => v = .tuple #[.agg (X.DK opt).1.enc.toArray, BS (X.DK opt).2.1, .int .i64 (X.DK opt).2.2] ∧ CB w w' := by
 refine Al [] [] Tryz.func80 rfl rfl rfl (St.start w []) ?_
 refine Gs ?_
 refine B4 rfl rfl rfl (fun b1 => ?_)
 refine BH rfl Zb rfl (fun b2 => ?_)
 refine Ga rfl (Ga rfl (Gn (.t3 1 2 4) (Gs (Gm rfl ?_))))
 refine BA rfl Z7 (.c rfl .n) (fun w hS => Fq _ w) ?_
 refine Gm rfl (Gt (AM rfl rfl) (Gt (AM rfl rfl) (Gt (AM rfl rfl) (Ga rfl (Ga rfl (Ga rfl (Gn (.t5 1 2 4 7 8) ?_)))))))
 refine Ao (Af (Gs (Gt (AZ rfl D2 .m1 (AU.id AP.fl.len AP.fl.one) rfl) ?_)))
 refine BA rfl Zj (.c rfl .n) (fun w hS => F9 _ w) ?_
 refine Gt (BV rfl) (Ga rfl (Gn (.t6 1 2 4 7 8 16) ?_))
 refine Gc (fun c1 => ?_) (fun c1 => ?_)
 ·
  refine Gs (Gt (AZ rfl D2 .m1 (AU.id AP.fl.len AP.fl.one) rfl) ?_)
  refine AT (AK (AU.id AP.fl.len AP.fl.one) rfl rfl rfl KS rfl .h) ?_
  refine Ga rfl (Ga rfl (Gn (.t3 4 5 6) (Ab (AS (AD ?_)))))
  refine AY rfl (.cell rfl .m0 (.inl ⟨(by rw [AP.fl.len]; exact D2), rfl⟩) (.tmp rfl (.tmp rfl .n))) ?_
  intro w1 hS; refine ⟨?_, hS.Am⟩; simp only [AP.DK, c1, ↓reduceIte, Bool.false_eq_true]; rfl
 have c1p := kz c1
 refine Gs (Gm rfl (Gt (BV rfl) (Ga rfl (Gn (.t5 1 2 4 7 21) ?_))))
 refine Gc (fun c2 => ?_) (fun c2 => ?_)
 ·
  refine Gs (Gt (AZ rfl D2 .m1 (AU.id AP.fl.len AP.fl.one) rfl) ?_)
  refine AT (AK (AU.id AP.fl.len AP.fl.one) rfl rfl rfl KS rfl .h) ?_
  refine Ga rfl (Ga rfl (Gn (.t3 4 5 6) (Ab (AS (AD ?_)))))
  refine AY rfl (.cell rfl .m0 (.inl ⟨(by rw [AP.fl.len]; exact D2), rfl⟩) (.tmp rfl (.tmp rfl .n))) ?_
  intro w1 hS; refine ⟨?_, hS.Am⟩; simp only [AP.DK, c1, c2, ↓reduceIte, Bool.false_eq_true]; rfl
 have c2p := kz c2
 have hk := AP.Nw (opt := opt) (by simpa using c2)
 have hk1 : 0 ≤ (AP.place opt).1 ∧ (AP.place opt).1 < 3 := by rcases hk with ⟨_, e⟩ | ⟨_, e⟩ <;> rw [e] <;> decide
 have ho : 0 ≤ opt ∧ opt ≤ 255 := by rcases hk with ⟨e, _⟩ | ⟨e, _⟩ <;> omega
 refine Gs (Gm rfl (Gt (Ah LD rfl) ?_))
 refine Gt (AR Kz rfl rfl (by omega) (by omega)) ?_
 refine Gt (AG rfl A3 .m1 (AP.l3.comp (AU.ar (n := 3) Bv (by omega))) rfl rfl) ?_
 refine Gt (CX rfl rfl) (Ga rfl (Gn (.t5 1 2 4 7 25) ?_))
 refine Gc (fun c3 => ?_) (fun c3 => ?_)
 ·
  refine Gs (Gt (AZ rfl D2 .m1 (AU.id AP.fl.len AP.fl.one) rfl) ?_)
  refine AT (AK (AU.id AP.fl.len AP.fl.one) rfl rfl rfl KS rfl .h) ?_
  refine Ga rfl (Ga rfl (Gn (.t3 4 5 6) (Ab (AS (AD ?_)))))
  refine AY rfl (.cell rfl .m0 (.inl ⟨(by rw [AP.fl.len]; exact D2), rfl⟩) (.tmp rfl (.tmp rfl .n))) ?_
  intro w1 hS; refine ⟨?_, hS.Am⟩; simp only [AP.DK, c1, c2, c3, ↓reduceIte, Bool.false_eq_true]; rfl
 have c3p := kz c3
 refine Aa ?_
 refine AB (.t4 1 2 4 7) ?_
 refine AV (AA (Gs (Gm rfl (Gt (Ah LD rfl) ?_))))
 refine Gt (AR Kz rfl rfl (by omega) (by omega)) ?_
 refine AT (AK (AP.l3.comp (AU.ar (n := 3) Bv (by omega))) rfl rfl rfl C5 rfl (.t .h)) ?_
 refine Gn (.t3 1 2 4) (Ao ?_)
 refine BE (N := 6) [0, 0, 2, 7, 15, 31] mix (by kernel_rfl) rfl ?_
 refine Pf 0 rfl (AZ rfl D2 .m1 (AU.id AP.fl.len AP.fl.one) rfl) (Pf 1 rfl (AE rfl) ?_)
 refine BZ 2 rfl rfl (by kernel_rfl) (Lb (K9 (D7 SV (.c rfl (.c rfl .n)) (fun w hS => C0 _ _ (by first | assumption | omega) (by first | assumption | omega) w)))) ?_
 refine An 3 rfl (by kernel_rfl) ?_
 refine AT (AK (AU.id AP.fl.len AP.fl.one) rfl rfl rfl KS rfl .h) ?_
 refine BN rfl ⟨?_, ?_⟩
 · exact (Pk (Pk (Pk Aq)))
 refine Pf 4 rfl (A0 rfl) (Pf 5 rfl (A0 rfl) ?_)
 refine A4 (by kernel_rfl) ?_
 refine AB (.t3 4 5 6) ?_
 refine AA (Ab ?_)
 refine AY rfl (.cell rfl .m0 (.inl ⟨(by rw [AP.fl.len]; exact D2), rfl⟩) (.tmp rfl (.tmp rfl .n))) ?_
 intro w1 hS; refine ⟨?_, hS.Am⟩; simp only [AP.DK, c1, c2, c3, ↓reduceIte, Bool.false_eq_true]; rfl
theorem M5 (X : AP) (opt : Int) (w : World) : Ei Tryz.prog 81 #[.agg X.enc.toArray, .int .i64 opt] w fun v w' => v = .tuple #[.agg (X.Ask opt).1.enc.toArray, BS (X.Ask opt).2.1, .int .i64 (X.Ask opt).2.2] ∧ CB w w' := by
 refine Al [] [] Tryz.func81 rfl rfl rfl (St.start w []) ?_
 refine Gs ?_
 refine B4 rfl rfl rfl (fun b1 => ?_)
 refine BH rfl Zb rfl (fun b2 => ?_)
 refine Ga rfl (Ga rfl (Gn (.t3 1 2 4) (Gs (Gm rfl ?_))))
 refine BA rfl Z7 (.c rfl .n) (fun w hS => Fq _ w) ?_
 refine Gm rfl (Gt (AM rfl rfl) (Gt (AM rfl rfl) (Gt (AM rfl rfl) (Ga rfl (Ga rfl (Ga rfl (Gn (.t5 1 2 4 7 9) ?_)))))))
 refine Ao (Af (Gs (Gt (AZ rfl D2 .m1 (AU.id AP.fl.len AP.fl.one) rfl) ?_)))
 refine BA rfl Zj (.c rfl .n) (fun w hS => F9 _ w) ?_
 refine Gt (BV rfl) (Ga rfl (Gn (.t6 1 2 4 7 9 16) ?_))
 refine Gc (fun c1 => ?_) (fun c1 => ?_)
 ·
  refine Gs (Gt (AZ rfl D2 .m1 (AU.id AP.fl.len AP.fl.one) rfl) ?_)
  refine AT (AK (AU.id AP.fl.len AP.fl.one) rfl rfl rfl KS rfl .h) ?_
  refine Ga rfl (Ga rfl (Gn (.t3 4 5 6) (Ab (AS (AD ?_)))))
  refine AY rfl (.cell rfl .m0 (.inl ⟨(by rw [AP.fl.len]; exact D2), rfl⟩) (.tmp rfl (.tmp rfl .n))) ?_
  intro w1 hS; refine ⟨?_, hS.Am⟩; simp only [AP.Ask, c1, ↓reduceIte, Bool.false_eq_true]; rfl
 have c1p := kz c1
 refine Gs (Gm rfl (Gt (BV rfl) (Ga rfl (Gn (.t5 1 2 4 7 21) ?_))))
 refine Gc (fun c2 => ?_) (fun c2 => ?_)
 ·
  refine Gs (Gt (AZ rfl D2 .m1 (AU.id AP.fl.len AP.fl.one) rfl) ?_)
  refine AT (AK (AU.id AP.fl.len AP.fl.one) rfl rfl rfl KS rfl .h) ?_
  refine Ga rfl (Ga rfl (Gn (.t3 4 5 6) (Ab (AS (AD ?_)))))
  refine AY rfl (.cell rfl .m0 (.inl ⟨(by rw [AP.fl.len]; exact D2), rfl⟩) (.tmp rfl (.tmp rfl .n))) ?_
  intro w1 hS; refine ⟨?_, hS.Am⟩; simp only [AP.Ask, c1, c2, ↓reduceIte, Bool.false_eq_true]; rfl
 have c2p := kz c2
 have hk := AP.K8 (opt := opt) (by simpa using c2)
 have hk1 : 0 ≤ (AP.place opt).1 ∧ (AP.place opt).1 < 3 := by rcases hk with ⟨_, e⟩ | ⟨_, e⟩ <;> rw [e] <;> decide
 have ho : 0 ≤ opt ∧ opt ≤ 255 := by rcases hk with ⟨e, _⟩ | ⟨e, _⟩ <;> omega
 refine Gs (Gm rfl (Gt (Ah J1 rfl) ?_))
 refine Gt (AR Kz rfl rfl (by omega) (by omega)) ?_
 refine Gt (AG rfl A3 .m1 (AP.l4.comp (AU.ar (n := 3) Bv (by omega))) rfl rfl) ?_
 refine Gt (CX rfl rfl) (Ga rfl (Gn (.t5 1 2 4 7 25) ?_))
 refine Gc (fun c3 => ?_) (fun c3 => ?_)
 ·
  refine Gs (Gt (AZ rfl D2 .m1 (AU.id AP.fl.len AP.fl.one) rfl) ?_)
  refine AT (AK (AU.id AP.fl.len AP.fl.one) rfl rfl rfl KS rfl .h) ?_
  refine Ga rfl (Ga rfl (Gn (.t3 4 5 6) (Ab (AS (AD ?_)))))
  refine AY rfl (.cell rfl .m0 (.inl ⟨(by rw [AP.fl.len]; exact D2), rfl⟩) (.tmp rfl (.tmp rfl .n))) ?_
  intro w1 hS; refine ⟨?_, hS.Am⟩; simp only [AP.Ask, c1, c2, c3, ↓reduceIte, Bool.false_eq_true]; rfl
 have c3p := kz c3
 refine Aa ?_
 refine AB (.t4 1 2 4 7) ?_
 refine AV (AA (Gs (Gm rfl (Gt (Ah J1 rfl) ?_))))
 refine Gt (AR Kz rfl rfl (by omega) (by omega)) ?_
 refine AT (AK (AP.l4.comp (AU.ar (n := 3) Bv (by omega))) rfl rfl rfl C5 rfl (.t .h)) ?_
 refine Gn (.t3 1 2 4) (Ao ?_)
 refine BE (N := 6) [0, 0, 2, 7, 15, 31] mix (by kernel_rfl) rfl ?_
 refine Pf 0 rfl (AZ rfl D2 .m1 (AU.id AP.fl.len AP.fl.one) rfl) (Pf 1 rfl (AE rfl) ?_)
 refine BZ 2 rfl rfl (by kernel_rfl) (Lb (K9 (D7 SV (.c rfl (.c rfl .n)) (fun w hS => C0 _ _ (by first | assumption | omega) (by first | assumption | omega) w)))) ?_
 refine An 3 rfl (by kernel_rfl) ?_
 refine AT (AK (AU.id AP.fl.len AP.fl.one) rfl rfl rfl KS rfl .h) ?_
 refine BN rfl ⟨?_, ?_⟩
 · exact (Pk (Pk (Pk Aq)))
 refine Pf 4 rfl (A0 rfl) (Pf 5 rfl (A0 rfl) ?_)
 refine A4 (by kernel_rfl) ?_
 refine AB (.t3 4 5 6) ?_
 refine AA (Ab ?_)
 refine AY rfl (.cell rfl .m0 (.inl ⟨(by rw [AP.fl.len]; exact D2), rfl⟩) (.tmp rfl (.tmp rfl .n))) ?_
 intro w1 hS; refine ⟨?_, hS.Am⟩; simp only [AP.Ask, c1, c2, c3, ↓reduceIte, Bool.false_eq_true]; rfl
theorem Qr (b : Nat) (V : AL) (ls : Vector BD 4) (ev : List Ing.Event) (k : Int) (n m : Nat) (hk : 0 ≤ k ∧ k < 4) (hF : AI.Fit (A5 V ls ev) n m) (hn : n ≤ 500000) (hm : m ≤ 500000) : FL Tryz.prog 61 #[.pointer (some ⟨b, 0, none⟩), .pointer (some ⟨b, 165 + k.toNat * 22, none⟩)] [Ac.box b 101 (AL.enc V), Ac.Dz (CH 9 (AL.Aw V) ls), Ac.own (AL.last V) 56 16 ((ev).flatMap Ing.Event.enc)] (fun w => (GV 2 Fu w ∧ 2 ∉ Cd [Ac.box b 101 (AL.enc V), Ac.Dz (CH 9 (AL.Aw V) ls), Ac.own (AL.last V) 56 16 ((ev).flatMap Ing.Event.enc)]) ∧ (GV 0 AH.DG w ∧ 0 ∉ Cd [Ac.box b 101 (AL.enc V), Ac.Dz (CH 9 (AL.Aw V) ls), Ac.own (AL.last V) 56 16 ((ev).flatMap Ing.Event.enc)]) ∧ (Gl 7 w ∧ 7 ∉ Cd [Ac.box b 101 (AL.enc V), Ac.Dz (CH 9 (AL.Aw V) ls), Ac.own (AL.last V) 56 16 ((ev).flatMap Ing.Event.enc)]) ∧ (Gl 8 w ∧ 8 ∉ Cd [Ac.box b 101 (AL.enc V), Ac.Dz (CH 9 (AL.Aw V) ls), Ac.own (AL.last V) 56 16 ((ev).flatMap Ing.Event.enc)])) (fun v B => ∃ V' ls' ev', v = .tuple #[] ∧ A5 V' ls' ev' = AI.KP (A5 V ls ev) k ∧ B = [Ac.box b 101 (AL.enc V'), Ac.Dz (CH 9 (AL.Aw V') ls'), Ac.own (AL.last V') 56 16 ((ev').flatMap Ing.Event.enc)]) := by
 intro w hS0 hH
 obtain ⟨⟨gl0, gm0⟩, ⟨gl1, gm1⟩, ⟨gl2, gm2⟩, ⟨gl3, gm3⟩⟩ := hH
 refine Al _ _ Tryz.func61 rfl rfl rfl (hS0) ?_
 refine Ao ?_
 refine FR (k := k) hk.1 hk.2 (fun sv sl hsv hlv hln => ?_)
 refine AJ (Gm rfl (Gt (BC Vb VH rfl (.cons A2.l0 rfl rfl rfl (.cons A2.l1 rfl rfl rfl .nil))) (Gt (BT rfl) ?_)))
 refine AT (AK (AU.BJ V hk.1 hk.2) rfl rfl rfl TA rfl (.t (.t (.t .h)))) ?_
 refine Gn (.t2 0 1) (CG ?_)
 refine Gt (Es Tryz.underlying145 C5 bW rfl (.cons (AU.arr (n := 2) (i := 0) Bv (by decide) (by decide)) rfl rfl rfl (.cons (AU.arr (n := 2) (i := 1) Bv (by decide) (by decide)) rfl rfl rfl .nil))) ?_
 refine Gm rfl (AQ (AA (Af ?_)))
 refine Bo (.t4 12 0 1 11) ?_
 refine Be (.t (.t (.t .h))) ?_
 refine Dt (fun (j : Int) (t : AP) (g : Page.Pg) => 0 ≤ j ∧ j ≤ 2 ∧ t = (Ez j.toNat).1 ∧ g = (Ez j.toNat).2) (fun (j : Int) (t : AP) (g : Page.Pg) => (2 - j).toNat) (fun (j : Int) (t : AP) (g : Page.Pg) => [(12, .int .i64 j)]) (fun (j : Int) (t : AP) (g : Page.Pg) => [Ac.box b 101 (Jk V k (EM t g))]) (0) (default) (⟨0, false, [], false⟩) ?_ rfl rfl (fun j t g hI1 => ?_)
 · exact ⟨by omega, by omega, rfl, rfl⟩
 obtain ⟨hI11, hI12, hI13, hI14⟩ := hI1
 refine Gs (Gt (A8 rfl rfl) (AQ (AA (Ao ?_))))
 refine Gc (fun c1 => ?_) (fun c1 => ?_)
 ·
  have c1p := kz c1
  refine Aa ?_
  refine AB (.t4 0 1 11 12) ?_
  refine AA (Ao (Af (Gs ?_)))
  refine Gt (KL Bv Tryz.underlying145 C5 A3 rfl rfl (by first | omega | exact hk.1 | exact hk.2 | (have h1 := FW t (Dr j); have h2 := Hs (t.DK (Dr j)).1 (Dr j); dsimp only [Dr, EM] at *; (try simp only [List.length_nil]); omega)) (by first | omega | exact hk.1 | exact hk.2 | (have h1 := FW t (Dr j); have h2 := Hs (t.DK (Dr j)).1 (Dr j); dsimp only [Dr, EM] at *; (try simp only [List.length_nil]); omega)) rfl) ?_
  refine Ga rfl (Gn (.t5 0 1 5 11 12) (Gs (Ga rfl (Ga rfl (Gn (.t6 0 1 5 7 11 12) (CG (Gm rfl ?_)))))))
  refine Gm rfl (Gt (BT rfl) (Gt (Ah Kj rfl) (Gt (AZ rfl D2 .m0 ((AU.BJ V hk.1 hk.2).comp A2.l2) rfl) (Gm rfl ?_))))
  refine BA rfl db (.c rfl (.c rfl .n)) (fun w hS => LY _ _ w) ?_
  refine Gm rfl (Gt (AM rfl rfl) (Gt (AM rfl rfl) (Gt (AM rfl rfl) (Gt (BT rfl) (Gt (Ah Kj rfl) ?_)))))
  refine AT (AK ((AU.BJ V hk.1 hk.2).comp A2.l2) rfl rfl rfl KS rfl .h) ?_
  refine Ga rfl (Gn (.t7 0 1 5 6 7 11 12) (Gs (Gm rfl (Gt (Bw rfl rfl) (Gn (.t8 0 1 5 6 7 11 12 29) ?_)))))
  refine Gc (fun c2 => ?_) (fun c2 => ?_)
  ·
   have c2p := kz c2
   refine AJ (Gm rfl (Gm rfl (Gt (BT rfl) (Gt (Ah Kj rfl) (Gt (AZ rfl D2 .m0 ((AU.BJ V hk.1 hk.2).comp A2.l2) rfl) (Gm rfl ?_))))))
   refine BA rfl dj (.c rfl (.c rfl .n)) (fun w hS => M5 _ _ w) ?_
   refine Gm rfl (Gt (AM rfl rfl) (Gt (AM rfl rfl) (Gt (AM rfl rfl) (Gt (BT rfl) (Gt (Ah Kj rfl) ?_)))))
   refine AT (AK ((AU.BJ V hk.1 hk.2).comp A2.l2) rfl rfl rfl KS rfl .h) ?_
   refine Ga rfl (Gn (.t6 0 1 6 7 11 12) (AJ (Gm rfl (Gm rfl (Gt (BT rfl) (Gt (Ah Dw rfl) (Gt (AZ rfl Cy .m0 ((AU.BJ V hk.1 hk.2).comp A2.l4) rfl) ?_)))))))
   refine Gm rfl (Gm rfl ?_)
   refine Gt (CT rfl rfl (by first | omega | exact hk.1 | exact hk.2 | (have h1 := FW t (Dr j); have h2 := Hs (t.DK (Dr j)).1 (Dr j); dsimp only [Dr, EM] at *; (try simp only [List.length_nil]); omega))) ?_
   refine BA rfl XZ (.c rfl (.c rfl .n)) (fun w hS => EP _ _ (by simp only [List.length_append]; have h1 := FW t (Dr j); have h2 := Hs (t.DK (Dr j)).1 (Dr j); dsimp only [Dr, EM] at *; (try simp only [List.length_nil]); omega) w) ?_
   refine Gm rfl (Gt (AM rfl rfl) (Gt (AM rfl rfl) (Gt (BT rfl) (Gt (Ah Dw rfl) ?_))))
   refine AT (AK ((AU.BJ V hk.1 hk.2).comp A2.l4) rfl rfl rfl Fv rfl .h) ?_
   refine AQ (AB (.t4 0 1 11 12) ?_)
   refine AV (AA ?_)
   refine GC (fun _ => .h) (congrArg (Jk V k) (show _ = EM (IH t (Dr j)) (Kq t g (Dr j)) from by rw [EM, Kq, show IH t (Dr j) = _ from BB c2, show MO t (Dr j) = _ from BB c2]; rfl)) ?_
   refine AJ ?_
   refine Gt (Av rfl rfl (IntWalk.i64_in _ (by first | omega | exact hk.1 | exact hk.2 | (have h1 := FW t (Dr j); have h2 := Hs (t.DK (Dr j)).1 (Dr j); dsimp only [Dr, EM] at *; (try simp only [List.length_nil]); omega)))) ?_
   refine Gm rfl ?_
   refine AQ (AB (.t4 0 1 11 12) ?_)
   refine Bz (j + 1) _ _ ?_ ?_ (.t4 12 0 1 11) (.refl _)
   · exact ⟨by omega, by omega, by rw [G4 hI11, ← hI13, ← hI14], by rw [G4 hI11, ← hI13, ← hI14]⟩
   · omega
  have c2p := kz c2
  refine Aa ?_
  refine AB (.t6 0 1 6 7 11 12) ?_
  refine AA (AJ (Gm rfl (Gm rfl (Gt (BT rfl) (Gt (Ah Dw rfl) (Gt (AZ rfl Cy .m0 ((AU.BJ V hk.1 hk.2).comp A2.l4) rfl) (Gm rfl ?_)))))))
  refine Gm rfl ?_
  refine Gt (CT rfl rfl (by first | omega | exact hk.1 | exact hk.2 | (have h1 := FW t (Dr j); have h2 := Hs (t.DK (Dr j)).1 (Dr j); dsimp only [Dr, EM] at *; (try simp only [List.length_nil]); omega))) ?_
  refine BA rfl XZ (.c rfl (.c rfl .n)) (fun w hS => EP _ _ (by simp only [List.length_append]; have h1 := FW t (Dr j); have h2 := Hs (t.DK (Dr j)).1 (Dr j); dsimp only [Dr, EM] at *; (try simp only [List.length_nil]); omega) w) ?_
  refine Gm rfl (Gt (AM rfl rfl) (Gt (AM rfl rfl) (Gt (BT rfl) (Gt (Ah Dw rfl) ?_))))
  refine AT (AK ((AU.BJ V hk.1 hk.2).comp A2.l4) rfl rfl rfl Fv rfl .h) ?_
  refine AQ (AB (.t4 0 1 11 12) ?_)
  refine AV (AA ?_)
  refine GC (fun _ => .h) (congrArg (Jk V k) (show _ = EM (IH t (Dr j)) (Kq t g (Dr j)) from by rw [EM, Kq, show IH t (Dr j) = _ from AW c2, show MO t (Dr j) = _ from AW c2]; rfl)) ?_
  refine AJ ?_
  refine Gt (Av rfl rfl (IntWalk.i64_in _ (by first | omega | exact hk.1 | exact hk.2 | (have h1 := FW t (Dr j); have h2 := Hs (t.DK (Dr j)).1 (Dr j); dsimp only [Dr, EM] at *; (try simp only [List.length_nil]); omega)))) ?_
  refine Gm rfl ?_
  refine AQ (AB (.t4 0 1 11 12) ?_)
  refine Bz (j + 1) _ _ ?_ ?_ (.t4 12 0 1 11) (.refl _)
  · exact ⟨by omega, by omega, by rw [G4 hI11, ← hI13, ← hI14], by rw [G4 hI11, ← hI13, ← hI14]⟩
  · omega
 have c1p := kz c1
 obtain rfl : j = 2 := by omega
 refine Bf (AX (AX (Ai ?_)))
 refine AB (.t2 0 1) ?_
 refine AA (Ao ?_)
 refine E7 A7 9 1 ?_
 refine E7 A7 9 1 ?_
 refine E7 A7 9 1 ?_
 refine EY (.c (.t (.t .h)) (.c (.t .h) (.c .h (.c .h (.c (.t (.t (.t .h))) .n))))) ?_
 refine HC hk.1 hk.2 (by rfl) (by rfl) (by rfl) ?_
 refine AJ (Gm rfl (Gm rfl ?_))
 refine Ag rfl Tj (.c rfl (.c rfl (.c rfl .n))) (.c .h (.c .h (.c (.t (.t (.t .h))) .n))) (EL _ (AL.BJ V k (EM t g)) (ls.put k ⟨[], [], []⟩) ev k _ hk (by rw [Vector.CD hk.1 hk.2]; exact Nat.zero_le _)) (fun v4 B hv => ?_)
 obtain ⟨y5, y6, y7, rfl, y8, rfl⟩ := hv
 refine Gn (.t1 0) (AJ (Gm rfl ?_))
 refine BF rfl SB (.c rfl .n) (.c .h (.c .h (.c .h .n))) (Dq _ y5 y6 y7 (n + 1) m (by rw [y8, (show A5 (AL.BJ V k (EM t g)) (ls.put k ⟨[], [], []⟩) ev = AI.set (A5 V ls ev) k (Cl (EM t g) YQ) from Ih V ls ev hk.1 hk.2 _ _)]; exact (hF.comes hk.1 hk.2 t g).tell hk.1 hk.2 (show AI.Hg.length ≤ _ by decide)) (by omega) (by omega)) (fun w hS => ⟨gl0.pull gm0 hS (.c .h (.c .h (.c .h .n))), gl1.pull gm1 hS (.c .h (.c .h (.c .h .n))), gl2.pull gm2 hS (.c .h (.c .h (.c .h .n))), gl3.pull gm3 hS (.c .h (.c .h (.c .h .n)))⟩) (fun v9 B hv => ?_)
 obtain ⟨y10, y11, y12, rfl, y13, rfl⟩ := hv
 refine AQ ?_
 refine Bk rfl .n ?_
 intro w1 hS
 have hS := (hS.perm (Ax.perm (.c .h (.c .h (.c .h .n))))).A1
 refine ⟨_, ⟨y10, y11, y12, rfl, ?ga1, rfl⟩, hS⟩
 case ga1 => rw [y13, y8, (show A5 (AL.BJ V k (EM t g)) (ls.put k ⟨[], [], []⟩) ev = AI.set (A5 V ls ev) k (Cl (EM t g) YQ) from Ih V ls ev hk.1 hk.2 _ _), hI13, hI14]; unfold AI.KP; rw [← N1]; rfl
theorem Ew {α : Type} {ea : α → List Value} {o : Nat} {g : α → Int} {st : α → Int → α} (b V : Nat) (Y : α) (on : Bool) (opt yes no : Int) (h0 : 0 ≤ yes ∧ yes ≤ 255) (h1 : 0 ≤ no ∧ no ≤ 255) (h2 : 0 ≤ opt ∧ opt ≤ 255) (ln : AU ea Au o 1 g st) : JS Tryz.prog 75 #[.pointer (some ⟨b, o, none⟩), .bool on, .int .i64 opt, .int .i64 yes, .int .i64 no] [Ac.box b V (ea Y)] (fun v B => v = BS (AP.Im (g Y) on opt yes no) ∧ B = [Ac.box b V (ea (st Y (AP.YS on)))]) := by
 intro w hS0
 refine Al _ _ Tryz.func75 rfl rfl rfl (hS0) ?_
 refine Gs (Ga rfl (Gn (.t5 0 1 2 3 4) (Gs (Gm rfl (Gt (BT rfl) (Gt (AG rfl A3 .m0 ln rfl rfl) (Ga rfl ?_)))))))
 refine Gn (.t6 0 1 2 3 4 11) (Gs (Gm rfl (Gt (BT rfl) ?_)))
 refine AT (AK ln rfl rfl rfl C5 rfl .h) ?_
 refine Gn (.t6 0 1 2 3 4 11) (CG (Gm rfl (AQ (AA ?_))))
 refine Gc (fun c1 => ?_) (fun c1 => ?_)
 ·
  have c1p := kz c1
  refine AJ (Gm rfl (Gt (BT rfl) ?_))
  refine AT (AK ln rfl rfl rfl C5 rfl .h) ?_
  refine Gn (.t5 1 2 3 4 11) (Ao (Af (Gs (Gm rfl (Gm rfl (Bi 22 rfl rfl (fun q => AE rfl) (Bi 22 rfl rfl (fun q => Ae (Bh rfl q) rfl) ?_)))))))
  refine Gt (BK rfl rfl (fun h => h)) (Ga rfl (Gn (.t6 1 2 3 4 11 20) ?_))
  refine Gc (fun c2 => ?_) (fun c2 => ?_)
  ·
   have c2p := kz c2
   refine Gs (Gm rfl (Gm rfl ?_))
   refine BA rfl SV (.c rfl (.c rfl .n)) (fun w hS => C0 _ _ (by first | assumption | omega) (by first | assumption | omega) w) ?_
   refine Ga rfl (Gn (.t1 10) (Ab (AS (AD ?_))))
   refine AY rfl (.tmp rfl .n) ?_
   intro w1 hS
   have hS := (hS.perm (Ax.perm (.c .h .n))).A1
   exact ⟨_, ⟨by clear hS; simp_all [AP.Im, Vd], by simp only [AP.YS, ln.KJ, c1, c2, ↓reduceIte, Bool.false_eq_true]⟩, hS⟩
  have c2p := kz c2
  refine Gs (Gm rfl (Gt (BV rfl) (Gm rfl (Bi 32 rfl rfl (fun q => AE rfl) (Bi 32 rfl rfl (fun q => Ae (Bh rfl q) rfl) (Gt (BK rfl rfl (fun h => h)) (Ga rfl ?_)))))))
  refine Gn (.t3 2 4 29) ?_
  refine Gc (fun c3 => ?_) (fun c3 => ?_)
  ·
   have c3p := kz c3
   refine Gs (Gm rfl (Gm rfl ?_))
   refine BA rfl SV (.c rfl (.c rfl .n)) (fun w hS => C0 _ _ (by first | assumption | omega) (by first | assumption | omega) w) ?_
   refine Ga rfl (Gn (.t1 10) (Ab (AS (AD ?_))))
   refine AY rfl (.tmp rfl .n) ?_
   intro w1 hS
   have hS := (hS.perm (Ax.perm (.c .h .n))).A1
   exact ⟨_, ⟨by clear hS; simp_all [AP.Im, Vd], by simp only [AP.YS, ln.KJ, c1, c2, c3, ↓reduceIte, Bool.false_eq_true]⟩, hS⟩
  have c3p := kz c3
  refine Aa ?_
  refine AB (.nil _) ?_
  refine AV (AA (Gs (Ga rfl (AQ (AA (Ab ?_))))))
  refine AY rfl (.tmp rfl .n) ?_
  intro w1 hS
  have hS := (hS.perm (Ax.perm (.c .h .n))).A1
  exact ⟨_, ⟨by clear hS; simp_all [AP.Im, Vd], by simp only [AP.YS, ln.KJ, c1, c2, c3, ↓reduceIte, Bool.false_eq_true]⟩, hS⟩
 have c1p := kz c1
 refine Aa ?_
 refine AB (.t5 1 2 3 4 11) ?_
 refine AA (Ao (Af (Gs (Gm rfl (Gm rfl (Bi 22 rfl rfl (fun q => AE rfl) (Bi 22 rfl rfl (fun q => Ae (Bh rfl q) rfl) ?_)))))))
 refine Gt (BK rfl rfl (fun h => h)) (Ga rfl (Gn (.t6 1 2 3 4 11 20) ?_))
 refine Gc (fun c4 => ?_) (fun c4 => ?_)
 ·
  have c4p := kz c4
  refine Gs (Gm rfl (Gm rfl ?_))
  refine BA rfl SV (.c rfl (.c rfl .n)) (fun w hS => C0 _ _ (by first | assumption | omega) (by first | assumption | omega) w) ?_
  refine Ga rfl (Gn (.t1 10) (Ab (AS (AD ?_))))
  refine AY rfl (.tmp rfl .n) ?_
  intro w1 hS
  have hS := (hS.perm (Ax.perm (.c .h .n))).A1
  exact ⟨_, ⟨by clear hS; simp_all [AP.Im, Vd], by simp only [AP.YS, ln.KJ, c1, c4, ↓reduceIte, Bool.false_eq_true]⟩, hS⟩
 have c4p := kz c4
 refine Gs (Gm rfl (Gt (BV rfl) (Gm rfl (Bi 32 rfl rfl (fun q => AE rfl) (Bi 32 rfl rfl (fun q => Ae (Bh rfl q) rfl) (Gt (BK rfl rfl (fun h => h)) (Ga rfl ?_)))))))
 refine Gn (.t3 2 4 29) ?_
 refine Gc (fun c5 => ?_) (fun c5 => ?_)
 ·
  have c5p := kz c5
  refine Gs (Gm rfl (Gm rfl ?_))
  refine BA rfl SV (.c rfl (.c rfl .n)) (fun w hS => C0 _ _ (by first | assumption | omega) (by first | assumption | omega) w) ?_
  refine Ga rfl (Gn (.t1 10) (Ab (AS (AD ?_))))
  refine AY rfl (.tmp rfl .n) ?_
  intro w1 hS
  have hS := (hS.perm (Ax.perm (.c .h .n))).A1
  exact ⟨_, ⟨by clear hS; simp_all [AP.Im, Vd], by simp only [AP.YS, ln.KJ, c1, c4, c5, ↓reduceIte, Bool.false_eq_true]⟩, hS⟩
 have c5p := kz c5
 refine Aa ?_
 refine AB (.nil _) ?_
 refine AV (AA (Gs (Ga rfl (AQ (AA (Ab ?_))))))
 refine AY rfl (.tmp rfl .n) ?_
 intro w1 hS
 have hS := (hS.perm (Ax.perm (.c .h .n))).A1
 exact ⟨_, ⟨by clear hS; simp_all [AP.Im, Vd], by simp only [AP.YS, ln.KJ, c1, c4, c5, ↓reduceIte, Bool.false_eq_true]⟩, hS⟩
theorem JR (b : Nat) (X : AP) (verb opt : Int) (h0 : 0 ≤ opt ∧ opt ≤ 255) : JS Tryz.prog 56 #[.pointer (some ⟨b, 0, none⟩), .int .i64 verb, .int .i64 opt] [Ac.box b 69 X.enc] (fun v B => v = BS (X.B2 verb opt).2 ∧ B = [Ac.box b 69 (X.B2 verb opt).1.enc]) := by
 intro w hS0
 refine Al _ _ Tryz.func56 rfl rfl rfl (hS0) ?_
 refine Gs (Ga rfl (Gn (.t3 0 1 2) (Gs (Gm rfl ?_))))
 refine BA rfl Z7 (.c rfl .n) (fun w hS => Fq _ w) ?_
 refine Gm rfl (Gt (AM rfl rfl) (Gt (AM rfl rfl) (Gt (AM rfl rfl) (Ga rfl (Ga rfl (Ga rfl (Gn (.t6 0 1 2 7 8 9) ?_)))))))
 refine CG (Gm rfl (Gn (.t6 0 2 7 8 9 16) (Af (Gs (Gt (Ae rfl rfl) (Ga rfl (Gn (.t7 0 2 7 8 9 16 17) ?_)))))))
 refine Gc (fun c1 => ?_) (fun c1 => ?_)
 ·
  have c1p := kz c1
  refine CG (Gm rfl (Gt (BV rfl) (Gn (.t4 0 2 7 20) ?_)))
  refine Gc (fun c2 => ?_) (fun c2 => ?_)
  ·
   have c2p := kz c2
   refine Gs (Gm rfl ?_)
   refine BA rfl SV (.c rfl (.c rfl .n)) (fun w hS => C0 _ _ (by first | assumption | omega) (by first | assumption | omega) w) ?_
   refine Ga rfl (Gn (.t1 6) (Ab (AD (AS (AD ?_)))))
   refine AY rfl (.tmp rfl .n) ?_
   intro w1 hS
   have hS := (hS.perm (Ax.perm (.c .h .n))).A1
   exact ⟨_, ⟨by simp only [AP.B2, c1, c2, ↓reduceIte, Bool.false_eq_true] <;> rfl, by simp only [AP.B2, c1, c2, ↓reduceIte, Bool.false_eq_true] <;> rfl⟩, hS⟩
  have c2p := kz c2
  have hk := AP.Nw (opt := opt) (by simpa using c2)
  have hk1 : 0 ≤ (AP.place opt).1 ∧ (AP.place opt).1 < 3 := by rcases hk with ⟨_, e⟩ | ⟨_, e⟩ <;> rw [e] <;> decide
  refine Aa ?_
  refine AB (.t3 0 2 7) ?_
  refine AA (Gs (Gm rfl (Gm rfl (Gt (BT rfl) (Gt (Ah LD rfl) ?_)))))
  refine Gt (AR Kz rfl rfl (by omega) (by omega)) ?_
  refine Gm rfl ?_
  refine Ag rfl Ys (.c rfl (.c rfl (.c rfl (.c rfl (.c rfl .n))))) (.c .h .n) (Ew _ _ _ _ _ _ _ (by first | assumption | omega) (by first | assumption | omega) (by first | assumption | omega) (AP.l3.comp (AU.ar (n := 3) Bv (by omega)))) (fun v1 B hv => ?_)
  obtain ⟨rfl, rfl⟩ := hv
  refine Ga rfl (Gn (.t1 6) (Ab (AS (AD ?_))))
  refine AY rfl (.tmp rfl .n) ?_
  intro w1 hS
  have hS := (hS.perm (Ax.perm (.c .h .n))).A1
  exact ⟨_, ⟨by simp only [AP.B2, c1, c2, ↓reduceIte, Bool.false_eq_true] <;> rfl, by simp only [AP.B2, c1, c2, ↓reduceIte, Bool.false_eq_true] <;> rfl⟩, hS⟩
 have c1p := kz c1
 refine Gs (Gt (Ae rfl rfl) (Ga rfl (Gn (.t7 0 2 7 8 9 16 30) ?_)))
 refine Gc (fun c3 => ?_) (fun c3 => ?_)
 ·
  have c3p := kz c3
  refine Gs (Gm rfl (Gn (.t4 0 2 7 32) ?_))
  refine Gc (fun c4 => ?_) (fun c4 => ?_)
  ·
   have c4p := kz c4
   have hk := AP.Nw (opt := opt) (by simpa using c4)
   have hk1 : 0 ≤ (AP.place opt).1 ∧ (AP.place opt).1 < 3 := by rcases hk with ⟨_, e⟩ | ⟨_, e⟩ <;> rw [e] <;> decide
   refine Gs (Gm rfl (Gm rfl (Gt (BT rfl) (Gt (Ah LD rfl) ?_))))
   refine Gt (AR Kz rfl rfl (by omega) (by omega)) ?_
   refine Gm rfl ?_
   refine Ag rfl Ys (.c rfl (.c rfl (.c rfl (.c rfl (.c rfl .n))))) (.c .h .n) (Ew _ _ _ _ _ _ _ (by first | assumption | omega) (by first | assumption | omega) (by first | assumption | omega) (AP.l3.comp (AU.ar (n := 3) Bv (by omega)))) (fun v2 B hv => ?_)
   obtain ⟨rfl, rfl⟩ := hv
   refine Ga rfl (Gn (.t1 6) (Ab (AS (AD ?_))))
   refine AY rfl (.tmp rfl .n) ?_
   intro w1 hS
   have hS := (hS.perm (Ax.perm (.c .h .n))).A1
   exact ⟨_, ⟨by simp only [AP.B2, c1, c3, c4, ↓reduceIte, Bool.false_eq_true] <;> rfl, by simp only [AP.B2, c1, c3, c4, ↓reduceIte, Bool.false_eq_true] <;> rfl⟩, hS⟩
  refine Aa ?_
  refine AB (.nil _) ?_
  refine AV (AA (Gs (Ga rfl (AQ (AA (Ab ?_))))))
  refine AY rfl (.tmp rfl .n) ?_
  intro w1 hS
  have hS := (hS.perm (Ax.perm (.c .h .n))).A1
  exact ⟨_, ⟨by simp only [AP.B2, c1, c3, c4, ↓reduceIte, Bool.false_eq_true] <;> rfl, by simp only [AP.B2, c1, c3, c4, ↓reduceIte, Bool.false_eq_true] <;> rfl⟩, hS⟩
 have c3p := kz c3
 refine Gs (Gt (Ae rfl rfl) (Ga rfl (Gn (.t6 0 2 7 9 16 40) ?_)))
 refine Gc (fun c5 => ?_) (fun c5 => ?_)
 ·
  have c5p := kz c5
  refine CG (Gm rfl (Gt (BV rfl) (Gn (.t4 0 2 7 43) ?_)))
  refine Gc (fun c6 => ?_) (fun c6 => ?_)
  ·
   have c6p := kz c6
   refine Gs (Gm rfl ?_)
   refine BA rfl SV (.c rfl (.c rfl .n)) (fun w hS => C0 _ _ (by first | assumption | omega) (by first | assumption | omega) w) ?_
   refine Ga rfl (Gn (.t1 6) (Ab (AD (AS (AD ?_)))))
   refine AY rfl (.tmp rfl .n) ?_
   intro w1 hS
   have hS := (hS.perm (Ax.perm (.c .h .n))).A1
   exact ⟨_, ⟨by simp only [AP.B2, c1, c3, c5, c6, ↓reduceIte, Bool.false_eq_true] <;> rfl, by simp only [AP.B2, c1, c3, c5, c6, ↓reduceIte, Bool.false_eq_true] <;> rfl⟩, hS⟩
  have c6p := kz c6
  have hk := AP.K8 (opt := opt) (by simpa using c6)
  have hk1 : 0 ≤ (AP.place opt).1 ∧ (AP.place opt).1 < 3 := by rcases hk with ⟨_, e⟩ | ⟨_, e⟩ <;> rw [e] <;> decide
  refine Aa ?_
  refine AB (.t3 0 2 7) ?_
  refine AA (Gs (Gm rfl (Gm rfl (Gt (BT rfl) (Gt (Ah J1 rfl) ?_)))))
  refine Gt (AR Kz rfl rfl (by omega) (by omega)) ?_
  refine Gm rfl ?_
  refine Ag rfl Ys (.c rfl (.c rfl (.c rfl (.c rfl (.c rfl .n))))) (.c .h .n) (Ew _ _ _ _ _ _ _ (by first | assumption | omega) (by first | assumption | omega) (by first | assumption | omega) (AP.l4.comp (AU.ar (n := 3) Bv (by omega)))) (fun v3 B hv => ?_)
  obtain ⟨rfl, rfl⟩ := hv
  refine Ga rfl (Gn (.t1 6) (Ab (AS (AD ?_))))
  refine AY rfl (.tmp rfl .n) ?_
  intro w1 hS
  have hS := (hS.perm (Ax.perm (.c .h .n))).A1
  exact ⟨_, ⟨by simp only [AP.B2, c1, c3, c5, c6, ↓reduceIte, Bool.false_eq_true] <;> rfl, by simp only [AP.B2, c1, c3, c5, c6, ↓reduceIte, Bool.false_eq_true] <;> rfl⟩, hS⟩
 have c5p := kz c5
 refine Gs (Gt (Ae rfl rfl) (Ga rfl (Gn (.t5 0 2 7 9 53) ?_)))
 refine Gc (fun c7 => ?_) (fun c7 => ?_)
 ·
  have c7p := kz c7
  refine Gs (Gm rfl (Gn (.t4 0 2 7 55) ?_))
  refine Gc (fun c8 => ?_) (fun c8 => ?_)
  ·
   have c8p := kz c8
   have hk := AP.K8 (opt := opt) (by simpa using c8)
   have hk1 : 0 ≤ (AP.place opt).1 ∧ (AP.place opt).1 < 3 := by rcases hk with ⟨_, e⟩ | ⟨_, e⟩ <;> rw [e] <;> decide
   refine Gs (Gm rfl (Gm rfl (Gt (BT rfl) (Gt (Ah J1 rfl) ?_))))
   refine Gt (AR Kz rfl rfl (by omega) (by omega)) ?_
   refine Gm rfl ?_
   refine Ag rfl Ys (.c rfl (.c rfl (.c rfl (.c rfl (.c rfl .n))))) (.c .h .n) (Ew _ _ _ _ _ _ _ (by first | assumption | omega) (by first | assumption | omega) (by first | assumption | omega) (AP.l4.comp (AU.ar (n := 3) Bv (by omega)))) (fun v4 B hv => ?_)
   obtain ⟨rfl, rfl⟩ := hv
   refine Ga rfl (Gn (.t1 6) (Ab (AS (AD ?_))))
   refine AY rfl (.tmp rfl .n) ?_
   intro w1 hS
   have hS := (hS.perm (Ax.perm (.c .h .n))).A1
   exact ⟨_, ⟨by simp only [AP.B2, c1, c3, c5, c7, c8, ↓reduceIte, Bool.false_eq_true] <;> rfl, by simp only [AP.B2, c1, c3, c5, c7, c8, ↓reduceIte, Bool.false_eq_true] <;> rfl⟩, hS⟩
  refine Aa ?_
  refine AB (.nil _) ?_
  refine AV (AA (Gs (Ga rfl (AQ (AA (Ab ?_))))))
  refine AY rfl (.tmp rfl .n) ?_
  intro w1 hS
  have hS := (hS.perm (Ax.perm (.c .h .n))).A1
  exact ⟨_, ⟨by simp only [AP.B2, c1, c3, c5, c7, c8, ↓reduceIte, Bool.false_eq_true] <;> rfl, by simp only [AP.B2, c1, c3, c5, c7, c8, ↓reduceIte, Bool.false_eq_true] <;> rfl⟩, hS⟩
 refine Aa ?_
 refine AB (.nil _) ?_
 refine AV (AA (Gs (Ga rfl (AQ (AA (Ab ?_))))))
 refine AY rfl (.tmp rfl .n) ?_
 intro w1 hS
 have hS := (hS.perm (Ax.perm (.c .h .n))).A1
 exact ⟨_, ⟨by simp only [AP.B2, c1, c3, c5, c7, ↓reduceIte, Bool.false_eq_true] <;> rfl, by simp only [AP.B2, c1, c3, c5, c7, ↓reduceIte, Bool.false_eq_true] <;> rfl⟩, hS⟩
theorem G1 (b : Nat) (X : AP) (c : UInt8) (h0 : X.sub.length ≤ 16) : JS Tryz.prog 57 #[.pointer (some ⟨b, 0, none⟩), .int .u8 (c.toNat : Int)] [Ac.box b 69 X.enc] (fun v B => v = .tuple #[] ∧ B = [Ac.box b 69 (X.collect c).enc]) := by
 intro w hS0
 refine Al _ _ Tryz.func57 rfl rfl rfl (hS0) ?_
 refine Gs (Gm rfl (Gt (BT rfl) (Gt (Ah Gw rfl) (Gt (AG rfl CV .m0 AP.l2 rfl rfl) (Gt (BI rfl Tryz.underlying9 rfl) (Gt (A8 rfl rfl) (Gn (.t3 0 1 9) ?_)))))))
 refine Gc (fun c1 => ?_) (fun c1 => ?_)
 ·
  have c1p := kz c1
  refine BE (N := 11) [0, 1, 3, 7, 0, 16, 48, 127, 255, 511, 1023] mix (by kernel_rfl) rfl ?_
  refine Pf 0 rfl (AE rfl) (Pf 1 rfl (BT rfl) (Pf 2 rfl (Ah Gw rfl) (Pf 3 rfl (AG rfl CV .m0 AP.l2 rfl rfl) (Pf 4 rfl (AE rfl) ?_))))
  refine An 5 rfl (by kernel_rfl) ?_
  refine S1 rfl Tryz.underlying105 VT Zd rfl (by decide) (by decide) rfl rfl rfl (fun b1 => ?_)
  refine Bp rfl ⟨?_, ?_⟩
  · exact (Pk (Po rfl (AG rfl CV .m1 AP.l2 rfl rfl) rfl rfl (Po rfl (Ah Gw rfl) rfl rfl (Po rfl (BT rfl) rfl rfl (Po rfl (AE rfl) rfl rfl Aq)))))
  refine Pf 6 rfl (OW (s := [c]) rfl Tryz.underlying105 Tryz.underlying9 Tryz.underlying5 rfl (Kn.own .m0)) ?_
  refine Pf 7 rfl (CT rfl rfl (by simp only [List.length_cons, List.length_nil]; omega)) ?_
  refine Pf 8 rfl (BT rfl) (Pf 9 rfl (Ah Gw rfl) ?_)
  refine An 10 rfl (by kernel_rfl) ?_
  refine AT (AK AP.l2 rfl rfl rfl Eo rfl (.t .h)) ?_
  refine BN rfl ⟨?_, ?_⟩
  · exact (Pk (Pk (Pk (Pk (Pk (Pk (Pk (Pk (Pk Aq)))))))))
  refine A4 (by kernel_rfl) ?_
  refine Bk rfl .n ?_
  intro w1 hS
  have hS := (hS.perm (Ax.perm (.c (.t .h) .n))).A1
  exact ⟨_, ⟨rfl, by simp only [AP.collect, c1, ↓reduceIte, Bool.false_eq_true]⟩, hS⟩
 refine Aa ?_
 refine Bk rfl .n ?_
 intro w1 hS
 have hS := (hS.perm (Ax.perm (.c .h .n))).A1
 exact ⟨_, ⟨rfl, by simp only [AP.collect, c1, ↓reduceIte, Bool.false_eq_true]⟩, hS⟩
theorem KY (b : Nat) (X : AP) : JS Tryz.prog 58 #[.pointer (some ⟨b, 0, none⟩)] [Ac.box b 69 X.enc] (fun v B => v = .tuple #[] ∧ B = [Ac.box b 69 X.measure.enc]) := by
 intro w hS0
 refine Al _ _ Tryz.func58 rfl rfl rfl (hS0) ?_
 refine Gs (Gm rfl (Gt (BT rfl) (Gt (Ah Gw rfl) (Gt (AG rfl CV .m0 AP.l2 rfl rfl) (Gt (BI rfl Tryz.underlying9 rfl) (Gt (Ae rfl rfl) (Gm rfl ?_)))))))
 refine Bi 8 rfl rfl (fun q => AE rfl) (Bi 8 rfl rfl (fun q => BT (Bh rfl q)) (Bi 8 rfl rfl (fun q => Ah Gw (Bh rfl q)) (Bi 8 rfl rfl (fun q => AG (Bh rfl q) CV .m0 AP.l2 rfl rfl) ?_)))
 refine Bi 8 rfl rfl (fun q => by have q1 := q; (try simp at q1); exact Bl Tryz.underlying9 (Bh rfl q) rfl (by decide) (by omega)) ?_
 refine Bi 8 rfl rfl (fun q => Ae (Bh rfl q) rfl) (Gt (BK rfl rfl (fun h => h)) (Gm rfl (Bi 16 rfl rfl (fun q => AE rfl) (Bi 16 rfl rfl (fun q => BT (Bh rfl q)) (Bi 16 rfl rfl (fun q => Ah J1 (Bh rfl q)) ?_)))))
 refine Bi 16 rfl rfl (fun q => AR Kz (Bh rfl q) rfl (by decide) (by decide)) ?_
 refine Bi 16 rfl rfl (fun q => AG (Bh rfl q) A3 .m0 (AP.l4.comp (AU.arr (n := 3) Bv (by decide) (by decide))) rfl rfl) ?_
 refine Bi 16 rfl rfl (fun q => Ae (Bh rfl q) rfl) (Gt (BK rfl rfl (fun h => h)) (Gn (.t2 0 23) ?_))
 refine Gc (fun c1 => ?_) (fun c1 => ?_)
 ·
  have c1p := kz c1
  refine BE (N := 19) [0, 0, 2, 6, 14, 30, 62, 126, 0, 256, 768, 1792, 3840, 7936, 16382, 32766, 65535, 131071, 262143] mix (by kernel_rfl) rfl ?_
  refine Pf 0 rfl (AE rfl) (Pf 1 rfl (AE rfl) (Pf 2 rfl (BT rfl) (Pf 3 rfl (Ah Gw rfl) (Pf 4 rfl (AG rfl CV .m0 AP.l2 rfl rfl) ?_))))
  refine Pf 5 rfl (Bl Tryz.underlying9 rfl rfl (by decide) (by omega)) ?_
  refine Pf 6 rfl (Sp Tryz.underlying3 Tryz.underlying5 rfl) (Pf 7 rfl (X6 rfl rfl) (Pf 8 rfl (AE rfl) (Pf 9 rfl (BT rfl) (Pf 10 rfl (Ah Gw rfl) (Pf 11 rfl (AG rfl CV .m0 AP.l2 rfl rfl) ?_)))))
  refine Pf 12 rfl (Bl Tryz.underlying9 rfl rfl (by decide) (by omega)) ?_
  refine Pf 13 rfl (Sp Tryz.underlying3 Tryz.underlying5 rfl) (Pf 14 rfl (aC rfl rfl) (Pf 15 rfl (LR rfl rfl) (Pf 16 rfl (BT rfl) (Pf 17 rfl (Ah QN rfl) ?_))))
  refine An 18 rfl (by kernel_rfl) ?_
  refine AT (AK AP.l5 rfl rfl rfl C5 rfl .h) ?_
  refine BN rfl ⟨?_, ?_⟩
  · exact (Pk (Pk (Pk (Pk (Pk (Pk (Pk (Pk (Pk (Pk (Pk (Pk (Pk (Pk (Pk (Pk (Pk (Pk Aq))))))))))))))))))
  refine A4 (by kernel_rfl) ?_
  refine Bk rfl .n ?_
  intro w1 hS
  have hS := (hS.perm (Ax.perm (.c .h .n))).A1
  exact ⟨_, ⟨rfl, by rw [show X.measure = _ from BB c1]; rfl⟩, hS⟩
 refine Aa ?_
 refine Bk rfl .n ?_
 intro w1 hS
 have hS := (hS.perm (Ax.perm (.c .h .n))).A1
 exact ⟨_, ⟨rfl, by rw [show X.measure = _ from AW c1]⟩, hS⟩
theorem L9 (X : AP) (u : Ap) (hu : u.length ≤ 140737488351232) (w : World) : Ei Tryz.prog 29 #[.agg X.enc.toArray, BS u] w fun v w' => v = .tuple #[.agg (X.DR u).1.enc.toArray, BS (X.DR u).2.1, BS (X.DR u).2.2.1, .int .i64 (X.DR u).2.2.2] ∧ CB w w' := by
 refine Al [] [] Tryz.func29 rfl rfl rfl (St.start w []) ?_
 refine Gs ?_
 refine B4 rfl rfl rfl (fun b1 => ?_)
 refine BH rfl Zb rfl (fun b2 => ?_)
 refine Ga rfl (Ga rfl (Ga rfl (Gn (.t3 1 2 4) (CG (Gt (AZ rfl D2 .m1 (AU.id AP.fl.len AP.fl.one) rfl) ?_)))))
 refine BA rfl Zj (.c rfl .n) (fun w hS => F9 _ w) ?_
 refine Gt (BV rfl) (Gn (.t4 1 2 4 15) ?_)
 refine Gc (fun c1 => ?_) (fun c1 => ?_)
 ·
  refine Gs (Gt (AZ rfl D2 .m1 (AU.id AP.fl.len AP.fl.one) rfl) ?_)
  refine AT (AK (AU.id AP.fl.len AP.fl.one) rfl rfl rfl KS rfl .h) ?_
  refine Ga rfl (Ga rfl (Ga rfl (Gn (.t4 4 5 6 7) (Ab (AD ?_)))))
  refine AY rfl (.cell rfl .m0 (.inl ⟨(by rw [AP.fl.len]; exact D2), rfl⟩) (.tmp rfl (.tmp rfl (.tmp rfl .n)))) ?_
  intro w1 hS; refine ⟨?_, hS.Am⟩; rw [show X.DR u = _ from BB c1]; rfl
 have c1p := kz c1
 have hg : X.Bg = true := by simpa using c1
 refine Aa ?_
 refine AB (.t3 1 2 4) ?_
 refine AA (Gs ?_)
 refine BH rfl Ue rfl (fun b3 => ?_)
 refine Dh DQ 5 1 ?_
 refine BH rfl Ue rfl (fun b4 => ?_)
 refine Dh DQ 5 1 ?_
 refine AQ (AA (CG (Gm rfl ?_)))
 refine Ol rfl Tryz.underlying9 Tryz.underlying105 Tryz.underlying5 rfl (fun h1 h1l => ?_)
 refine Gt (Ar rfl Tryz.underlying105 rfl) (Gm rfl (Gn (.t7 2 4 8 9 18 19 20) (Af ?_)))
 refine Bo (.t7 20 2 4 8 9 18 19) ?_
 refine Be (.t (.t (.t (.t (.t (.t .h)))))) ?_
 refine Be (.t (.t (.t (.t (.t .h))))) ?_
 refine Be (.t (.t (.t (.t (.t .h))))) ?_
 refine Be (.t (.t (.t (.t (.t .h))))) ?_
 refine Be (.t (.t (.t (.t (.t .h))))) ?_
 refine Rr (fun (k : Int) (t : AP) (x : Ap) (y : Ap) (p : Option Addr) (h : Hd) (q : Option Addr) (g : Hd) => AP.Jt X u k t x y ∧ (p = none ∨ p = some ⟨b3, 0, none⟩) ∧ h.Z ∧ h.len = x.length ∧ (q = none ∨ q = some ⟨b4, 0, none⟩) ∧ g.Z ∧ g.len = y.length) (fun (k : Int) (t : AP) (x : Ap) (y : Ap) (p : Option Addr) (h : Hd) (q : Option Addr) (g : Hd) => ((u.length : Int) - k).toNat) (fun (k : Int) (t : AP) (x : Ap) (y : Ap) (p : Option Addr) (h : Hd) (q : Option Addr) (g : Hd) => [(20, .int .i64 k)]) (fun (k : Int) (t : AP) (x : Ap) (y : Ap) (p : Option Addr) (h : Hd) (q : Option Addr) (g : Hd) => [Ac.own g 5 1 (y.flatMap DQ), Ac.box b4 107 (DV.enc ⟨q, g⟩), Ac.own h 5 1 (x.flatMap DQ), Ac.box b3 107 (DV.enc ⟨p, h⟩), Ac.box b1 69 (AP.enc t)]) (0) (X) ([]) ([]) (none) (⟨none, 0, 0⟩) (none) (⟨none, 0, 0⟩) ?_ rfl rfl (fun k t x y p h q g hI1 => ?_)
 · exact ⟨AP.Jt.start (AP.Xe hg), .inl rfl, Hd.UA, rfl, .inl rfl, Hd.UA, rfl⟩
 obtain ⟨hI11, hp, hz, hl, hq, hzg, hlg⟩ := hI1; have hk0 := hI11.k0; have hk1 := hI11.k1; have hsub := hI11.sub; have hxl := hI11.xl; have hyl := hI11.yl; have hc8 := (u.getD k.toNat 0).toNat_lt; have hyb := hI11.yb
 refine Gs (Gt (A8 rfl rfl) (AQ (AA (Ao ?_))))
 refine Gc (fun c2 => ?_) (fun c2 => ?_)
 ·
  have c2p := kz c2
  refine Aa ?_
  refine AB (.t7 2 4 8 9 18 19 20) ?_
  refine AA (Ao (Af (Gs ?_)))
  refine Gt (Br Xd (by decide) (Kn.own .m5) rfl rfl (by omega) (by omega)) ?_
  refine Gt (Xw rfl cI (Kn.own .m5) (by omega)) ?_
  refine Ga rfl (Gn (.t8 2 4 8 9 11 18 19 20) (Gs (Gm rfl (Gt (Sp Tryz.underlying3 Tryz.underlying5 rfl) (Ga rfl (Gn (.t9 2 4 8 9 11 12 18 19 20) (Gs ?_)))))))
  refine Gt (Ah Fm rfl) (Gt (AG rfl A3 .m4 AP.l0 rfl rfl) (Gn (.t10 2 4 8 9 11 12 18 19 20 27) (Af (Gs (Gt (Ae rfl rfl) (Ga rfl (Gn (.t11 2 4 8 9 11 12 18 19 20 27 28) ?_)))))))
  refine Gc (fun c3 => ?_) (fun c3 => ?_)
  ·
   have c3p := kz c3
   refine Gs (Gm rfl (Gt (Ae rfl rfl) (Gn (.t9 2 4 8 9 11 18 19 20 31) ?_)))
   refine Gc (fun c4 => ?_) (fun c4 => ?_)
   ·
    have c4p := kz c4
    refine AJ (Gt (Ah Fm rfl) ?_)
    refine AT (AK AP.l0 rfl rfl rfl C5 rfl (.t (.t (.t (.t .h))))) ?_
    refine AQ (AB (.t7 2 4 8 9 18 19 20) ?_)
    refine AV (AV (AA (AJ ?_)))
    refine Gt (Av rfl rfl (IntWalk.i64_in _ (by omega))) ?_
    refine Gm rfl ?_
    refine AQ (AB (.t7 2 4 8 9 18 19 20) ?_)
    refine CQ _ _ _ _ _ _ _ _ ?_ ?_ (.t7 20 2 4 8 9 18 19) (.refl _)
    · exact ⟨hI11.next (by omega) (by simp only [AP.step, c1, c2, c3, c4, ↓reduceIte, Bool.false_eq_true]) (by simp only [AP.step, c1, c2, c3, c4, List.append_nil, ↓reduceIte, Bool.false_eq_true]) (by simp only [AP.step, c1, c2, c3, c4, List.append_nil, ↓reduceIte, Bool.false_eq_true]), by assumption, by assumption, by assumption, by assumption, by assumption, by assumption⟩
    · omega
   have c4p := kz c4
   refine AJ (Gm rfl ?_)
   refine Ag rfl YV (.c rfl (.c rfl .n)) (.c (.t (.t (.t .h))) (.c (.t (.t .h)) .n)) (Cg _ _ _ _ (by assumption) (by assumption) (by assumption) _ (by omega)) (fun v2 B hv => ?_)
   obtain ⟨y3, y4, rfl, y5, y6, y7, rfl⟩ := hv
   refine AQ (AB (.t7 2 4 8 9 18 19 20) ?_)
   refine AV (AV (AA (AJ ?_)))
   refine Gt (Av rfl rfl (IntWalk.i64_in _ (by omega))) ?_
   refine Gm rfl ?_
   refine AQ (AB (.t7 2 4 8 9 18 19 20) ?_)
   refine B9 (.c (.t (.t .h)) (.c (.t (.t .h)) (.c (.t .h) (.c .h (.c .h (.c .h (.c .h .n))))))) ?_
   refine CO ?_
   refine CQ _ _ _ _ _ _ _ _ ?_ ?_ (.t7 20 2 4 8 9 18 19) (.refl _)
   · exact ⟨hI11.next (by omega) (by simp only [AP.step, c1, c2, c3, c4, ↓reduceIte, Bool.false_eq_true]) (by simp only [AP.step, c1, c2, c3, c4, List.append_nil, ↓reduceIte, Bool.false_eq_true]) (by simp only [AP.step, c1, c2, c3, c4, List.append_nil, ↓reduceIte, Bool.false_eq_true]), by assumption, by assumption, by assumption, by assumption, by assumption, by assumption⟩
   · omega
  have c3p := kz c3
  refine Gs (Gt (Ae rfl rfl) (Ga rfl (Gn (.t11 2 4 8 9 11 12 18 19 20 27 35) ?_)))
  refine Gc (fun c5 => ?_) (fun c5 => ?_)
  ·
   have c5p := kz c5
   refine Gs (Gt (Ah Fm rfl) ?_)
   refine AT (AK AP.l0 rfl rfl rfl C5 rfl (.t (.t (.t (.t .h))))) ?_
   refine Gn (.t9 2 4 8 9 11 12 18 19 20) (Af (Gs (Gm rfl (Gt (Ae rfl rfl) (Ga rfl (Gn (.t10 2 4 8 9 11 12 18 19 20 38) ?_))))))
   refine Gc (fun c6 => ?_) (fun c6 => ?_)
   ·
    have c6p := kz c6
    refine AJ (Gm rfl ?_)
    refine Ag rfl YV (.c rfl (.c rfl .n)) (.c (.t (.t (.t .h))) (.c (.t (.t .h)) .n)) (Cg _ _ _ _ (by assumption) (by assumption) (by assumption) _ (by omega)) (fun v8 B hv => ?_)
    obtain ⟨y9, y10, rfl, y11, y12, y13, rfl⟩ := hv
    refine AQ (AB (.t7 2 4 8 9 18 19 20) ?_)
    refine AV (AV (AV (AA (AJ ?_))))
    refine Gt (Av rfl rfl (IntWalk.i64_in _ (by omega))) ?_
    refine Gm rfl ?_
    refine AQ (AB (.t7 2 4 8 9 18 19 20) ?_)
    refine B9 (.c (.t (.t .h)) (.c (.t (.t .h)) (.c (.t .h) (.c .h (.c .h (.c .h (.c .h .n))))))) ?_
    refine CO ?_
    refine CQ _ _ _ _ _ _ _ _ ?_ ?_ (.t7 20 2 4 8 9 18 19) (.refl _)
    · exact ⟨hI11.next (by omega) (by simp only [AP.step, c1, c2, c3, c5, c6, ↓reduceIte, Bool.false_eq_true]) (by simp only [AP.step, c1, c2, c3, c5, c6, List.append_nil, ↓reduceIte, Bool.false_eq_true]) (by simp only [AP.step, c1, c2, c3, c5, c6, List.append_nil, ↓reduceIte, Bool.false_eq_true]), by assumption, by assumption, by assumption, by assumption, by assumption, by assumption⟩
    · omega
   have c6p := kz c6
   refine Gs (Gm rfl (Gt (Ae rfl rfl) (Ga rfl (Gn (.t9 2 4 8 9 12 18 19 20 43) ?_))))
   refine Gc (fun c7 => ?_) (fun c7 => ?_)
   ·
    have c7p := kz c7
    refine AJ (Gt (Ah Fm rfl) ?_)
    refine AT (AK AP.l0 rfl rfl rfl C5 rfl (.t (.t (.t (.t .h))))) ?_
    refine AQ (AB (.t7 2 4 8 9 18 19 20) ?_)
    refine AV (AV (AV (AA (AJ ?_))))
    refine Gt (Av rfl rfl (IntWalk.i64_in _ (by omega))) ?_
    refine Gm rfl ?_
    refine AQ (AB (.t7 2 4 8 9 18 19 20) ?_)
    refine CQ _ _ _ _ _ _ _ _ ?_ ?_ (.t7 20 2 4 8 9 18 19) (.refl _)
    · exact ⟨hI11.next (by omega) (by simp only [AP.step, c1, c2, c3, c5, c6, c7, ↓reduceIte, Bool.false_eq_true]) (by simp only [AP.step, c1, c2, c3, c5, c6, c7, List.append_nil, ↓reduceIte, Bool.false_eq_true]) (by simp only [AP.step, c1, c2, c3, c5, c6, c7, List.append_nil, ↓reduceIte, Bool.false_eq_true]), by assumption, by assumption, by assumption, by assumption, by assumption, by assumption⟩
    · omega
   have c7p := kz c7
   refine Gs (Gm rfl (Gt (CN rfl rfl) (Ga rfl (Gn (.t9 2 4 8 9 12 18 19 20 47) ?_))))
   refine Gc (fun c8 => ?_) (fun c8 => ?_)
   ·
    have c8p := kz c8
    refine AJ (Gm rfl (Gt (Ah Fm rfl) ?_))
    refine AT (AK AP.l0 rfl rfl rfl C5 rfl (.t (.t (.t (.t .h))))) ?_
    refine Gt (Ah Kk rfl) ?_
    refine AT (AK AP.l1 rfl rfl rfl C5 rfl (.t (.t (.t (.t .h))))) ?_
    refine AQ (AB (.t7 2 4 8 9 18 19 20) ?_)
    refine AV (AV (AV (AA (AJ ?_))))
    refine Gt (Av rfl rfl (IntWalk.i64_in _ (by omega))) ?_
    refine Gm rfl ?_
    refine AQ (AB (.t7 2 4 8 9 18 19 20) ?_)
    refine CQ _ _ _ _ _ _ _ _ ?_ ?_ (.t7 20 2 4 8 9 18 19) (.refl _)
    · exact ⟨hI11.next (by omega) (by simp only [AP.step, c1, c2, c3, c5, c6, c7, c8, ↓reduceIte, Bool.false_eq_true]) (by simp only [AP.step, c1, c2, c3, c5, c6, c7, c8, List.append_nil, ↓reduceIte, Bool.false_eq_true]) (by simp only [AP.step, c1, c2, c3, c5, c6, c7, c8, List.append_nil, ↓reduceIte, Bool.false_eq_true]), by assumption, by assumption, by assumption, by assumption, by assumption, by assumption⟩
    · omega
   have c8p := kz c8
   refine Aa ?_
   refine AB (.t7 2 4 8 9 18 19 20) ?_
   refine AV (AV (AV (AA (AJ ?_))))
   refine Gt (Av rfl rfl (IntWalk.i64_in _ (by omega))) ?_
   refine Gm rfl ?_
   refine AQ (AB (.t7 2 4 8 9 18 19 20) ?_)
   refine CQ _ _ _ _ _ _ _ _ ?_ ?_ (.t7 20 2 4 8 9 18 19) (.refl _)
   · exact ⟨hI11.next (by omega) (by simp only [AP.step, c1, c2, c3, c5, c6, c7, c8, ↓reduceIte, Bool.false_eq_true]) (by simp only [AP.step, c1, c2, c3, c5, c6, c7, c8, List.append_nil, ↓reduceIte, Bool.false_eq_true]) (by simp only [AP.step, c1, c2, c3, c5, c6, c7, c8, List.append_nil, ↓reduceIte, Bool.false_eq_true]), by assumption, by assumption, by assumption, by assumption, by assumption, by assumption⟩
   · omega
  have c5p := kz c5
  refine Gs (Gt (Ae rfl rfl) (Ga rfl (Gn (.t11 2 4 8 9 11 12 18 19 20 27 53) ?_)))
  refine Gc (fun c9 => ?_) (fun c9 => ?_)
  ·
   have c9p := kz c9
   refine Gs (Gt (Ah Kk rfl) (Gt (AG rfl A3 .m4 AP.l1 rfl rfl) (Gm rfl ?_)))
   refine Ag rfl cq (.c rfl (.c rfl (.c rfl .n))) (.c (.t (.t (.t (.t .h)))) .n) (JR _ _ _ _ (by first | assumption | omega)) (fun v14 B hv => ?_)
   obtain ⟨rfl, rfl⟩ := hv
   refine Ag rfl PH (.c rfl (.c rfl .n)) (.c (.t (.t .h)) (.c (.t .h) .n)) (BM _ _ _ _ (by assumption) (by assumption) (by assumption) _ (by have := AP.H8 t t.verb ((u.getD k.toNat 0).toNat : Int); omega)) (fun v15 B hv => ?_)
   obtain ⟨y16, y17, rfl, y18, y19, y20, rfl⟩ := hv
   refine Gn (.t7 2 4 8 9 18 19 20) (AJ (Gt (Ah Fm rfl) ?_))
   refine AT (AK AP.l0 rfl rfl rfl C5 rfl (.t (.t .h))) ?_
   refine Gt (Ah Kk rfl) ?_
   refine AT (AK AP.l1 rfl rfl rfl C5 rfl (.t (.t .h))) ?_
   refine AQ (AB (.t7 2 4 8 9 18 19 20) ?_)
   refine AV (AV (AA (AJ ?_)))
   refine Gt (Av rfl rfl (IntWalk.i64_in _ (by omega))) ?_
   refine Gm rfl ?_
   refine AQ (AB (.t7 2 4 8 9 18 19 20) ?_)
   refine B9 (.c (.t .h) (.c .h (.c (.t .h) (.c (.t .h) (.c .h (.c .h (.c .h .n))))))) ?_
   refine CO ?_
   refine CQ _ _ _ _ _ _ _ _ ?_ ?_ (.t7 20 2 4 8 9 18 19) (.refl _)
   · exact ⟨hI11.next (by omega) (by simp only [AP.step, c1, c2, c3, c5, c9, ↓reduceIte, Bool.false_eq_true]) (by simp only [AP.step, c1, c2, c3, c5, c9, List.append_nil, ↓reduceIte, Bool.false_eq_true]) (by simp only [AP.step, c1, c2, c3, c5, c9, List.append_nil, ↓reduceIte, Bool.false_eq_true]), by assumption, by assumption, by assumption, by assumption, by assumption, by assumption⟩
   · omega
  have c9p := kz c9
  refine Gs (Gt (Ae rfl rfl) (Ga rfl (Gn (.t11 2 4 8 9 11 12 18 19 20 27 62) ?_)))
  refine Gc (fun c10 => ?_) (fun c10 => ?_)
  ·
   have c10p := kz c10
   refine Gs (Gm rfl (Gt (Ae rfl rfl) (Gn (.t9 2 4 8 9 11 18 19 20 65) ?_)))
   refine Gc (fun c11 => ?_) (fun c11 => ?_)
   ·
    have c11p := kz c11
    refine AJ (Gt (Ah Fm rfl) ?_)
    refine AT (AK AP.l0 rfl rfl rfl C5 rfl (.t (.t (.t (.t .h))))) ?_
    refine AQ (AB (.t7 2 4 8 9 18 19 20) ?_)
    refine AV (AV (AA (AJ ?_)))
    refine Gt (Av rfl rfl (IntWalk.i64_in _ (by omega))) ?_
    refine Gm rfl ?_
    refine AQ (AB (.t7 2 4 8 9 18 19 20) ?_)
    refine CQ _ _ _ _ _ _ _ _ ?_ ?_ (.t7 20 2 4 8 9 18 19) (.refl _)
    · exact ⟨hI11.next (by omega) (by simp only [AP.step, c1, c2, c3, c5, c9, c10, c11, ↓reduceIte, Bool.false_eq_true]) (by simp only [AP.step, c1, c2, c3, c5, c9, c10, c11, List.append_nil, ↓reduceIte, Bool.false_eq_true]) (by simp only [AP.step, c1, c2, c3, c5, c9, c10, c11, List.append_nil, ↓reduceIte, Bool.false_eq_true]), by assumption, by assumption, by assumption, by assumption, by assumption, by assumption⟩
    · omega
   have c11p := kz c11
   refine AJ (Gm rfl ?_)
   refine Ag rfl ai (.c rfl (.c rfl .n)) (.c (.t (.t (.t (.t .h)))) .n) (G1 _ _ _ (by first | assumption | omega)) (fun v21 B hv => ?_)
   obtain ⟨rfl, rfl⟩ := hv
   refine AQ (AB (.t7 2 4 8 9 18 19 20) ?_)
   refine AV (AV (AA (AJ ?_)))
   refine Gt (Av rfl rfl (IntWalk.i64_in _ (by omega))) ?_
   refine Gm rfl ?_
   refine AQ (AB (.t7 2 4 8 9 18 19 20) ?_)
   refine B9 (.c (.t .h) (.c (.t .h) (.c (.t .h) (.c (.t .h) (.c .h (.c .h (.c .h .n))))))) ?_
   refine CO ?_
   refine CQ _ _ _ _ _ _ _ _ ?_ ?_ (.t7 20 2 4 8 9 18 19) (.refl _)
   · exact ⟨hI11.next (by omega) (by simp only [AP.step, c1, c2, c3, c5, c9, c10, c11, ↓reduceIte, Bool.false_eq_true]) (by simp only [AP.step, c1, c2, c3, c5, c9, c10, c11, List.append_nil, ↓reduceIte, Bool.false_eq_true]) (by simp only [AP.step, c1, c2, c3, c5, c9, c10, c11, List.append_nil, ↓reduceIte, Bool.false_eq_true]), by assumption, by assumption, by assumption, by assumption, by assumption, by assumption⟩
   · omega
  have c10p := kz c10
  refine Gs (Gt (Ae rfl rfl) (Ga rfl (Gn (.t10 2 4 8 9 11 12 18 19 20 69) ?_)))
  refine Gc (fun c12 => ?_) (fun c12 => ?_)
  ·
   have c12p := kz c12
   refine Gs (Gm rfl (Gn (.t10 2 4 8 9 11 12 18 19 20 71) (Af (Gs (Gt (Ae rfl rfl) (Ga rfl (Gn (.t10 2 4 8 9 11 12 18 19 20 77) ?_)))))))
   refine Gc (fun c13 => ?_) (fun c13 => ?_)
   ·
    have c13p := kz c13
    refine Gs (Gt (Ah Fm rfl) ?_)
    refine AT (AK AP.l0 rfl rfl rfl C5 rfl (.t (.t (.t (.t .h))))) ?_
    refine Gn (.t8 2 4 8 9 11 18 19 20) (AJ (Gm rfl ?_))
    refine Ag rfl ai (.c rfl (.c rfl .n)) (.c (.t (.t (.t (.t .h)))) .n) (G1 _ _ _ (by first | assumption | omega)) (fun v22 B hv => ?_)
    obtain ⟨rfl, rfl⟩ := hv
    refine AQ (AB (.t7 2 4 8 9 18 19 20) ?_)
    refine AV (AV (AV (AA (AJ ?_))))
    refine Gt (Av rfl rfl (IntWalk.i64_in _ (by omega))) ?_
    refine Gm rfl ?_
    refine AQ (AB (.t7 2 4 8 9 18 19 20) ?_)
    refine B9 (.c (.t .h) (.c (.t .h) (.c (.t .h) (.c (.t .h) (.c .h (.c .h (.c .h .n))))))) ?_
    refine CO ?_
    refine CQ _ _ _ _ _ _ _ _ ?_ ?_ (.t7 20 2 4 8 9 18 19) (.refl _)
    · exact ⟨hI11.next (by omega) (by simp only [AP.step, c1, c2, c3, c5, c9, c10, c12, c13, ↓reduceIte, Bool.false_eq_true]) (by simp only [AP.step, c1, c2, c3, c5, c9, c10, c12, c13, List.append_nil, ↓reduceIte, Bool.false_eq_true]) (by simp only [AP.step, c1, c2, c3, c5, c9, c10, c12, c13, List.append_nil, ↓reduceIte, Bool.false_eq_true]), by assumption, by assumption, by assumption, by assumption, by assumption, by assumption⟩
    · omega
   have c13p := kz c13
   refine CG (Gm rfl (Gt (Ae rfl rfl) (Gn (.t8 2 4 8 9 18 19 20 73) ?_)))
   refine Gc (fun c14 => ?_) (fun c14 => ?_)
   ·
    have c14p := kz c14
    refine AJ ?_
    refine Ag rfl dV (.c rfl .n) (.c (.t (.t (.t (.t .h)))) .n) (KY _ _) (fun v23 B hv => ?_)
    obtain ⟨rfl, rfl⟩ := hv
    refine Gn (.t7 2 4 8 9 18 19 20) (AJ (Gt (Ah Fm rfl) ?_))
    refine AT (AK AP.l0 rfl rfl rfl C5 rfl .h) ?_
    refine Gt (Ah Gw rfl) ?_
    refine AT (AK AP.l2 rfl rfl rfl Eo rfl .h) ?_
    refine AQ (AB (.t7 2 4 8 9 18 19 20) ?_)
    refine AV (AV (AV (AA (AJ ?_))))
    refine Gt (Av rfl rfl (IntWalk.i64_in _ (by omega))) ?_
    refine Gm rfl ?_
    refine AQ (AB (.t7 2 4 8 9 18 19 20) ?_)
    refine B9 (.c (.t .h) (.c (.t .h) (.c (.t .h) (.c (.t .h) (.c .h (.c .h (.c .h .n))))))) ?_
    refine CO ?_
    refine CQ _ _ _ _ _ _ _ _ ?_ ?_ (.t7 20 2 4 8 9 18 19) (.refl _)
    · exact ⟨hI11.next (by omega) (by simp only [AP.step, c1, c2, c3, c5, c9, c10, c12, c13, c14, ↓reduceIte, Bool.false_eq_true]) (by simp only [AP.step, c1, c2, c3, c5, c9, c10, c12, c13, c14, List.append_nil, ↓reduceIte, Bool.false_eq_true]) (by simp only [AP.step, c1, c2, c3, c5, c9, c10, c12, c13, c14, List.append_nil, ↓reduceIte, Bool.false_eq_true]), by assumption, by assumption, by assumption, by assumption, by assumption, by assumption⟩
    · omega
   have c14p := kz c14
   refine Aa ?_
   refine AB (.t7 2 4 8 9 18 19 20) ?_
   refine AA (AJ (Gt (Ah Fm rfl) ?_))
   refine AT (AK AP.l0 rfl rfl rfl C5 rfl (.t (.t (.t (.t .h))))) ?_
   refine Gt (Ah Gw rfl) ?_
   refine AT (AK AP.l2 rfl rfl rfl Eo rfl (.t (.t (.t (.t .h))))) ?_
   refine AQ (AB (.t7 2 4 8 9 18 19 20) ?_)
   refine AV (AV (AV (AA (AJ ?_))))
   refine Gt (Av rfl rfl (IntWalk.i64_in _ (by omega))) ?_
   refine Gm rfl ?_
   refine AQ (AB (.t7 2 4 8 9 18 19 20) ?_)
   refine CQ _ _ _ _ _ _ _ _ ?_ ?_ (.t7 20 2 4 8 9 18 19) (.refl _)
   · exact ⟨hI11.next (by omega) (by simp only [AP.step, c1, c2, c3, c5, c9, c10, c12, c13, c14, ↓reduceIte, Bool.false_eq_true]) (by simp only [AP.step, c1, c2, c3, c5, c9, c10, c12, c13, c14, List.append_nil, ↓reduceIte, Bool.false_eq_true]) (by simp only [AP.step, c1, c2, c3, c5, c9, c10, c12, c13, c14, List.append_nil, ↓reduceIte, Bool.false_eq_true]), by assumption, by assumption, by assumption, by assumption, by assumption, by assumption⟩
   · omega
  have c12p := kz c12
  refine Aa ?_
  refine AB (.t7 2 4 8 9 18 19 20) ?_
  refine AV (AV (AA (AJ ?_)))
  refine Gt (Av rfl rfl (IntWalk.i64_in _ (by omega))) ?_
  refine Gm rfl ?_
  refine AQ (AB (.t7 2 4 8 9 18 19 20) ?_)
  refine CQ _ _ _ _ _ _ _ _ ?_ ?_ (.t7 20 2 4 8 9 18 19) (.refl _)
  · exact ⟨hI11.next (by omega) (by simp only [AP.step, c1, c2, c3, c5, c9, c10, c12, ↓reduceIte, Bool.false_eq_true]) (by simp only [AP.step, c1, c2, c3, c5, c9, c10, c12, List.append_nil, ↓reduceIte, Bool.false_eq_true]) (by simp only [AP.step, c1, c2, c3, c5, c9, c10, c12, List.append_nil, ↓reduceIte, Bool.false_eq_true]), by assumption, by assumption, by assumption, by assumption, by assumption, by assumption⟩
  · omega
 have c2p := kz c2
 refine Bf (AX (AX (Ai ?_)))
 refine AB (.t4 2 4 8 9) ?_
 refine AA (Ao ?_)
 refine BE (N := 7) [0, 0, 2, 7, 15, 31, 63] mix (by kernel_rfl) rfl ?_
 refine Pf 0 rfl (AZ rfl D2 .m4 (AU.id AP.fl.len AP.fl.one) rfl) ?_
 refine An 1 rfl (by kernel_rfl) ?_
 refine Ag rfl Ym (.c rfl .n) (.c (.t (.t (.t .h))) (.c (.t (.t .h)) .n)) (Ct _ _ _ _ (by assumption) (by assumption) (by omega)) (fun v24 B hv => ?_)
 obtain ⟨rfl, rfl⟩ := hv
 refine Bp rfl ⟨?_, ?_⟩
 · exact (Po rfl (AZ rfl D2 .m3 (AU.id AP.fl.len AP.fl.one) rfl) rfl rfl Aq)
 refine An 2 rfl (by kernel_rfl) ?_
 refine Ag rfl Ym (.c rfl .n) (.c (.t (.t .h)) (.c (.t .h) .n)) (Ct _ _ _ _ (by assumption) (by assumption) (by omega)) (fun v25 B hv => ?_)
 obtain ⟨rfl, rfl⟩ := hv
 refine Bp rfl ⟨?_, ?_⟩
 · exact (Po rfl (AZ rfl D2 .m2 (AU.id AP.fl.len AP.fl.one) rfl) rfl rfl Aq)
 refine An 3 rfl (by kernel_rfl) ?_
 refine AT (AK (AU.id AP.fl.len AP.fl.one) rfl rfl rfl KS rfl (.t (.t (.t (.t .h))))) ?_
 refine BN rfl ⟨?_, ?_⟩
 · exact (Pk Aq)
 refine Pf 4 rfl (A0 rfl) (Pf 5 rfl (A0 rfl) (Pf 6 rfl (A0 rfl) ?_))
 refine A4 (by kernel_rfl) ?_
 refine AB (.t4 4 5 6 7) ?_
 refine AA (Ab ?_)
 refine AY rfl (.cell rfl .m4 (.inl ⟨(by rw [AP.fl.len]; exact D2), rfl⟩) (.tmp rfl (.tmp rfl (.tmp rfl .n)))) ?_
 intro w1 hS; refine ⟨?_, hS.Am⟩; rw [show X.DR u = _ from AW c1, hI11.done (by omega)]; rfl
theorem Gr (b : UInt8) (w : World) : Ei Tryz.prog 70 #[.int .u8 (b.toNat : Int)] w fun v w' => v = .bool (Bb.Ft b) ∧ CB w w' := by
 refine Al [] [] Tryz.func70 rfl rfl rfl (St.start w []) ?_
 refine Gs (Ga rfl (Gn (.t1 0) (Gs (Gm rfl (Gt (CN rfl rfl) (Gm rfl (Bi 5 rfl rfl (fun q => AE rfl) ?_)))))))
 refine Bi 5 rfl rfl (fun q => A8 (Bh rfl q) rfl) (Gt (BK rfl rfl (fun h => h)) (Ga rfl (Gn (.t1 2) (Ab ?_))))
 refine AY rfl (.tmp rfl .n) ?_
 intro w1 hS; refine ⟨?_, hS.Am⟩; rfl
end Go.Proofs.YtoidpggbbfncpaaGreatDoor
