/- What the functions that the law TopRuns reaches compute: walks, part 6. No condition. -/
import Derived.Test.YtoidpggbbfncpaaGreatDoorCards
import Derived.Test.YtoidpggbbfncpaaGreatDoorTie
import Derived.Deep.DeepHandedRow
import Derived.Test.YtoidpggbbfncpaaGreatDoorRows
import Derived.Test.YtoidpggbbfncpaaGreatDoorTopRunsEc3
import Derived.Test.YtoidpggbbfncpaaGreatDoorTopRunsRa1
import Derived.Test.YtoidpggbbfncpaaGreatDoorTopRunsRb1
import Derived.Test.YtoidpggbbfncpaaGreatDoorTopRunsRc1
import Derived.Test.YtoidpggbbfncpaaGreatDoorTopRunsWalks
import Derived.Test.YtoidpggbbfncpaaGreatDoorTopRunsWalks2
import Derived.Test.YtoidpggbbfncpaaGreatDoorTopRunsWalks3
import Derived.Test.YtoidpggbbfncpaaGreatDoorTopRunsWalks4
import Derived.Test.YtoidpggbbfncpaaGreatDoorTopRunsWalks5
set_option linter.unusedSimpArgs false
set_option linter.unusedVariables false
set_option maxRecDepth 100000
set_option maxHeartbeats 1000000
namespace Go.Proofs.YtoidpggbbfncpaaGreatDoor
open Go Go.Ing Go.RowKit Go.ChangeShapes Go.WideShapes Go.ChangeAt
theorem NL {t0 : Nat} (l : BJ) (qs : List Aq) (w : World) (r0 : Rd w l.queue t0 1 (qs.flatMap A4)) : EL Tryz.prog 45 #[.agg l.enc.toArray] w fun v w' => v = .bool (Bb.Bq l qs) ∧ B4 w w' := by
 have hl := r0.K1 DB (by decide)
 refine Am [] [] Tryz.func45 rfl rfl rfl (St.start w []) ?_
 refine Gs ?_
 refine B3 rfl rfl rfl (fun b1 => ?_)
 refine Ga rfl (Gn (.t1 1) (B7 (Gt (Ai JB rfl) (Gt (AG rfl CN .m0 BJ.l0 rfl rfl) (Gt (BE rfl Tryz.underlying9 rfl) (Gt (CS rfl rfl) (Gm rfl ?_)))))))
 refine BU 10 rfl rfl (fun q => Ai Fc rfl) (BU 10 rfl rfl (fun q => AG (cF rfl q) FQ .m0 BJ.l3 rfl rfl) (BU 10 rfl rfl (fun q => Ao rfl Tryz.underlying52 (cF rfl q)) (BU 10 rfl rfl (fun q => CS (cF rfl q) rfl) ?_)))
 refine Gt (BP rfl rfl (fun h => by rw [h]; rfl)) ?_
 refine Gm rfl (BU 16 rfl rfl (fun q => Ai M5 rfl) (BU 16 rfl rfl (fun q => AG (cF rfl q) DV .m0 BJ.l1 rfl rfl) (BU 16 rfl rfl (fun q => AE (cF rfl q)) ?_)))
 refine C4 (t := 19) rfl rfl rfl (fun qc q => Ai JB rfl) ?_
 refine C4 (t := 19) rfl rfl rfl (fun qc q => AG (Bc rfl (by rw [qc, q]; rfl)) CN .m0 BJ.l0 rfl rfl) ?_
 refine C4 (t := 19) rfl rfl rfl (fun qc q => BE rfl Tryz.underlying9 (Bc rfl (by rw [qc, q]; rfl))) ?_
 refine C4 (t := 19) rfl rfl rfl (fun qc q => CS (Bc rfl (by rw [qc, q]; rfl)) rfl) ?_
 refine BU 16 rfl rfl (fun q => BI (cF rfl q) rfl (fun h => by rw [q, h]; rfl)) ?_
 refine Gt (BP rfl rfl (fun h => by rw [h]; rfl)) ?_
 refine Gm rfl (BU 26 rfl rfl (fun q => Ai ND rfl) (BU 26 rfl rfl (fun q => AG (cF rfl q) DV .m0 BJ.l2 rfl rfl) (BU 26 rfl rfl (fun q => AE (cF rfl q)) ?_)))
 refine C4 (t := 29) rfl rfl rfl (fun qc q => Ai JB rfl) ?_
 refine C4 (t := 29) rfl rfl rfl (fun qc q => AG (Bc rfl (by rw [qc, q]; rfl)) CN .m0 BJ.l0 rfl rfl) ?_
 refine C4 (t := 29) rfl rfl rfl (fun qc q => Dj (Bc rfl (by rw [qc, q]; rfl)) rfl) ?_
 refine C4 (t := 29) rfl rfl rfl (fun qc q => AE (Bc rfl (by rw [qc, q]; rfl))) ?_
 refine Cp (t := 33) rfl rfl rfl (fun qc q => Ai M5 rfl) ?_
 refine Cp (t := 33) rfl rfl rfl (fun qc q => AG (Bc rfl (by rw [qc, q]; rfl)) DV .m0 BJ.l1 rfl rfl) ?_
 refine C4 (t := 29) rfl rfl rfl (fun qc q => BP (Bc rfl (by rw [qc, q]; rfl)) rfl (fun h => by rw [qc, q, h]; rfl)) ?_
 refine BU 26 rfl rfl (fun q => BI (cF rfl q) rfl (fun h => by rw [q, h]; rfl)) ?_
 refine Gt (BP rfl rfl (fun h => by rw [h]; rfl)) ?_
 refine Gn (.t2 1 38) ?_
 refine Gc (fun c1 => ?_) (fun c1 => ?_)
 ·
  refine Gs (Ga rfl (Gn (.t1 2) (Ab (AD ?_))))
  refine AY rfl (.tmp rfl .n) ?_
  intro w1 hS; refine ⟨congrArg Value.bool ?_, hS.Aj⟩; rw [Bb.Bq, show Bb.H9 l = true from c1]; rfl
 have c1p := kz c1
 have hq : (l.queue.len : Int) ≤ 6 := by omega
 refine Aa ?_
 refine AB (.t1 1) ?_
 refine AA (Ap (Ap ?_))
 refine BD (N := 9) [0, 1, 3, 0, 8, 24, 63, 127, 0] mix (by kernel_rfl) rfl ?_
 refine Pf 0 rfl (Ai Fc rfl) (Pf 1 rfl (AG rfl FQ .m0 BJ.l3 rfl rfl) (Pf 3 rfl (Ai JB rfl) (Pf 4 rfl (AG rfl CN .m0 BJ.l0 rfl rfl) (Pf 8 rfl (AE rfl) ?_))))
 refine Io 2 5 rfl rfl (by kernel_rfl) ?_ ?_
 ·
  refine BC rfl UQ (.c rfl .n) .n (Bu _ _ (by first | assumption | omega)) (fun w hS => (Kn.Hb r0) w hS) (fun v1 B hv => ?_)
  obtain ⟨y2, rfl, y3, rfl⟩ := hv
  refine Bo rfl ⟨?_, ?_⟩
  · exact (Po rfl (AE rfl) rfl rfl (Po rfl (AG rfl CN .m1 BJ.l0 rfl rfl) rfl rfl (Po rfl (Ai JB rfl) rfl rfl (Pk (Pk Ar)))))
  refine An 5 rfl (by kernel_rfl) ?_
  refine Eu A4 DB rfl Tryz.underlying52 Ei Rg rfl (by decide) (by decide) rfl rfl (fun b2 => ?_)
  refine Bo rfl ⟨?_, ?_⟩
  · exact (Po rfl (AE rfl) rfl rfl (Pk (Pk (Po rfl (AG rfl FQ .m2 BJ.l3 rfl rfl) rfl rfl (Po rfl (Ai Fc rfl) rfl rfl Ar)))))
  refine An 6 rfl (by kernel_rfl) ?_
  refine CO DB rfl Tryz.underlying52 Ei Rg rfl XP (by decide) (by decide) rfl rfl (fun w hS => Src.DU Tryz.underlying52 ((Kn.own .m0) w hS)) (by (try dsimp only); omega) (fun _ => (.t .h)) (fun h5 h5l h5z => ?_)
  refine Bo rfl ⟨?_, ?_⟩
  · exact (Po rfl (AE rfl) rfl rfl (Pk (Pk (Pk (Pk Ar)))))
  refine Pf 7 rfl (Ao rfl Tryz.underlying52 rfl) ?_
  refine A1 (by kernel_rfl) ?_
  refine AB (.t3 45 46 47) ?_
  refine AA (Ae ?_)
  refine Bl (.t3 47 45 46) ?_
  refine CT (fun (k : Int) => 0 ≤ k ∧ k ≤ ((qs ++ [l.now]).length : Int) ∧ Bb.Bq l qs = ((qs ++ [l.now]).drop k.toNat).all Bb.FR) (fun (k : Int) => (((qs ++ [l.now]).length : Int) - k).toNat) (fun (k : Int) => [(47, .int .i64 k)]) (fun (k : Int) => []) (0) ?_ rfl rfl (fun k hI1 => ?_)
  · exact ⟨by omega, by omega, by rw [Bb.Bq, show Bb.H9 l = false from c1]; rfl⟩
  obtain ⟨hI11, hI12, hI13⟩ := hI1
  refine Gs (Gt (A6 rfl rfl) (AO (AA (Ap ?_))))
  refine Gc (fun c2 => ?_) (fun c2 => ?_)
  ·
   have c2p := kz c2
   have hk : k < ((qs ++ [l.now]).length : Int) := by simp only [List.length_append, List.length_cons, List.length_nil] at *; omega
   have hk7 : ((qs ++ [l.now]).length : Int) ≤ 7 := by simp only [List.length_append, List.length_cons, List.length_nil] at *; omega
   refine Aa ?_
   refine AB (.t3 45 46 47) ?_
   refine AA (Ap (Ae (Gs ?_)))
   refine Gt (Bm Ij (by decide) (Kn.own .m1) rfl rfl (by omega) (by simp only [List.length_append, List.length_cons, List.length_nil] at *; omega)) ?_
   refine Gt (DL rfl CN (Kn.own .m1) (by omega)) ?_
   refine Ga rfl (Gn (.t4 4 45 46 47) (B7 (Gm rfl (Gt (BE rfl Tryz.underlying9 rfl) (Gt (CS rfl rfl) (Gn (.t5 4 45 46 47 53) ?_))))))
   refine Gc (fun c3 => ?_) (fun c3 => ?_)
   ·
    refine Gs (Ga rfl (Gn (.t1 2) (Ab (AD (AP (AD (AD ?_)))))))
    refine AP (AD ?_)
    refine AY rfl (.tmp rfl .n) ?_
    intro w1 hS; refine ⟨congrArg Value.bool ?_, hS.Aj⟩; rw [hI13, Bb.Er (d := []) hI11 hk, Bb.FR, c3]; rfl
   have c3p := kz c3
   refine Aa ?_
   refine AB (.t4 4 45 46 47) ?_
   refine AA (Gs (Gm rfl (Gt (BE rfl Tryz.underlying9 rfl) (Gm rfl (Gn (.t6 4 45 46 47 55 56) (Ae ?_))))))
   refine Bl (.t6 56 4 45 46 47 55) ?_
   refine CT (fun (i : Int) => 0 ≤ i ∧ i ≤ (((qs ++ [l.now]).getD k.toNat []).length : Int) ∧ Bb.FR ((qs ++ [l.now]).getD k.toNat []) = (((qs ++ [l.now]).getD k.toNat []).drop i.toNat).all Bb.FJ) (fun (i : Int) => ((((qs ++ [l.now]).getD k.toNat []).length : Int) - i).toNat) (fun (i : Int) => [(56, .int .i64 i)]) (fun (i : Int) => []) (0) ?_ rfl rfl (fun i hI2 => ?_)
   · exact ⟨by omega, by omega, by rw [Bb.FR, c3]; rfl⟩
   obtain ⟨hI21, hI22, hI23⟩ := hI2
   refine Gs (Gt (A6 rfl rfl) (AO (AA (Ap ?_))))
   refine Gc (fun c4 => ?_) (fun c4 => ?_)
   ·
    have c4p := kz c4
    refine Aa ?_
    refine AB (.t6 4 45 46 47 55 56) ?_
    refine AA (Ap (Ae (Gs (Gm rfl (Ga rfl (Gn (.t7 4 5 45 46 47 55 56) (Gs ?_)))))))
    refine Gm rfl (Gm rfl ?_)
    refine Gt (Bg Tryz.underlying9 rfl rfl (by omega) (by omega)) ?_
    refine A7 rfl YU (.c rfl .n) (fun w hS => GI _ w) ?_
    refine Gt (BS rfl) (Gn (.t7 4 45 46 47 55 56 63) ?_)
    refine Gc (fun c5 => ?_) (fun c5 => ?_)
    ·
     have c5p := kz c5
     refine Gs (Ga rfl (Gn (.t1 2) (Ab (AP (AD (AD (AP ?_)))))))
     refine AP (AD (AD (AP (AD ?_))))
     refine AY rfl (.tmp rfl .n) ?_
     intro w1 hS; refine ⟨congrArg Value.bool ?_, hS.Aj⟩; rw [hI13, Bb.Er (d := []) hI11 hk, hI23, Bb.Er (d := 0) hI21 (by omega), show Bb.FJ _ = false from by simpa using c5]; rfl
    have c5p := kz c5
    refine Aa ?_
    refine AB (.t6 4 45 46 47 55 56) ?_
    refine AT (AA (AI ?_))
    refine Gt (As rfl rfl (IntWalk.i64_in _ (by omega))) ?_
    refine Gm rfl ?_
    refine AO (AB (.t6 4 45 46 47 55 56) ?_)
    refine B0 (i + 1) ?_ ?_ (.t6 56 4 45 46 47 55) (.refl _)
    · exact ⟨by omega, by omega, by rw [hI23, Bb.Er (d := 0) hI21 (by omega), show Bb.FJ _ = true from by simpa using c5]; rfl⟩
    · omega
   have c4p := kz c4
   refine BX (AW (AW (Ag ?_)))
   refine AB (.t3 45 46 47) ?_
   refine AT (AA (AI ?_))
   refine Gt (As rfl rfl (IntWalk.i64_in _ (by omega))) ?_
   refine Gm rfl ?_
   refine AO (AB (.t3 45 46 47) ?_)
   refine B0 (k + 1) ?_ ?_ (.t3 47 45 46) (.refl _)
   · exact ⟨by omega, by omega, by rw [hI13, Bb.Er (d := []) hI11 hk, hI23, show i.toNat = ((qs ++ [l.now]).getD k.toNat []).length from by omega, List.drop_length]; rfl⟩
   · omega
  have c2p := kz c2
  have hk : ¬ k < ((qs ++ [l.now]).length : Int) := by simp only [List.length_append, List.length_cons, List.length_nil] at *; omega
  refine BX (AW (AW (Ag ?_)))
  refine AB (.nil _) ?_
  refine AA (Gs (Ga rfl (AO (AA (Ab ?_)))))
  refine AY rfl (.tmp rfl .n) ?_
  intro w1 hS; refine ⟨congrArg Value.bool ?_, hS.Aj⟩; rw [hI13, show k.toNat = (qs ++ [l.now]).length from by omega, List.drop_length]; rfl
 ·
  refine Eu A4 DB rfl Tryz.underlying52 Ei Rg rfl (by decide) (by decide) rfl rfl (fun b3 => ?_)
  refine Bo rfl ⟨?_, ?_⟩
  · exact (Po rfl (AE rfl) rfl rfl (Pk (Pk (Po rfl (AG rfl FQ .m1 BJ.l3 rfl rfl) rfl rfl (Po rfl (Ai Fc rfl) rfl rfl Ar)))))
  refine An 2 rfl (by kernel_rfl) ?_
  refine BC rfl UQ (.c rfl .n) .n (Bu _ _ (by first | assumption | omega)) (fun w hS => (Kn.Hb r0) w hS) (fun v6 B hv => ?_)
  obtain ⟨y7, rfl, y8, rfl⟩ := hv
  refine Bo rfl ⟨?_, ?_⟩
  · exact (Po rfl (AE rfl) rfl rfl (Po rfl (AG rfl CN .m2 BJ.l0 rfl rfl) rfl rfl (Po rfl (Ai JB rfl) rfl rfl (Pk (Pk Ar)))))
  refine An 6 rfl (by kernel_rfl) ?_
  refine CO DB rfl Tryz.underlying52 Ei Rg rfl XP (by decide) (by decide) rfl rfl (fun w hS => Src.DU Tryz.underlying52 ((Kn.own .m1) w hS)) (by (try dsimp only); omega) (fun _ => .h) (fun h10 h10l h10z => ?_)
  refine Bo rfl ⟨?_, ?_⟩
  · exact (Po rfl (AE rfl) rfl rfl (Pk (Pk (Pk (Pk Ar)))))
  refine Pf 7 rfl (Ao rfl Tryz.underlying52 rfl) ?_
  refine A1 (by kernel_rfl) ?_
  refine AB (.t3 45 46 47) ?_
  refine AA (Ae ?_)
  refine Bl (.t3 47 45 46) ?_
  refine CT (fun (k : Int) => 0 ≤ k ∧ k ≤ ((qs ++ [l.now]).length : Int) ∧ Bb.Bq l qs = ((qs ++ [l.now]).drop k.toNat).all Bb.FR) (fun (k : Int) => (((qs ++ [l.now]).length : Int) - k).toNat) (fun (k : Int) => [(47, .int .i64 k)]) (fun (k : Int) => []) (0) ?_ rfl rfl (fun k hI1 => ?_)
  · exact ⟨by omega, by omega, by rw [Bb.Bq, show Bb.H9 l = false from c1]; rfl⟩
  obtain ⟨hI11, hI12, hI13⟩ := hI1
  refine Gs (Gt (A6 rfl rfl) (AO (AA (Ap ?_))))
  refine Gc (fun c6 => ?_) (fun c6 => ?_)
  ·
   have c6p := kz c6
   have hk : k < ((qs ++ [l.now]).length : Int) := by simp only [List.length_append, List.length_cons, List.length_nil] at *; omega
   have hk7 : ((qs ++ [l.now]).length : Int) ≤ 7 := by simp only [List.length_append, List.length_cons, List.length_nil] at *; omega
   refine Aa ?_
   refine AB (.t3 45 46 47) ?_
   refine AA (Ap (Ae (Gs ?_)))
   refine Gt (Bm Ij (by decide) (Kn.own .m0) rfl rfl (by omega) (by simp only [List.length_append, List.length_cons, List.length_nil] at *; omega)) ?_
   refine Gt (DL rfl CN (Kn.own .m0) (by omega)) ?_
   refine Ga rfl (Gn (.t4 4 45 46 47) (B7 (Gm rfl (Gt (BE rfl Tryz.underlying9 rfl) (Gt (CS rfl rfl) (Gn (.t5 4 45 46 47 53) ?_))))))
   refine Gc (fun c7 => ?_) (fun c7 => ?_)
   ·
    refine Gs (Ga rfl (Gn (.t1 2) (Ab (AD (AP (AD (AD ?_)))))))
    refine AP (AD ?_)
    refine AY rfl (.tmp rfl .n) ?_
    intro w1 hS; refine ⟨congrArg Value.bool ?_, hS.Aj⟩; rw [hI13, Bb.Er (d := []) hI11 hk, Bb.FR, c7]; rfl
   have c7p := kz c7
   refine Aa ?_
   refine AB (.t4 4 45 46 47) ?_
   refine AA (Gs (Gm rfl (Gt (BE rfl Tryz.underlying9 rfl) (Gm rfl (Gn (.t6 4 45 46 47 55 56) (Ae ?_))))))
   refine Bl (.t6 56 4 45 46 47 55) ?_
   refine CT (fun (i : Int) => 0 ≤ i ∧ i ≤ (((qs ++ [l.now]).getD k.toNat []).length : Int) ∧ Bb.FR ((qs ++ [l.now]).getD k.toNat []) = (((qs ++ [l.now]).getD k.toNat []).drop i.toNat).all Bb.FJ) (fun (i : Int) => ((((qs ++ [l.now]).getD k.toNat []).length : Int) - i).toNat) (fun (i : Int) => [(56, .int .i64 i)]) (fun (i : Int) => []) (0) ?_ rfl rfl (fun i hI2 => ?_)
   · exact ⟨by omega, by omega, by rw [Bb.FR, c7]; rfl⟩
   obtain ⟨hI21, hI22, hI23⟩ := hI2
   refine Gs (Gt (A6 rfl rfl) (AO (AA (Ap ?_))))
   refine Gc (fun c8 => ?_) (fun c8 => ?_)
   ·
    have c8p := kz c8
    refine Aa ?_
    refine AB (.t6 4 45 46 47 55 56) ?_
    refine AA (Ap (Ae (Gs (Gm rfl (Ga rfl (Gn (.t7 4 5 45 46 47 55 56) (Gs ?_)))))))
    refine Gm rfl (Gm rfl ?_)
    refine Gt (Bg Tryz.underlying9 rfl rfl (by omega) (by omega)) ?_
    refine A7 rfl YU (.c rfl .n) (fun w hS => GI _ w) ?_
    refine Gt (BS rfl) (Gn (.t7 4 45 46 47 55 56 63) ?_)
    refine Gc (fun c9 => ?_) (fun c9 => ?_)
    ·
     have c9p := kz c9
     refine Gs (Ga rfl (Gn (.t1 2) (Ab (AP (AD (AD (AP ?_)))))))
     refine AP (AD (AD (AP (AD ?_))))
     refine AY rfl (.tmp rfl .n) ?_
     intro w1 hS; refine ⟨congrArg Value.bool ?_, hS.Aj⟩; rw [hI13, Bb.Er (d := []) hI11 hk, hI23, Bb.Er (d := 0) hI21 (by omega), show Bb.FJ _ = false from by simpa using c9]; rfl
    have c9p := kz c9
    refine Aa ?_
    refine AB (.t6 4 45 46 47 55 56) ?_
    refine AT (AA (AI ?_))
    refine Gt (As rfl rfl (IntWalk.i64_in _ (by omega))) ?_
    refine Gm rfl ?_
    refine AO (AB (.t6 4 45 46 47 55 56) ?_)
    refine B0 (i + 1) ?_ ?_ (.t6 56 4 45 46 47 55) (.refl _)
    · exact ⟨by omega, by omega, by rw [hI23, Bb.Er (d := 0) hI21 (by omega), show Bb.FJ _ = true from by simpa using c9]; rfl⟩
    · omega
   have c8p := kz c8
   refine BX (AW (AW (Ag ?_)))
   refine AB (.t3 45 46 47) ?_
   refine AT (AA (AI ?_))
   refine Gt (As rfl rfl (IntWalk.i64_in _ (by omega))) ?_
   refine Gm rfl ?_
   refine AO (AB (.t3 45 46 47) ?_)
   refine B0 (k + 1) ?_ ?_ (.t3 47 45 46) (.refl _)
   · exact ⟨by omega, by omega, by rw [hI13, Bb.Er (d := []) hI11 hk, hI23, show i.toNat = ((qs ++ [l.now]).getD k.toNat []).length from by omega, List.drop_length]; rfl⟩
   · omega
  have c6p := kz c6
  have hk : ¬ k < ((qs ++ [l.now]).length : Int) := by simp only [List.length_append, List.length_cons, List.length_nil] at *; omega
  refine BX (AW (AW (Ag ?_)))
  refine AB (.nil _) ?_
  refine AA (Gs (Ga rfl (AO (AA (Ab ?_)))))
  refine AY rfl (.tmp rfl .n) ?_
  intro w1 hS; refine ⟨congrArg Value.bool ?_, hS.Aj⟩; rw [hI13, show k.toNat = (qs ++ [l.now]).length from by omega, List.drop_length]; rfl
theorem NF {t0 : Nat} (l : BJ) (qs : List Aq) (u : Aq) (hu : u.length ≤ 9000000000000000000) : Ew Tryz.prog 63 #[.agg l.enc.toArray, BQ u] [] (fun w => Rd w l.queue t0 1 (qs.flatMap A4)) (fun v B => (Bb.Bq l qs = false ∧ v = .tuple #[.agg l.enc.toArray, .int .i64 0, .int .i64 2] ∧ B = []) ∨ (Bb.Bq l qs = true ∧ ∃ h' : Hd, v = .tuple #[.agg (BJ.enc ⟨(Bb.feed (Bb.start l qs) u).now, (Bb.feed (Bb.start l qs) u).Cj, (Bb.feed (Bb.start l qs) u).ret, h'⟩).toArray, .int .i64 (Bb.feed (Bb.start l qs) u).lost, .int .i64 0] ∧ h'.len = (Bb.feed (Bb.start l qs) u).queue.length ∧ B = [Ad.own h' 9 1 ((Bb.feed (Bb.start l qs) u).queue.flatMap A4)])) := by
 intro w hS0 hH
 have r0 := hH
 have hl0 := r0.K1 DB (by decide)
 refine Am _ _ Tryz.func63 rfl rfl rfl (hS0) ?_
 refine Gs ?_
 refine B3 rfl rfl rfl (fun b1 => ?_)
 refine BF rfl Z2 rfl (fun b2 => ?_)
 refine Ga rfl (Ga rfl (Gn (.t3 1 2 4) (B7 (Gt (AZ rfl I9 .m1 (AS.id BJ.fl.len BJ.fl.one) rfl) ?_))))
 refine A7 rfl aU (.c rfl .n) (fun w hS => NL _ _ w ((Kn.Hb r0) w hS)) ?_
 refine Gt (BS rfl) (Gn (.t4 1 2 4 14) ?_)
 refine Gc (fun c1 => ?_) (fun c1 => ?_)
 ·
  refine Gs (Gt (AZ rfl I9 .m1 (AS.id BJ.fl.len BJ.fl.one) rfl) ?_)
  refine AR (AJ (AS.id BJ.fl.len BJ.fl.one) rfl rfl rfl Mu rfl .h) ?_
  refine Ga rfl (Ga rfl (Gn (.t3 4 5 6) (Ab (AD ?_))))
  refine AY rfl (.cell rfl .m0 (.inl ⟨(by rw [BJ.fl.len]; exact I9), rfl⟩) (.tmp rfl (.tmp rfl .n))) ?_
  intro w1 hS
  have hS := (hS.perm (Av.perm .n)).Az
  exact ⟨_, .inl ⟨by simpa using c1, rfl, rfl⟩, hS⟩
 have c1p := kz c1
 have hgd : Bb.Bq l qs = true := by simpa using c1
 have hh := Bb.Ub hgd
 have hq6 : qs.length ≤ 17592186044416 := by omega
 refine Aa ?_
 refine AB (.t3 1 2 4) ?_
 refine AA (Gs (Gt (Ai Fc rfl) (Gt (AG rfl FQ .m1 BJ.l3 rfl rfl) ?_)))
 refine BC rfl UQ (.c rfl .n) .n (Bu _ _ (by first | assumption | omega)) (fun w hS => (Kn.Hb r0) w hS) (fun v1 B hv => ?_)
 obtain ⟨y2, rfl, y3, rfl⟩ := hv
 refine Gt (Ai Fc rfl) ?_
 refine AR (AJ BJ.l3 rfl rfl rfl M3 rfl (.t (.t .h))) ?_
 refine Gn (.t3 1 2 4) (Gs (Ga rfl (AO (AA (Gs (Gt (Ai JB rfl) (Gt (AG rfl CN .m2 BJ.l0 rfl rfl) ?_)))))))
 refine Ng rfl Tryz.underlying9 Tryz.underlying105 Tryz.underlying5 rfl (fun h5 h5l => ?_)
 refine Ga rfl (Gn (.t5 1 2 4 7 8) (B7 (Gm rfl (Gt (BE rfl Tryz.underlying9 rfl) (Gm rfl (Gn (.t7 1 2 4 7 8 24 25) (Ae ?_)))))))
 refine Bl (.t7 7 8 25 1 2 4 24) ?_
 refine BZ (.t (.t (.t .h))) ?_
 refine BZ (.t (.t .h)) ?_
 refine BZ (.t (.t .h)) ?_
 refine Qw (fun (k : Int) (now : Aq) (Cj : Bool) (ret : Bool) (queue : List Aq) (lost : Int) (h : Hd) (g : Hd) => Bb.I (Bb.start l qs) u k ⟨now, Cj, ret, queue, lost⟩ ∧ h.len = now.length ∧ g.len = queue.length) (fun (k : Int) (now : Aq) (Cj : Bool) (ret : Bool) (queue : List Aq) (lost : Int) (h : Hd) (g : Hd) => ((u.length : Int) - k).toNat) (fun (k : Int) (now : Aq) (Cj : Bool) (ret : Bool) (queue : List Aq) (lost : Int) (h : Hd) (g : Hd) => [(7, .int .i64 lost), (8, h.val), (25, .int .i64 k)]) (fun (k : Int) (now : Aq) (Cj : Bool) (ret : Bool) (queue : List Aq) (lost : Int) (h : Hd) (g : Hd) => [Ad.own h 5 1 (now.flatMap C8), Ad.own g 9 1 (queue.flatMap A4), Ad.box b1 75 (BJ.enc ⟨l.now, Cj, ret, g⟩)]) (0) (l.now) (l.Cj) (l.ret) (qs) (0) (_) (_) ?_ rfl rfl (fun k now Cj ret queue lost h g hI1 => ?_)
 · exact ⟨Bb.I.start hh.1 (show qs.length ≤ 6 by omega) rfl, by assumption, by assumption⟩
 obtain ⟨hI11, hl, hg⟩ := hI1; have hk0 := hI11.k0; have hk1 := hI11.k1; have hn : now.length ≤ 60 := hI11.now; have hq : queue.length ≤ 6 := hI11.queue; have hlo : 0 ≤ lost ∧ lost ≤ k := hI11.lost
 refine Gs (Gt (A6 rfl rfl) (AO (AA (Ap ?_))))
 refine Gc (fun c2 => ?_) (fun c2 => ?_)
 ·
  have c2p := kz c2
  refine Aa ?_
  refine AB (.t7 1 2 4 7 8 24 25) ?_
  refine AA (Ap (Ae (Gs (Gm rfl (Ga rfl (Gn (.t8 1 2 4 7 8 9 24 25) (Gs ?_)))))))
  refine Gm rfl (Gm rfl ?_)
  refine Gt (Bg Tryz.underlying9 rfl rfl (by omega) (by omega)) ?_
  refine Ga rfl (Gn (.t8 1 2 4 7 8 10 24 25) (Gs (Gt (Ai ND rfl) (Gt (AG rfl DV .m2 BJ.l2 rfl rfl) (Ga rfl (Gn (.t9 1 2 4 7 8 10 11 24 25) (Gs ?_)))))))
  refine Gt (Ai ND rfl) ?_
  refine AR (AJ BJ.l2 rfl rfl rfl Jf rfl (.t (.t .h))) ?_
  refine Gn (.t9 1 2 4 7 8 10 11 24 25) (Ae (Gs (Gm rfl (Gm rfl (Bh 40 rfl rfl (fun q => AE rfl) (Bh 40 rfl rfl (fun q => Af (Bc rfl q) rfl) (Bh 40 rfl rfl (fun q => AE (Bc rfl q)) ?_)))))))
  refine Cp (t := 43) rfl rfl rfl (fun qc q => AE rfl) ?_
  refine Cp (t := 43) rfl rfl rfl (fun qc q => Af (Bc rfl (by rw [qc, q]; rfl)) rfl) ?_
  refine Bh 40 rfl rfl (fun q => BP (Bc rfl q) rfl (fun h => by rw [q, h]; rfl)) ?_
  refine Gt (BI rfl rfl (fun h => h)) (Ga rfl (Gn (.t9 1 2 4 7 8 10 24 25 38) ?_))
  refine Gc (fun c3 => ?_) (fun c3 => ?_)
  ·
   have c3p := kz c3
   refine Aa ?_
   refine AB (.t7 1 2 4 7 8 24 25) ?_
   refine AT (AT (AA (AI ?_)))
   refine Gt (As rfl rfl (IntWalk.i64_in _ (by omega))) ?_
   refine Gm rfl ?_
   refine AO (AB (.t7 1 2 4 7 8 24 25) ?_)
   refine CJ (k + 1) _ _ _ _ _ _ _ ?_ ?_ (.t7 7 8 25 1 2 4 24) (.refl _)
   · exact ⟨hI11.next (by omega) (by simp only [Bb.step, hl, c1, c2, c3, ↓reduceIte, Bool.false_eq_true]), (by (try dsimp only at *) <;> (try simp only [List.length_append, List.length_take, List.length_cons, List.length_nil]) <;> omega), (by (try dsimp only at *) <;> (try simp only [List.length_append, List.length_cons, List.length_nil]) <;> omega)⟩
   · omega
  have c3p := kz c3
  refine Gs (Gm rfl (Gt (Af rfl rfl) (Gm rfl (BU 51 rfl rfl (fun q => AE rfl) (BU 51 rfl rfl (fun q => Af (cF rfl q) rfl) ?_)))))
  refine Gt (BP rfl rfl (fun h => by rw [h]; rfl)) ?_
  refine Ga rfl (Gn (.t9 1 2 4 7 8 10 24 25 48) ?_)
  refine Gc (fun c4 => ?_) (fun c4 => ?_)
  ·
   have c4p := kz c4
   refine B7 (Gt (Ai Fc rfl) (Gt (AG rfl FQ .m2 BJ.l3 rfl rfl) (Gt (Ao rfl Tryz.underlying52 rfl) (Gt (A6 rfl rfl) (Gn (.t9 1 2 4 7 8 10 24 25 58) ?_)))))
   refine Gc (fun c5 => ?_) (fun c5 => ?_)
   ·
    have c5p := kz c5
    rw [hg] at c5
    refine AI (Gt (Ai Fc rfl) (Gt (AG rfl FQ .m2 BJ.l3 rfl rfl) (Gm rfl (Gt (JY Tryz.underlying105 Tryz.underlying9 Tryz.underlying5 rfl (Kn.own .m0)) ?_))))
    refine Eu A4 DB rfl Tryz.underlying52 Ei Rg rfl (by decide) (by decide) rfl rfl (fun b3 => ?_)
    refine CO DB rfl Tryz.underlying52 Ei Rg rfl XP (by decide) (by decide) rfl rfl (fun w hS => Src.DU Tryz.underlying52 ((Kn.own .m0) w hS)) (by (try dsimp only); omega) (fun _ => (.t (.t .h))) (fun h6 h6l h6z => ?_)
    refine Gt (Ai Fc rfl) ?_
    refine AR (AJ BJ.l3 rfl rfl rfl M3 rfl (.t (.t (.t .h)))) ?_
    refine Gn (.t7 1 2 4 7 10 24 25) (AI (Gm rfl (Gt (Af rfl rfl) (Ga rfl (Gt (Ai M5 rfl) ?_)))))
    refine AR (AJ BJ.l1 rfl rfl rfl Jf rfl (.t (.t (.t .h)))) ?_
    refine Gt (Ai ND rfl) ?_
    refine AR (AJ BJ.l2 rfl rfl rfl Jf rfl (.t (.t (.t .h)))) ?_
    refine AO (AB (.t7 1 2 4 7 8 24 25) ?_)
    refine AT (AT (AA (AI ?_)))
    refine Gt (As rfl rfl (IntWalk.i64_in _ (by omega))) ?_
    refine Gm rfl ?_
    refine AO (AB (.t7 1 2 4 7 8 24 25) ?_)
    refine Sh C8 5 1 ?_
    refine CP (.c .h (.c (.t (.t .h)) (.c (.t (.t .h)) (.c (.t (.t .h)) .n)))) ?_
    refine CZ ?_
    refine CJ (k + 1) _ _ _ _ _ _ _ ?_ ?_ (.t7 7 8 25 1 2 4 24) (.refl _)
    · exact ⟨hI11.next (by omega) (by simp only [Bb.step, hl, c1, c2, c3, c4, c5, ↓reduceIte, Bool.false_eq_true]), (by (try dsimp only at *) <;> (try simp only [List.length_append, List.length_take, List.length_cons, List.length_nil]) <;> omega), (by (try dsimp only at *) <;> (try simp only [List.length_append, List.length_cons, List.length_nil]) <;> omega)⟩
    · omega
   have c5p := kz c5
   rw [hg] at c5
   refine AI (Gm rfl ?_)
   refine Gt (As rfl rfl (IntWalk.i64_in _ (by omega))) ?_
   refine Ga rfl (Gn (.t7 1 2 4 7 10 24 25) (AI (Gm rfl (Gt (Af rfl rfl) (Ga rfl (Gt (Ai M5 rfl) ?_))))))
   refine AR (AJ BJ.l1 rfl rfl rfl Jf rfl (.t (.t .h))) ?_
   refine Gt (Ai ND rfl) ?_
   refine AR (AJ BJ.l2 rfl rfl rfl Jf rfl (.t (.t .h))) ?_
   refine AO (AB (.t7 1 2 4 7 8 24 25) ?_)
   refine AT (AT (AA (AI ?_)))
   refine Gt (As rfl rfl (IntWalk.i64_in _ (by omega))) ?_
   refine Gm rfl ?_
   refine AO (AB (.t7 1 2 4 7 8 24 25) ?_)
   refine Sh C8 5 1 ?_
   refine CP (.c .h (.c (.t .h) (.c (.t .h) (.c (.t .h) .n)))) ?_
   refine CZ ?_
   refine CJ (k + 1) _ _ _ _ _ _ _ ?_ ?_ (.t7 7 8 25 1 2 4 24) (.refl _)
   · exact ⟨hI11.next (by omega) (by simp only [Bb.step, hl, c1, c2, c3, c4, c5, ↓reduceIte, Bool.false_eq_true]), (by (try dsimp only at *) <;> (try simp only [List.length_append, List.length_take, List.length_cons, List.length_nil]) <;> omega), (by (try dsimp only at *) <;> (try simp only [List.length_append, List.length_cons, List.length_nil]) <;> omega)⟩
   · omega
  have c4p := kz c4
  refine Gs (Gm rfl (Gt (Af rfl rfl) (Gm rfl (BU 75 rfl rfl (fun q => AE rfl) (BU 75 rfl rfl (fun q => Af (cF rfl q) rfl) ?_)))))
  refine Gt (BP rfl rfl (fun h => by rw [h]; rfl)) ?_
  refine Ga rfl (Gn (.t9 1 2 4 7 8 10 24 25 72) ?_)
  refine Gc (fun c6 => ?_) (fun c6 => ?_)
  ·
   have c6p := kz c6
   refine Gs (Gm rfl (Gt (Ao rfl Tryz.underlying105 rfl) (Gt (CS rfl rfl) (Gn (.t8 1 2 4 7 8 24 25 81) ?_))))
   refine Gc (fun c7 => ?_) (fun c7 => ?_)
   ·
    have c7p := kz c7
    rw [hl] at c7
    refine AI (Gm rfl (Gm rfl (Gt (Ao rfl Tryz.underlying105 rfl) ?_)))
    refine Gt (Ex rfl rfl (IntWalk.i64_in _ (by omega))) ?_
    refine JP Uf rfl Tryz.underlying105 UO rfl rfl (by omega) (by omega) (fun _ => .h) ?_
    refine Ga rfl ?_
    refine AO (AB (.t7 1 2 4 7 8 24 25) ?_)
    refine AT (AT (AA (AI ?_)))
    refine Gt (As rfl rfl (IntWalk.i64_in _ (by omega))) ?_
    refine Gm rfl ?_
    refine AO (AB (.t7 1 2 4 7 8 24 25) ?_)
    refine CJ (k + 1) _ _ _ _ _ _ _ ?_ ?_ (.t7 7 8 25 1 2 4 24) (.refl _)
    · exact ⟨hI11.next (by omega) (by simp only [Bb.step, hl, c1, c2, c3, c4, c6, c7, ↓reduceIte, Bool.false_eq_true]), (by (try dsimp only at *) <;> (try simp only [List.length_append, List.length_take, List.length_cons, List.length_nil]) <;> omega), (by (try dsimp only at *) <;> (try simp only [List.length_append, List.length_cons, List.length_nil]) <;> omega)⟩
    · omega
   have c7p := kz c7
   rw [hl] at c7
   refine Aa ?_
   refine AB (.t7 1 2 4 7 8 24 25) ?_
   refine AT (AT (AA (AI ?_)))
   refine Gt (As rfl rfl (IntWalk.i64_in _ (by omega))) ?_
   refine Gm rfl ?_
   refine AO (AB (.t7 1 2 4 7 8 24 25) ?_)
   refine CJ (k + 1) _ _ _ _ _ _ _ ?_ ?_ (.t7 7 8 25 1 2 4 24) (.refl _)
   · exact ⟨hI11.next (by omega) (by simp only [Bb.step, hl, c1, c2, c3, c4, c6, c7, ↓reduceIte, Bool.false_eq_true]), (by (try dsimp only at *) <;> (try simp only [List.length_append, List.length_take, List.length_cons, List.length_nil]) <;> omega), (by (try dsimp only at *) <;> (try simp only [List.length_append, List.length_cons, List.length_nil]) <;> omega)⟩
   · omega
  have c6p := kz c6
  refine Gs (Gm rfl ?_)
  refine A7 rfl YU (.c rfl .n) (fun w hS => GI _ w) ?_
  refine Gt (BS rfl) (Ga rfl (Gn (.t9 1 2 4 7 8 10 24 25 87) ?_))
  refine Gc (fun c8 => ?_) (fun c8 => ?_)
  ·
   have c8p := kz c8
   refine Aa ?_
   refine AB (.t7 1 2 4 7 8 24 25) ?_
   refine AT (AT (AA (AI ?_)))
   refine Gt (As rfl rfl (IntWalk.i64_in _ (by omega))) ?_
   refine Gm rfl ?_
   refine AO (AB (.t7 1 2 4 7 8 24 25) ?_)
   refine CJ (k + 1) _ _ _ _ _ _ _ ?_ ?_ (.t7 7 8 25 1 2 4 24) (.refl _)
   · exact ⟨hI11.next (by omega) (by simp only [Bb.step, hl, c1, c2, c3, c4, c6, c8, ↓reduceIte, Bool.false_eq_true]), (by (try dsimp only at *) <;> (try simp only [List.length_append, List.length_take, List.length_cons, List.length_nil]) <;> omega), (by (try dsimp only at *) <;> (try simp only [List.length_append, List.length_cons, List.length_nil]) <;> omega)⟩
   · omega
  have c8p := kz c8
  refine Gs (Gm rfl (Gt (Ao rfl Tryz.underlying105 rfl) (Gt (CL rfl rfl) (Ga rfl (Gn (.t9 1 2 4 7 8 10 24 25 91) ?_)))))
  refine Gc (fun c9 => ?_) (fun c9 => ?_)
  ·
   have c9p := kz c9
   rw [hl] at c9
   refine AI (Gt (Ai M5 rfl) ?_)
   refine AR (AJ BJ.l1 rfl rfl rfl Jf rfl (.t (.t .h))) ?_
   refine AO (AB (.t7 1 2 4 7 8 24 25) ?_)
   refine AT (AT (AA (AI ?_)))
   refine Gt (As rfl rfl (IntWalk.i64_in _ (by omega))) ?_
   refine Gm rfl ?_
   refine AO (AB (.t7 1 2 4 7 8 24 25) ?_)
   refine CJ (k + 1) _ _ _ _ _ _ _ ?_ ?_ (.t7 7 8 25 1 2 4 24) (.refl _)
   · exact ⟨hI11.next (by omega) (by simp only [Bb.step, hl, c1, c2, c3, c4, c6, c8, c9, ↓reduceIte, Bool.false_eq_true]), (by (try dsimp only at *) <;> (try simp only [List.length_append, List.length_take, List.length_cons, List.length_nil]) <;> omega), (by (try dsimp only at *) <;> (try simp only [List.length_append, List.length_cons, List.length_nil]) <;> omega)⟩
   · omega
  have c9p := kz c9
  rw [hl] at c9
  refine AI (Gm rfl (Gm rfl ?_))
  refine Eu C8 Uf rfl Tryz.underlying105 UO X1 rfl (by decide) (by decide) rfl rfl (fun b4 => ?_)
  refine CO Uf rfl Tryz.underlying105 UO X1 rfl bF (by decide) (by decide) rfl rfl (fun w hS => Src.DU Tryz.underlying105 ((Kn.own .m0) w hS)) (by (try dsimp only); omega) (fun _ => (.t .h)) (fun h9 h9l h9z => ?_)
  refine Ga rfl ?_
  refine AO (AB (.t7 1 2 4 7 8 24 25) ?_)
  refine AT (AT (AA (AI ?_)))
  refine Gt (As rfl rfl (IntWalk.i64_in _ (by omega))) ?_
  refine Gm rfl ?_
  refine AO (AB (.t7 1 2 4 7 8 24 25) ?_)
  refine CJ (k + 1) _ _ _ _ _ _ _ ?_ ?_ (.t7 7 8 25 1 2 4 24) (.cons _ (.refl _))
  · exact ⟨hI11.next (by omega) (by simp only [Bb.step, hl, c1, c2, c3, c4, c6, c8, c9, ↓reduceIte, Bool.false_eq_true]), (by (try dsimp only at *) <;> (try simp only [List.length_append, List.length_take, List.length_cons, List.length_nil]) <;> omega), (by (try dsimp only at *) <;> (try simp only [List.length_append, List.length_cons, List.length_nil]) <;> omega)⟩
  · omega
 have c2p := kz c2
 refine BX (AW (AW (Ag ?_)))
 refine AB (.t4 2 4 7 8) ?_
 refine AA (Gs (Gm rfl (Gt (JY Tryz.underlying105 Tryz.underlying9 Tryz.underlying5 rfl (Kn.own .m0)) (Gt (Ai JB rfl) ?_))))
 refine AR (AJ BJ.l0 rfl rfl rfl Ei rfl (.t (.t .h))) ?_
 refine Gn (.t3 2 4 7) (Gs (Gt (AZ rfl I9 .m2 (AS.id BJ.fl.len BJ.fl.one) rfl) (Gm rfl ?_)))
 refine AR (AJ (AS.id BJ.fl.len BJ.fl.one) rfl rfl rfl Mu rfl (.t (.t (.t .h)))) ?_
 refine Ga rfl (Ga rfl (Gn (.t3 4 5 6) (Ab ?_)))
 refine AY rfl (.cell rfl .m3 (.inl ⟨(by rw [BJ.fl.len]; exact I9), rfl⟩) (.tmp rfl (.tmp rfl .n))) ?_
 intro w1 hS
 have hS := (hS.perm (Av.perm (.c (.t .h) .n))).Az
 have e := hI11.done (by omega)
 exact ⟨_, .inr ⟨hgd, _, by rw [e]; rfl, by rw [e]; exact hg, by rw [e]⟩, hS⟩
theorem L7 (p : Aw) (n : Int) (w : World) : EL Tryz.prog 66 #[.agg p.enc.toArray, .int .i64 n] w fun v w' => v = .tuple #[.agg (Aw.enc ⟨p.wait, p.shown, p.CA, p.ring.drop (max 0 (min n (p.ring.length : Int))).toNat, p.cut⟩).toArray, BQ (p.ring.take (max 0 (min n (p.ring.length : Int))).toNat)] ∧ B4 w w' := by
 refine Am [] [] Tryz.func66 rfl rfl rfl (St.start w []) ?_
 refine Gs ?_
 refine B3 rfl rfl rfl (fun b1 => ?_)
 refine BF rfl VK rfl (fun b2 => ?_)
 refine Ga rfl (Gn (.t3 1 2 4) (Gs (Gm rfl (Gt (Ai JL rfl) (Gt (AG rfl CN .m1 Aw.l3 rfl rfl) (Gt (BE rfl Tryz.underlying9 rfl) (Gt (Kf rfl rfl) ?_)))))))
 refine Gt (Ki rfl rfl) (Ga rfl (Gn (.t3 1 2 4) (Gs (Gt (Ai JL rfl) (Gt (AG rfl CN .m1 Aw.l3 rfl rfl) (Gm rfl ?_))))))
 refine Gt (Hf Tryz.underlying9 rfl rfl (by omega) (by omega)) ?_
 refine Ga rfl (Gn (.t4 1 2 4 6) (Gs (Gt (Ai JL rfl) (Gt (AG rfl CN .m1 Aw.l3 rfl rfl) (Gm rfl ?_)))))
 refine Gt (Fx Tryz.underlying9 rfl rfl (by omega) (by omega)) ?_
 refine Gt (Ai JL rfl) ?_
 refine AR (AJ Aw.l3 rfl rfl rfl Ei rfl (.t .h)) ?_
 refine Gn (.t3 2 4 6) (Gs (Gt (AZ rfl Cn .m1 (AS.id Aw.fl.len Aw.fl.one) rfl) (Gm rfl ?_)))
 refine AR (AJ (AS.id Aw.fl.len Aw.fl.one) rfl rfl rfl FC rfl .h) ?_
 refine Ga rfl (Gn (.t2 4 5) (Ab ?_))
 refine AY rfl (.cell rfl .m0 (.inl ⟨(by rw [Aw.fl.len]; exact Cn), rfl⟩) (.tmp rfl .n)) ?_
 intro w1 hS; refine ⟨?_, hS.Aj⟩; rfl
theorem IK (b : Nat) (V : AM) (ls : Vector BG 4) (ev : List Ing.Event) (a : Br) (hL : AL.Live (A3 V ls ev)) (hu : a.bytes.length ≤ 140737488351232) : Ew Tryz.prog 38 #[.pointer (some ⟨b, 0, none⟩), .agg a.enc.toArray] [Ad.box b 101 (AM.enc V), Ad.Ds (CI 9 (AM.Ax V) ls), Ad.own (AM.last V) 56 16 ((ev).flatMap Ing.Event.enc)] (fun w => (GV 2 FL w ∧ 2 ∉ CW [Ad.box b 101 (AM.enc V), Ad.Ds (CI 9 (AM.Ax V) ls), Ad.own (AM.last V) 56 16 ((ev).flatMap Ing.Event.enc)]) ∧ (GV 0 AH.C0 w ∧ 0 ∉ CW [Ad.box b 101 (AM.enc V), Ad.Ds (CI 9 (AM.Ax V) ls), Ad.own (AM.last V) 56 16 ((ev).flatMap Ing.Event.enc)]) ∧ (F8 7 w ∧ 7 ∉ CW [Ad.box b 101 (AM.enc V), Ad.Ds (CI 9 (AM.Ax V) ls), Ad.own (AM.last V) 56 16 ((ev).flatMap Ing.Event.enc)]) ∧ (F8 8 w ∧ 8 ∉ CW [Ad.box b 101 (AM.enc V), Ad.Ds (CI 9 (AM.Ax V) ls), Ad.own (AM.last V) 56 16 ((ev).flatMap Ing.Event.enc)])) (fun v B => ∃ V' ls' ev', v = .agg (Ba.enc (AL.act (A3 V ls ev) a).2).toArray ∧ A3 V' ls' ev' = (AL.act (A3 V ls ev) a).1 ∧ B = [Ad.box b 101 (AM.enc V'), Ad.Ds (CI 9 (AM.Ax V') ls'), Ad.own (AM.last V') 56 16 ((ev').flatMap Ing.Event.enc)]) := by
 intro w hS0 hH
 obtain ⟨⟨gl0, gm0⟩, ⟨gl1, gm1⟩, ⟨gl2, gm2⟩, ⟨gl3, gm3⟩⟩ := hH
 obtain ⟨n, m, hF⟩ := hL.fits
 have hc : 0 ≤ V.Cs := hL.Cs
 refine Am _ _ Tryz.func38 rfl rfl rfl (hS0) ?_
 refine Gs ?_
 refine B3 rfl rfl rfl (fun b1 => ?_)
 refine BF rfl JF rfl (fun b2 => ?_)
 refine Gn (.t3 0 3 4) (Ap (Ae (Gs (Gm rfl (Gt (Fh Tryz.underlying37 rfl) (Ga rfl (Gn (.t4 0 3 4 11) ?_)))))))
 refine EE rfl rfl ?_
 refine Gs (Gm rfl (Gt (BR rfl) (Gt (Ai PM rfl) (Gt (AG rfl A2 .m2 AM.l2 rfl rfl) (Gt (CL rfl rfl) (Ga rfl (Gn (.t4 0 3 4 15) ?_)))))))
 refine Gc (fun c1 => ?_) (fun c1 => ?_)
 ·
  refine Gs (Gt (BA L3 JF rfl (.cons Ba.l0 rfl rfl rfl .nil)) ?_)
  refine AR (AJ (AS.id Ba.fl.len Ba.fl.one) rfl rfl rfl Ii rfl .h) ?_
  refine Gn (.t1 4) (Ab (AP (AD ?_)))
  refine AY rfl (.cell rfl .m0 (.inl ⟨(by rw [Ba.fl.len]; exact HO), rfl⟩) .n) ?_
  intro w1 hS
  have hS := (hS.perm (Av.perm (.c (.t (.t .h)) (.c (.t (.t .h)) (.c (.t (.t .h)) .n))))).Az
  have hq : (AL.act (A3 V ls ev) a) = ((A3 V ls ev), ⟨4, []⟩) := A9 c1
  refine ⟨_, ⟨V, ls, ev, ?gv1, ?ga1, rfl⟩, hS⟩
  case gv1 => rw [hq]; rfl
  case ga1 => rw [hq]
 have c1p := kz c1
 refine Aa ?_
 refine AB (.t3 0 3 4) ?_
 refine AT (AA (Gs (Gm rfl (Gt (BR rfl) (Gt (Ai PM rfl) (Gt (AG rfl A2 .m2 AM.l2 rfl rfl) ?_))))))
 refine Gt (As rfl rfl (IntWalk.i64_in _ (by first | omega | exact hi.1 | exact hi.2 | exact hs.1 | exact hs.2))) ?_
 refine Gt (BR rfl) (Gt (Ai PM rfl) ?_)
 refine AR (AJ AM.l2 rfl rfl rfl Cy rfl (.t (.t .h))) ?_
 refine Gn (.t3 0 3 4) (Gs (Gm rfl (Gt (BR rfl) (Gt (Ai PG rfl) ?_))))
 refine AR (AJ (Y := ⟨none, 0, 0⟩) AM.l3 rfl rfl rfl QB rfl (.t (.t .h))) ?_
 refine Gn (.t3 0 3 4) (Ap (Ap ?_))
 refine EM Ing.Event.enc 56 16 ?_
 refine Eb (.c (.t (.t (.t .h))) (.c (.t (.t (.t .h))) (.c .h .n))) ?_
 refine AI (Gm rfl (AO (AA (Ae ?_))))
 refine Bl (.t4 32 0 3 4) ?_
 refine BZ (.t (.t .h)) ?_
 refine BZ (.t (.t .h)) ?_
 refine BZ (.t (.t .h)) ?_
 refine Hc (fun (i : Int) (V1 : AM) (ls1 : Vector BG 4) (ev1 : List Ing.Event) => 0 ≤ i ∧ i ≤ 4 ∧ (A3 V1 ls1 ev1) = AL.EF ({ (A3 V ls ev) with Cs := ((A3 V ls ev)).Cs + 1, last := [] } : AL) i.toNat) (fun (i : Int) (V1 : AM) (ls1 : Vector BG 4) (ev1 : List Ing.Event) => (4 - i).toNat) (fun (i : Int) (V1 : AM) (ls1 : Vector BG 4) (ev1 : List Ing.Event) => [(32, .int .i64 i)]) (fun (i : Int) (V1 : AM) (ls1 : Vector BG 4) (ev1 : List Ing.Event) => [Ad.box b 101 (AM.enc V1), Ad.Ds (CI 9 (AM.Ax V1) ls1), Ad.own (AM.last V1) 56 16 (ev1.flatMap Ing.Event.enc)]) (0) (_) (ls) ([]) ?_ rfl rfl (fun i V1 ls1 ev1 hI1 => ?_)
 · exact ⟨by omega, by omega, rfl⟩
 obtain ⟨hI11, hI12, hI13⟩ := hI1
 refine Gs (Gt (A6 rfl rfl) (AO (AA (Ap ?_))))
 refine Gc (fun c2 => ?_) (fun c2 => ?_)
 ·
  have c2p := kz c2
  have hi : 0 ≤ i ∧ i < 4 := ⟨by omega, by omega⟩
  refine Aa ?_
  refine AB (.t4 0 3 4 32) ?_
  refine AA (Ap (Ae (Gs (Gm rfl (Ga rfl (Gn (.t5 0 3 4 5 32) ?_))))))
  refine FK (k := i) hi.1 hi.2 (fun sv sl hsv hlv hln => ?_)
  refine AI (Gm rfl (Gm rfl (Gt (BR rfl) (Gt (Ai GU rfl) ?_))))
  refine Gt (AQ PW rfl rfl (by first | omega | exact hi.1 | exact hi.2 | exact hs.1 | exact hs.2) (by first | omega | exact hi.1 | exact hi.2 | exact hs.1 | exact hs.2)) ?_
  refine Gt (Ai Ps rfl) ?_
  refine AR (AJ (Y := ⟨none, 0, 0⟩) ((AS.BM V1 hi.1 hi.2).comp A0.l5) rfl rfl rfl M3 rfl (.t (.t (.t .h)))) ?_
  refine AO (AB (.t4 0 3 4 32) ?_)
  refine AT (AA ?_)
  refine EM A4 9 1 ?_
  refine Eb (.c (.t .h) (.c (.t .h) (.c .h (.c (.t .h) (.c (.t .h) .n))))) ?_
  refine GP hi.1 hi.2 (by rfl) (by rfl) (by rfl) ?_
  refine AI ?_
  refine Gt (As rfl rfl (IntWalk.i64_in _ (by first | omega | exact hi.1 | exact hi.2 | exact hs.1 | exact hs.2))) ?_
  refine Gm rfl ?_
  refine AO (AB (.t4 0 3 4 32) ?_)
  refine CP (.c .h (.c .h (.c (.t .h) (.c (.t .h) (.c (.t .h) (.c (.t .h) .n)))))) ?_
  refine CZ ?_
  refine Cu (i + 1) _ _ _ ?_ ?_ (.t4 32 0 3 4) (.refl _)
  · exact ⟨by omega, by omega, (EN hi.1 hi.2 hsv hlv (f := fun x => { x with told := [] }) rfl).trans (by rw [hI13]; exact (AL.Ou hI11).symm)⟩
  · omega
 have c2p := kz c2
 obtain rfl : i = 4 := by omega
 have hX : (A3 V1 ls1 ev1) = (AL.begun (A3 V ls ev)) := hI13
 have hF0 : AL.Fit (A3 V1 ls1 ev1) 0 0 := by rw [hX]; exact hF.begun
 refine BX (AW (AW (Ag ?_)))
 refine AB (.t3 0 3 4) ?_
 refine AA (B7 (Gt (Ai NV rfl) (Gt (AG rfl A2 .m4 Br.l0 rfl rfl) (Gt (Af rfl rfl) (Gn (.t4 0 3 4 44) ?_)))))
 refine Gc (fun c3 => ?_) (fun c3 => ?_)
 ·
  have c3p := kz c3
  refine Gs (Gm rfl (Gt (Ai Ut rfl) (Gt (AG rfl A2 .m4 Br.l2 rfl rfl) ?_)))
  refine BC rfl ax (.c rfl (.c rfl .n)) (.c .h (.c .h (.c .h .n))) (N2 _ V1 ls1 ev1 a.n 0 0 hF0 (by omega) (by omega)) (fun w hS => ⟨gl0.pull gm0 hS (.c .h (.c .h (.c .h .n))), gl1.pull gm1 hS (.c .h (.c .h (.c .h .n))), gl2.pull gm2 hS (.c .h (.c .h (.c .h .n))), gl3.pull gm3 hS (.c .h (.c .h (.c .h .n)))⟩) (fun v2 B hv => ?_)
  obtain ⟨y3, y4, y5, rfl, y6, rfl⟩ := hv
  refine Gn (.t1 4) (Gs (Gt (BA L3 JF rfl .nil) ?_))
  refine AR (AJ (AS.id Ba.fl.len Ba.fl.one) rfl rfl rfl Ii rfl (.t (.t (.t .h)))) ?_
  refine Gn (.t1 4) (Ab (AD ?_))
  refine AY rfl (.cell rfl .m3 (.inl ⟨(by rw [Ba.fl.len]; exact HO), rfl⟩) .n) ?_
  intro w1 hS
  have hS := (hS.perm (Av.perm (.c .h (.c .h (.c .h .n))))).Az
  have hq0 : AL.ES (A3 V1 ls1 ev1) a = _ := (A9 c3)
  have hq : (AL.act (A3 V ls ev) a) = _ := (AL.GB c1 a).trans ((congrArg (fun X => AL.ES X a) hX.symm).trans hq0)
  refine ⟨_, ⟨y3, y4, y5, ?gv2, ?ga2, rfl⟩, hS⟩
  case gv2 => rw [hq]; rfl
  case ga2 => rw [hq]; dsimp only; exact y6
 have c3p := kz c3
 refine Aa ?_
 refine AB (.t3 0 3 4) ?_
 refine AA (B7 (Gt (Ai NV rfl) (Gt (AG rfl A2 .m4 Br.l0 rfl rfl) (Gt (A6 rfl rfl) (Gm rfl (BU 53 rfl rfl (fun q => Ai NV rfl) (BU 53 rfl rfl (fun q => AG (cF rfl q) A2 .m4 Br.l0 rfl rfl) ?_)))))))
 refine BU 53 rfl rfl (fun q => CS (cF rfl q) rfl) ?_
 refine Gt (BP rfl rfl (fun h => by rw [h]; rfl)) ?_
 refine Gn (.t4 0 3 4 57) ?_
 refine Gc (fun c4 => ?_) (fun c4 => ?_)
 ·
  refine Gs (Gt (BA L3 JF rfl (.cons Ba.l0 rfl rfl rfl .nil)) ?_)
  refine AR (AJ (AS.id Ba.fl.len Ba.fl.one) rfl rfl rfl Ii rfl (.t (.t (.t .h)))) ?_
  refine Gn (.t1 4) (Ab (AD ?_))
  refine AY rfl (.cell rfl .m3 (.inl ⟨(by rw [Ba.fl.len]; exact HO), rfl⟩) .n) ?_
  intro w1 hS
  have hS := (hS.perm (Av.perm (.c .h (.c .h (.c .h .n))))).Az
  have hq0 : AL.ES (A3 V1 ls1 ev1) a = _ := ((AU c3).trans (A9 c4))
  have hq : (AL.act (A3 V ls ev) a) = _ := (AL.GB c1 a).trans ((congrArg (fun X => AL.ES X a) hX.symm).trans hq0)
  refine ⟨_, ⟨V1, ls1, ev1, ?gv3, ?ga3, rfl⟩, hS⟩
  case gv3 => rw [hq]; rfl
  case ga3 => rw [hq]
 have c4p := kz c4
 refine Aa ?_
 refine AB (.t3 0 3 4) ?_
 refine AA (B7 (Gt (Ai R1 rfl) (Gt (AG rfl A2 .m4 Br.l1 rfl rfl) (Gt (A6 rfl rfl) (Gm rfl (BU 62 rfl rfl (fun q => Ai R1 rfl) (BU 62 rfl rfl (fun q => AG (cF rfl q) A2 .m4 Br.l1 rfl rfl) ?_)))))))
 refine BU 62 rfl rfl (fun q => CL (cF rfl q) rfl) ?_
 refine Gt (BP rfl rfl (fun h => by rw [h]; rfl)) ?_
 refine Gn (.t4 0 3 4 66) ?_
 refine Gc (fun c5 => ?_) (fun c5 => ?_)
 ·
  refine Gs (Gt (BA L3 JF rfl (.cons Ba.l0 rfl rfl rfl .nil)) ?_)
  refine AR (AJ (AS.id Ba.fl.len Ba.fl.one) rfl rfl rfl Ii rfl (.t (.t (.t .h)))) ?_
  refine Gn (.t1 4) (Ab (AD ?_))
  refine AY rfl (.cell rfl .m3 (.inl ⟨(by rw [Ba.fl.len]; exact HO), rfl⟩) .n) ?_
  intro w1 hS
  have hS := (hS.perm (Av.perm (.c .h (.c .h (.c .h .n))))).Az
  have hq0 : AL.ES (A3 V1 ls1 ev1) a = _ := ((AU c3).trans ((AU c4).trans (A9 c5)))
  have hq : (AL.act (A3 V ls ev) a) = _ := (AL.GB c1 a).trans ((congrArg (fun X => AL.ES X a) hX.symm).trans hq0)
  refine ⟨_, ⟨V1, ls1, ev1, ?gv4, ?ga4, rfl⟩, hS⟩
  case gv4 => rw [hq]; rfl
  case ga4 => rw [hq]
 have c5p := kz c5
 have hs : 0 ≤ a.BM ∧ a.BM < 4 := ⟨by omega, by omega⟩
 refine Aa ?_
 refine AB (.t3 0 3 4) ?_
 refine AA (Ap ?_)
 refine BD (N := 7) [0, 0, 2, 1, 9, 31, 63] mix (by kernel_rfl) rfl ?_
 refine Pf 0 rfl (AE rfl) (Pf 1 rfl (Ai R1 rfl) (Pf 2 rfl (AG rfl A2 .m4 Br.l1 rfl rfl) (Pf 3 rfl (BR rfl) (Pf 4 rfl (Ai GU rfl) ?_))))
 refine Pf 5 rfl (AQ PW rfl rfl (by first | omega | exact hi.1 | exact hi.2 | exact hs.1 | exact hs.2) (by first | omega | exact hi.1 | exact hi.2 | exact hs.1 | exact hs.2)) ?_
 refine Pf 6 rfl (Ay rfl) ?_
 refine A1 (by kernel_rfl) ?_
 refine AB (.t4 0 3 4 6) ?_
 refine AA (Ap (Ap ?_))
 refine BD (N := 9) [0, 1, 3, 7, 15, 0, 32, 96, 255] mix (by kernel_rfl) rfl ?_
 refine Pf 0 rfl (AE rfl) (Pf 1 rfl (BR rfl) (Pf 2 rfl (Ai H5 rfl) ?_))
 refine Pf 3 rfl (AG rfl A2 .m0 ((AM.l1.comp (AS.ar (n := 4) A0.fl (by first | omega | exact hi | exact hs))).comp A0.l0) rfl rfl) ?_
 refine Pf 4 rfl (Af rfl rfl) (Pf 5 rfl (Ai NV rfl) (Pf 6 rfl (AG rfl A2 .m4 Br.l0 rfl rfl) (Pf 7 rfl (Af rfl rfl) (Pf 8 rfl (JM Tryz.underlying4 rfl rfl) ?_))))
 refine A1 (by kernel_rfl) ?_
 refine AB (.t5 0 3 4 6 82) ?_
 refine AA ?_
 refine Gc (fun c6 => ?_) (fun c6 => ?_)
 ·
  refine Gs (Gt (BA L3 JF rfl (.cons Ba.l0 rfl rfl rfl .nil)) ?_)
  refine AR (AJ (AS.id Ba.fl.len Ba.fl.one) rfl rfl rfl Ii rfl (.t (.t (.t .h)))) ?_
  refine Gn (.t1 4) (Ab (AD ?_))
  refine AY rfl (.cell rfl .m3 (.inl ⟨(by rw [Ba.fl.len]; exact HO), rfl⟩) .n) ?_
  intro w1 hS
  have hS := (hS.perm (Av.perm (.c .h (.c .h (.c .h .n))))).Az
  have hq0 : AL.ES (A3 V1 ls1 ev1) a = _ := ((AU c3).trans ((AU c4).trans ((AU c5).trans (A9 (show (decide ((AL.at_ (A3 V1 ls1 ev1) a.BM).state = 0) != decide (a.kind = 1)) = true by rw [F0 V1 ls1 ev1 hs.1 hs.2]; exact c6)))))
  have hq : (AL.act (A3 V ls ev) a) = _ := (AL.GB c1 a).trans ((congrArg (fun X => AL.ES X a) hX.symm).trans hq0)
  refine ⟨_, ⟨V1, ls1, ev1, ?gv5, ?ga5, rfl⟩, hS⟩
  case gv5 => rw [hq]; rfl
  case ga5 => rw [hq]
 have c6p := kz c6
 refine Aa ?_
 refine AB (.t4 0 3 4 6) ?_
 refine AA (B7 (Gt (Ai NV rfl) (Gt (AG rfl A2 .m4 Br.l0 rfl rfl) (Gn (.t5 0 3 4 6 85) (Ae (Gs (Gt (Af rfl rfl) ?_)))))))
 refine Ga rfl (Gn (.t6 0 3 4 6 85 86) ?_)
 refine Gc (fun c7 => ?_) (fun c7 => ?_)
 ·
  have c7p := kz c7
  refine AI (Gm rfl (Gm rfl ?_))
  refine BC rfl av (.c rfl (.c rfl .n)) (.c .h (.c .h (.c .h .n))) (P7 _ V1 ls1 ev1 a.BM 0 0 hs hF0 (by omega) (by omega)) (fun w hS => ⟨gl0.pull gm0 hS (.c .h (.c .h (.c .h .n))), gl1.pull gm1 hS (.c .h (.c .h (.c .h .n))), gl2.pull gm2 hS (.c .h (.c .h (.c .h .n))), gl3.pull gm3 hS (.c .h (.c .h (.c .h .n)))⟩) (fun v7 B hv => ?_)
  obtain ⟨y8, y9, y10, rfl, y11, rfl⟩ := hv
  refine AO (AB (.t1 4) ?_)
  refine AT (AA (Gs (Gt (BA L3 JF rfl .nil) ?_)))
  refine AR (AJ (AS.id Ba.fl.len Ba.fl.one) rfl rfl rfl Ii rfl (.t (.t (.t .h)))) ?_
  refine Gn (.t1 4) (Ab ?_)
  refine AY rfl (.cell rfl .m3 (.inl ⟨(by rw [Ba.fl.len]; exact HO), rfl⟩) .n) ?_
  intro w1 hS
  have hS := (hS.perm (Av.perm (.c .h (.c .h (.c .h .n))))).Az
  have hq0 : AL.ES (A3 V1 ls1 ev1) a = _ := ((AU c3).trans ((AU c4).trans ((AU c5).trans ((AU (show (decide ((AL.at_ (A3 V1 ls1 ev1) a.BM).state = 0) != decide (a.kind = 1)) = false by rw [F0 V1 ls1 ev1 hs.1 hs.2]; exact c6)).trans (A9 c7)))))
  have hq : (AL.act (A3 V ls ev) a) = _ := (AL.GB c1 a).trans ((congrArg (fun X => AL.ES X a) hX.symm).trans hq0)
  refine ⟨_, ⟨y8, y9, y10, ?gv6, ?ga6, rfl⟩, hS⟩
  case gv6 => rw [hq]; rfl
  case ga6 => rw [hq]; dsimp only; exact y11
 have c7p := kz c7
 refine Gs (Gt (Af rfl rfl) (Ga rfl (Gn (.t6 0 3 4 6 85 91) ?_)))
 refine Gc (fun c8 => ?_) (fun c8 => ?_)
 ·
  have c8p := kz c8
  refine Gs (Ga rfl (Ga rfl (Gn (.t4 0 3 4 6) (Ap ?_))))
  refine FK (k := a.BM) hs.1 hs.2 (fun sv sl hsv hlv hln => ?_)
  refine BD (N := 18) [0, 0, 2, 6, 14, 0, 32, 126, 254, 510, 510, 510, 510, 1023, 9215, 25599, 59391, 126975] mix (by kernel_rfl) rfl ?_
  refine Pf 0 rfl (AE rfl) (Pf 1 rfl (AE rfl) (Pf 2 rfl (BR rfl) (Pf 3 rfl (Ai KA rfl) (Pf 4 rfl (AZ rfl Dk .m3 ((AS.BM V1 hs.1 hs.2).comp A0.l2) rfl) (Pf 5 rfl (Ai YC rfl) (Pf 6 rfl (AG rfl CN .m7 Br.l3 rfl rfl) ?_))))))
  refine BV 7 rfl rfl (by kernel_rfl) (KQ (Jn (Dp ah (.c rfl (.c rfl .n)) (fun w hS => LF _ _ (by omega) w)))) ?_
  refine Pf 8 rfl (AE rfl) (Pf 9 rfl (AK rfl rfl) (Pf 10 rfl (AK rfl rfl) (Pf 11 rfl (AK rfl rfl) (Pf 12 rfl (AK rfl rfl) (Pf 13 rfl (BR rfl) (Pf 14 rfl (Ai KA rfl) ?_))))))
  refine An 15 rfl (by kernel_rfl) ?_
  refine AR (AJ ((AS.BM V1 hs.1 hs.2).comp A0.l2) rfl rfl rfl Jd rfl (.t (.t (.t .h)))) ?_
  refine BK rfl ⟨?_, ?_⟩
  · exact (Pk (Pk (Po rfl (AK rfl rfl) rfl rfl (Po rfl (AK rfl rfl) rfl rfl (Po rfl (AK rfl rfl) rfl rfl (Pk (Pk (Pk (Pk (Pk (Pk (Pk (Pk (Pk (Pk Ar)))))))))))))))
  refine Pf 16 rfl (Ay rfl) (Pf 17 rfl (Ay rfl) ?_)
  refine A1 (by kernel_rfl) ?_
  refine AB (.t5 0 4 6 7 8) ?_
  refine AA (Gs (Gm rfl (Gm rfl (Gt (BR rfl) (Gt (Ai Df rfl) (Gt (AZ rfl Cn .m3 ((AS.BM V1 hs.1 hs.2).comp A0.l4) rfl) (Gm rfl ?_)))))))
  refine A7 rfl Vf (.c rfl (.c rfl .n)) (fun w hS => D6 _ _ (by have h := AN.UM sv.EA a.bytes; omega) w) ?_
  refine Gm rfl (Gt (AK rfl rfl) (Gt (AK rfl rfl) (Gt (BR rfl) (Gt (Ai Df rfl) ?_))))
  refine AR (AJ ((AS.BM V1 hs.1 hs.2).comp A0.l4) rfl rfl rfl FC rfl (.t (.t (.t .h)))) ?_
  refine Gn (.t4 0 4 6 7) (Gs (Ga rfl (Gn (.t4 0 4 6 7) (B7 (Gm rfl (Gm rfl (Gt (BR rfl) ?_)))))))
  refine Gt (Ai K9 rfl) (Gt (AZ rfl I9 .m3 ((AS.BM V1 hs.1 hs.2).comp A0.l3) rfl) (Gm rfl ?_))
  refine BC rfl aF (.c rfl (.c rfl .n)) .n (NF _ _ _ (by have h := TG sv.EA a.bytes; omega)) (fun w hS => (Kn.own .m0) w hS) (fun v12 B hv => ?_)
  rcases hv with ⟨y13, rfl, rfl⟩ | ⟨y14, y15, rfl, y16, rfl⟩
  ·
   refine Gm rfl (Gt (AK rfl rfl) (Gt (AK rfl rfl) (Gt (AK rfl rfl) (Gt (BR rfl) (Gt (Ai K9 rfl) ?_)))))
   refine AR (AJ ((AS.BM V1 hs.1 hs.2).comp A0.l3) rfl rfl rfl Mu rfl (.t (.t (.t .h)))) ?_
   refine Ga rfl (Gn (.t4 0 4 6 9) (Ap ?_))
   refine Eb (.c .h (.c .h (.c .h (.c .h (.c .h .n))))) ?_
   refine GP hs.1 hs.2 (by rfl) (by rfl) (by rfl) ?_
   refine AI (Gm rfl (Gt (CS rfl rfl) (Gn (.t4 0 4 6 134) ?_)))
   refine Gc (fun c9 => ?_) (fun c9 => ?_)
   ·
    have c9p := kz c9
    refine AI (Gm rfl (Gm rfl ?_))
    refine Ah rfl SM (.c rfl (.c rfl (.c rfl .n))) (.c .h (.c .h (.c .h .n))) (D0 _ (AM.BM V1 a.BM (heard sv a.bytes)) (ls1.put a.BM ⟨sl.queue, sl.wait, sl.told⟩) ev1 a.BM _ hs (Nat.le_trans (F6 (Hi hs.1 hs.2 (Em (V := V1) (ls := ls1) (ev := ev1) hs.1 hs.2 hsv hlv (Gr (u := a.bytes) hln.2.1 hln.1 y13)) hF0) a.BM hs.1 hs.2) (by omega))) (fun v18 B hv => ?_)
    obtain ⟨y19, y20, y21, rfl, y22, rfl⟩ := hv
    refine Gn (.t2 0 4) (AI (Gm rfl ?_))
    refine BC rfl Qu (.c rfl .n) (.c .h (.c .h (.c .h .n))) (DY _ y19 y20 y21 1 0 (by rw [y22]; exact (Hi hs.1 hs.2 (Em (V := V1) (ls := ls1) (ev := ev1) hs.1 hs.2 hsv hlv (Gr (u := a.bytes) hln.2.1 hln.1 y13)) hF0).tell hs.1 hs.2 (show AL.Qd.length ≤ _ by decide)) (by omega) (by omega)) (fun w hS => ⟨gl0.pull gm0 hS (.c .h (.c .h (.c .h .n))), gl1.pull gm1 hS (.c .h (.c .h (.c .h .n))), gl2.pull gm2 hS (.c .h (.c .h (.c .h .n))), gl3.pull gm3 hS (.c .h (.c .h (.c .h .n)))⟩) (fun v23 B hv => ?_)
    obtain ⟨y24, y25, y26, rfl, y27, rfl⟩ := hv
    refine AO (AB (.t1 4) ?_)
    refine AT (AA (Gs (Gt (BA L3 JF rfl .nil) ?_)))
    refine AR (AJ (AS.id Ba.fl.len Ba.fl.one) rfl rfl rfl Ii rfl (.t (.t (.t .h)))) ?_
    refine Gn (.t1 4) (Ab ?_)
    refine AY rfl (.cell rfl .m3 (.inl ⟨(by rw [Ba.fl.len]; exact HO), rfl⟩) .n) ?_
    intro w1 hS
    have hS := (hS.perm (Av.perm (.c .h (.c .h (.c .h .n))))).Az
    have hq0 : AL.ES (A3 V1 ls1 ev1) a = _ := ((AU c3).trans ((AU c4).trans ((AU c5).trans ((AU (show (decide ((AL.at_ (A3 V1 ls1 ev1) a.BM).state = 0) != decide (a.kind = 1)) = false by rw [F0 V1 ls1 ev1 hs.1 hs.2]; exact c6)).trans ((AU c7).trans (A9 c8))))))
    have hq : (AL.act (A3 V ls ev) a) = _ := (AL.GB c1 a).trans ((congrArg (fun X => AL.ES X a) hX.symm).trans hq0)
    refine ⟨_, ⟨y24, y25, y26, ?gv7, ?ga7, rfl⟩, hS⟩
    case gv7 => rw [hq]; rfl
    case ga7 => rw [hq]; dsimp only; exact (Kl hs.1 hs.2 (Em (V := V1) (ls := ls1) (ev := ev1) hs.1 hs.2 hsv hlv (Gr (u := a.bytes) hln.2.1 hln.1 y13)) (.inl ⟨c9, y22⟩) y27)
   have c9p := kz c9
   refine Aa ?_
   refine AB (.t2 0 4) ?_
   refine AA (AI (Gm rfl ?_))
   refine BC rfl Qu (.c rfl .n) (.c .h (.c .h (.c .h .n))) (DY _ (AM.BM V1 a.BM (heard sv a.bytes)) (ls1.put a.BM ⟨sl.queue, sl.wait, sl.told⟩) ev1 0 0 (Hi hs.1 hs.2 (Em (V := V1) (ls := ls1) (ev := ev1) hs.1 hs.2 hsv hlv (Gr (u := a.bytes) hln.2.1 hln.1 y13)) hF0) (by omega) (by omega)) (fun w hS => ⟨gl0.pull gm0 hS (.c .h (.c .h (.c .h .n))), gl1.pull gm1 hS (.c .h (.c .h (.c .h .n))), gl2.pull gm2 hS (.c .h (.c .h (.c .h .n))), gl3.pull gm3 hS (.c .h (.c .h (.c .h .n)))⟩) (fun v28 B hv => ?_)
   obtain ⟨y29, y30, y31, rfl, y32, rfl⟩ := hv
   refine AO (AB (.t1 4) ?_)
   refine AT (AA (Gs (Gt (BA L3 JF rfl .nil) ?_)))
   refine AR (AJ (AS.id Ba.fl.len Ba.fl.one) rfl rfl rfl Ii rfl (.t (.t (.t .h)))) ?_
   refine Gn (.t1 4) (Ab ?_)
   refine AY rfl (.cell rfl .m3 (.inl ⟨(by rw [Ba.fl.len]; exact HO), rfl⟩) .n) ?_
   intro w1 hS
   have hS := (hS.perm (Av.perm (.c .h (.c .h (.c .h .n))))).Az
   have hq0 : AL.ES (A3 V1 ls1 ev1) a = _ := ((AU c3).trans ((AU c4).trans ((AU c5).trans ((AU (show (decide ((AL.at_ (A3 V1 ls1 ev1) a.BM).state = 0) != decide (a.kind = 1)) = false by rw [F0 V1 ls1 ev1 hs.1 hs.2]; exact c6)).trans ((AU c7).trans (A9 c8))))))
   have hq : (AL.act (A3 V ls ev) a) = _ := (AL.GB c1 a).trans ((congrArg (fun X => AL.ES X a) hX.symm).trans hq0)
   refine ⟨_, ⟨y29, y30, y31, ?gv8, ?ga8, rfl⟩, hS⟩
   case gv8 => rw [hq]; rfl
   case ga8 => rw [hq]; dsimp only; exact (Kl hs.1 hs.2 (Em (V := V1) (ls := ls1) (ev := ev1) hs.1 hs.2 hsv hlv (Gr (u := a.bytes) hln.2.1 hln.1 y13)) (.inr ⟨c9, rfl⟩) y32)
  refine Gm rfl (Gt (AK rfl rfl) (Gt (AK rfl rfl) (Gt (AK rfl rfl) (Gt (BR rfl) (Gt (Ai K9 rfl) ?_)))))
  refine AR (AJ ((AS.BM V1 hs.1 hs.2).comp A0.l3) rfl rfl rfl Mu rfl (.t (.t (.t (.t .h))))) ?_
  refine Ga rfl (Gn (.t4 0 4 6 9) (Ap ?_))
  refine Eb (.c .h (.c (.t .h) (.c (.t .h) (.c (.t .h) (.c (.t .h) .n))))) ?_
  refine GP hs.1 hs.2 (by rfl) (by rfl) (by rfl) ?_
  refine AI (Gm rfl (Gt (CS rfl rfl) (Gn (.t4 0 4 6 134) ?_)))
  refine Gc (fun c10 => ?_) (fun c10 => ?_)
  ·
   have c10p := kz c10
   refine AI (Gm rfl (Gm rfl ?_))
   refine Ah rfl SM (.c rfl (.c rfl (.c rfl .n))) (.c .h (.c .h (.c (.t .h) .n))) (D0 _ (AM.BM V1 a.BM { heard sv a.bytes with ED := ⟨(Bb.feed (Bb.start sv.ED sl.queue) (sv.EA.DK a.bytes).2.1).now, (Bb.feed (Bb.start sv.ED sl.queue) (sv.EA.DK a.bytes).2.1).Cj, (Bb.feed (Bb.start sv.ED sl.queue) (sv.EA.DK a.bytes).2.1).ret, y15⟩ }) (ls1.put a.BM ⟨(Bb.feed (Bb.start sv.ED sl.queue) (sv.EA.DK a.bytes).2.1).queue, sl.wait, sl.told⟩) ev1 a.BM _ hs (Nat.le_trans (F6 (Hi hs.1 hs.2 (Em (V := V1) (ls := ls1) (ev := ev1) hs.1 hs.2 hsv hlv (Hs (u := a.bytes) hln.2.1 hln.1 y14 y15)) hF0) a.BM hs.1 hs.2) (by omega))) (fun v33 B hv => ?_)
   obtain ⟨y34, y35, y36, rfl, y37, rfl⟩ := hv
   refine Gn (.t2 0 4) (AI (Gm rfl ?_))
   refine BC rfl Qu (.c rfl .n) (.c .h (.c .h (.c .h .n))) (DY _ y34 y35 y36 1 0 (by rw [y37]; exact (Hi hs.1 hs.2 (Em (V := V1) (ls := ls1) (ev := ev1) hs.1 hs.2 hsv hlv (Hs (u := a.bytes) hln.2.1 hln.1 y14 y15)) hF0).tell hs.1 hs.2 (show AL.Qd.length ≤ _ by decide)) (by omega) (by omega)) (fun w hS => ⟨gl0.pull gm0 hS (.c .h (.c .h (.c .h .n))), gl1.pull gm1 hS (.c .h (.c .h (.c .h .n))), gl2.pull gm2 hS (.c .h (.c .h (.c .h .n))), gl3.pull gm3 hS (.c .h (.c .h (.c .h .n)))⟩) (fun v38 B hv => ?_)
   obtain ⟨y39, y40, y41, rfl, y42, rfl⟩ := hv
   refine AO (AB (.t1 4) ?_)
   refine AT (AA (Gs (Gt (BA L3 JF rfl .nil) ?_)))
   refine AR (AJ (AS.id Ba.fl.len Ba.fl.one) rfl rfl rfl Ii rfl (.t (.t (.t (.t .h))))) ?_
   refine Gn (.t1 4) (Ab ?_)
   refine AY rfl (.cell rfl .m4 (.inl ⟨(by rw [Ba.fl.len]; exact HO), rfl⟩) .n) ?_
   intro w1 hS
   have hS := (hS.perm (Av.perm (.c .h (.c .h (.c .h .n))))).Az
   have hq0 : AL.ES (A3 V1 ls1 ev1) a = _ := ((AU c3).trans ((AU c4).trans ((AU c5).trans ((AU (show (decide ((AL.at_ (A3 V1 ls1 ev1) a.BM).state = 0) != decide (a.kind = 1)) = false by rw [F0 V1 ls1 ev1 hs.1 hs.2]; exact c6)).trans ((AU c7).trans (A9 c8))))))
   have hq : (AL.act (A3 V ls ev) a) = _ := (AL.GB c1 a).trans ((congrArg (fun X => AL.ES X a) hX.symm).trans hq0)
   refine ⟨_, ⟨y39, y40, y41, ?gv9, ?ga9, rfl⟩, hS⟩
   case gv9 => rw [hq]; rfl
   case ga9 => rw [hq]; dsimp only; exact (Kl hs.1 hs.2 (Em (V := V1) (ls := ls1) (ev := ev1) hs.1 hs.2 hsv hlv (Hs (u := a.bytes) hln.2.1 hln.1 y14 y15)) (.inl ⟨c10, y37⟩) y42)
  have c10p := kz c10
  refine Aa ?_
  refine AB (.t2 0 4) ?_
  refine AA (AI (Gm rfl ?_))
  refine BC rfl Qu (.c rfl .n) (.c .h (.c .h (.c (.t .h) .n))) (DY _ (AM.BM V1 a.BM { heard sv a.bytes with ED := ⟨(Bb.feed (Bb.start sv.ED sl.queue) (sv.EA.DK a.bytes).2.1).now, (Bb.feed (Bb.start sv.ED sl.queue) (sv.EA.DK a.bytes).2.1).Cj, (Bb.feed (Bb.start sv.ED sl.queue) (sv.EA.DK a.bytes).2.1).ret, y15⟩ }) (ls1.put a.BM ⟨(Bb.feed (Bb.start sv.ED sl.queue) (sv.EA.DK a.bytes).2.1).queue, sl.wait, sl.told⟩) ev1 0 0 (Hi hs.1 hs.2 (Em (V := V1) (ls := ls1) (ev := ev1) hs.1 hs.2 hsv hlv (Hs (u := a.bytes) hln.2.1 hln.1 y14 y15)) hF0) (by omega) (by omega)) (fun w hS => ⟨gl0.pull gm0 hS (.c .h (.c .h (.c (.t .h) .n))), gl1.pull gm1 hS (.c .h (.c .h (.c (.t .h) .n))), gl2.pull gm2 hS (.c .h (.c .h (.c (.t .h) .n))), gl3.pull gm3 hS (.c .h (.c .h (.c (.t .h) .n)))⟩) (fun v43 B hv => ?_)
  obtain ⟨y44, y45, y46, rfl, y47, rfl⟩ := hv
  refine AO (AB (.t1 4) ?_)
  refine AT (AA (Gs (Gt (BA L3 JF rfl .nil) ?_)))
  refine AR (AJ (AS.id Ba.fl.len Ba.fl.one) rfl rfl rfl Ii rfl (.t (.t (.t (.t .h))))) ?_
  refine Gn (.t1 4) (Ab ?_)
  refine AY rfl (.cell rfl .m4 (.inl ⟨(by rw [Ba.fl.len]; exact HO), rfl⟩) .n) ?_
  intro w1 hS
  have hS := (hS.perm (Av.perm (.c .h (.c .h (.c .h .n))))).Az
  have hq0 : AL.ES (A3 V1 ls1 ev1) a = _ := ((AU c3).trans ((AU c4).trans ((AU c5).trans ((AU (show (decide ((AL.at_ (A3 V1 ls1 ev1) a.BM).state = 0) != decide (a.kind = 1)) = false by rw [F0 V1 ls1 ev1 hs.1 hs.2]; exact c6)).trans ((AU c7).trans (A9 c8))))))
  have hq : (AL.act (A3 V ls ev) a) = _ := (AL.GB c1 a).trans ((congrArg (fun X => AL.ES X a) hX.symm).trans hq0)
  refine ⟨_, ⟨y44, y45, y46, ?gv10, ?ga10, rfl⟩, hS⟩
  case gv10 => rw [hq]; rfl
  case ga10 => rw [hq]; dsimp only; exact (Kl hs.1 hs.2 (Em (V := V1) (ls := ls1) (ev := ev1) hs.1 hs.2 hsv hlv (Hs (u := a.bytes) hln.2.1 hln.1 y14 y15)) (.inr ⟨c10, rfl⟩) y47)
 have c8p := kz c8
 refine Gs (Gt (Af rfl rfl) (Ga rfl (Gn (.t6 0 3 4 6 85 140) ?_)))
 refine Gc (fun c11 => ?_) (fun c11 => ?_)
 ·
  have c11p := kz c11
  refine Gs (Ga rfl (Gn (.t4 0 3 4 6) (Ap ?_)))
  refine FK (k := a.BM) hs.1 hs.2 (fun sv sl hsv hlv hln => ?_)
  refine BD (N := 15) [0, 0, 2, 6, 14, 0, 32, 126, 254, 510, 510, 1023, 3071, 7167, 16383] mix (by kernel_rfl) rfl ?_
  refine Pf 0 rfl (AE rfl) (Pf 1 rfl (AE rfl) (Pf 2 rfl (BR rfl) (Pf 3 rfl (Ai Df rfl) (Pf 4 rfl (AZ rfl Cn .m3 ((AS.BM V1 hs.1 hs.2).comp A0.l4) rfl) (Pf 5 rfl (Ai Ut rfl) (Pf 6 rfl (AG rfl A2 .m7 Br.l2 rfl rfl) ?_))))))
  refine BV 7 rfl rfl (by kernel_rfl) (KQ (Jn (Dp bD (.c rfl (.c rfl .n)) (fun w hS => L7 _ _ w)))) ?_
  refine Pf 8 rfl (AE rfl) (Pf 9 rfl (AK rfl rfl) (Pf 10 rfl (AK rfl rfl) (Pf 11 rfl (BR rfl) (Pf 12 rfl (Ai Df rfl) ?_))))
  refine An 13 rfl (by kernel_rfl) ?_
  refine AR (AJ ((AS.BM V1 hs.1 hs.2).comp A0.l4) rfl rfl rfl FC rfl (.t (.t (.t .h)))) ?_
  refine BK rfl ⟨?_, ?_⟩
  · exact (Pk (Pk (Po rfl (AK rfl rfl) rfl rfl (Pk (Pk (Pk (Pk (Pk (Pk (Pk (Pk (Pk (Pk Ar)))))))))))))
  refine Pf 14 rfl (Ay rfl) ?_
  refine A1 (by kernel_rfl) ?_
  refine AB (.t3 0 4 10) ?_
  refine AA (Ap ?_)
  refine Eb (.c .h (.c .h (.c .h (.c .h (.c .h .n))))) ?_
  refine GP hs.1 hs.2 (by rfl) (by rfl) (by rfl) ?_
  refine AI (Gm rfl ?_)
  refine BC rfl Qu (.c rfl .n) (.c .h (.c .h (.c .h .n))) (DY _ (AM.BM V1 a.BM { sv with out := ⟨sv.out.wait, sv.out.shown, sv.out.CA, sv.out.ring.drop (max 0 (min a.n (sv.out.ring.length : Int))).toNat, sv.out.cut⟩ }) (ls1.put a.BM ⟨sl.queue, sl.wait, sl.told⟩) ev1 0 0 (by rw [(show A3 (AM.BM V1 a.BM { sv with out := ⟨sv.out.wait, sv.out.shown, sv.out.CA, sv.out.ring.drop (max 0 (min a.n (sv.out.ring.length : Int))).toNat, sv.out.cut⟩ }) (ls1.put a.BM ⟨sl.queue, sl.wait, sl.told⟩) ev1 = AL.set (A3 V1 ls1 ev1) a.BM ((AL.at_ (A3 V1 ls1 ev1) a.BM).LV a.n) from EN hs.1 hs.2 hsv hlv (f := fun x => x.LV a.n) rfl)]; exact hF0.LV hs.1 hs.2 a.n) (by omega) (by omega)) (fun w hS => ⟨gl0.pull gm0 hS (.c .h (.c .h (.c .h .n))), gl1.pull gm1 hS (.c .h (.c .h (.c .h .n))), gl2.pull gm2 hS (.c .h (.c .h (.c .h .n))), gl3.pull gm3 hS (.c .h (.c .h (.c .h .n)))⟩) (fun v48 B hv => ?_)
  obtain ⟨y49, y50, y51, rfl, y52, rfl⟩ := hv
  refine Gn (.t2 4 10) (Gs (Gm rfl (Gt (BA L3 JF rfl (.cons Ba.l1 rfl rfl rfl .nil)) ?_)))
  refine AR (AJ (AS.id Ba.fl.len Ba.fl.one) rfl rfl rfl Ii rfl (.t (.t (.t .h)))) ?_
  refine Gn (.t1 4) (Ab (AP (AD ?_)))
  refine AY rfl (.cell rfl .m3 (.inl ⟨(by rw [Ba.fl.len]; exact HO), rfl⟩) .n) ?_
  intro w1 hS
  have hS := (hS.perm (Av.perm (.c .h (.c .h (.c .h .n))))).Az
  have hq0 : AL.ES (A3 V1 ls1 ev1) a = _ := ((AU c3).trans ((AU c4).trans ((AU c5).trans ((AU (show (decide ((AL.at_ (A3 V1 ls1 ev1) a.BM).state = 0) != decide (a.kind = 1)) = false by rw [F0 V1 ls1 ev1 hs.1 hs.2]; exact c6)).trans ((AU c7).trans ((AU c8).trans (A9 c11)))))))
  have hq : (AL.act (A3 V ls ev) a) = _ := (AL.GB c1 a).trans ((congrArg (fun X => AL.ES X a) hX.symm).trans hq0)
  refine ⟨_, ⟨y49, y50, y51, ?gv11, ?ga11, rfl⟩, hS⟩
  case gv11 => rw [hq]; exact congrArg (fun x => Value.agg (Ba.enc ⟨0, x⟩).toArray) (Vh V1 ls1 ev1 hs.1 hs.2 hsv a.n)
  case ga11 => rw [hq]; dsimp only; exact y52.trans (congrArg AL.Bz (show A3 (AM.BM V1 a.BM { sv with out := ⟨sv.out.wait, sv.out.shown, sv.out.CA, sv.out.ring.drop (max 0 (min a.n (sv.out.ring.length : Int))).toNat, sv.out.cut⟩ }) (ls1.put a.BM ⟨sl.queue, sl.wait, sl.told⟩) ev1 = AL.set (A3 V1 ls1 ev1) a.BM ((AL.at_ (A3 V1 ls1 ev1) a.BM).LV a.n) from EN hs.1 hs.2 hsv hlv (f := fun x => x.LV a.n) rfl))
 have c11p := kz c11
 refine Gs (Gt (Af rfl rfl) (Ga rfl (Gn (.t4 0 4 6 159) ?_)))
 refine GJ rfl (decide_eq_true (by omega)) ?_
 refine Gs (Gm rfl (Gm rfl ?_))
 refine BC rfl YI (.c rfl (.c rfl .n)) (.c .h (.c .h (.c .h .n))) (HY _ V1 ls1 ev1 a.BM 0 0 hs hF0 (by omega) (by omega)) (fun w hS => ⟨gl0.pull gm0 hS (.c .h (.c .h (.c .h .n))), gl1.pull gm1 hS (.c .h (.c .h (.c .h .n))), gl2.pull gm2 hS (.c .h (.c .h (.c .h .n))), gl3.pull gm3 hS (.c .h (.c .h (.c .h .n)))⟩) (fun v53 B hv => ?_)
 obtain ⟨y54, y55, y56, rfl, y57, rfl⟩ := hv
 refine Gn (.t2 0 4) (AI (Gm rfl ?_))
 refine BC rfl Qu (.c rfl .n) (.c .h (.c .h (.c .h .n))) (DY _ y54 y55 y56 11 11 (by rw [y57]; exact hF0.leave hs.1 hs.2) (by omega) (by omega)) (fun w hS => ⟨gl0.pull gm0 hS (.c .h (.c .h (.c .h .n))), gl1.pull gm1 hS (.c .h (.c .h (.c .h .n))), gl2.pull gm2 hS (.c .h (.c .h (.c .h .n))), gl3.pull gm3 hS (.c .h (.c .h (.c .h .n)))⟩) (fun v58 B hv => ?_)
 obtain ⟨y59, y60, y61, rfl, y62, rfl⟩ := hv
 refine AO (AB (.t1 4) ?_)
 refine AT (AA (Gs (Gt (BA L3 JF rfl .nil) ?_)))
 refine AR (AJ (AS.id Ba.fl.len Ba.fl.one) rfl rfl rfl Ii rfl (.t (.t (.t .h)))) ?_
 refine Gn (.t1 4) (Ab ?_)
 refine AY rfl (.cell rfl .m3 (.inl ⟨(by rw [Ba.fl.len]; exact HO), rfl⟩) .n) ?_
 intro w1 hS
 have hS := (hS.perm (Av.perm (.c .h (.c .h (.c .h .n))))).Az
 have hq0 : AL.ES (A3 V1 ls1 ev1) a = _ := ((AU c3).trans ((AU c4).trans ((AU c5).trans ((AU (show (decide ((AL.at_ (A3 V1 ls1 ev1) a.BM).state = 0) != decide (a.kind = 1)) = false by rw [F0 V1 ls1 ev1 hs.1 hs.2]; exact c6)).trans ((AU c7).trans ((AU c8).trans (AU c11)))))))
 have hq : (AL.act (A3 V ls ev) a) = _ := (AL.GB c1 a).trans ((congrArg (fun X => AL.ES X a) hX.symm).trans hq0)
 refine ⟨_, ⟨y59, y60, y61, ?gv12, ?ga12, rfl⟩, hS⟩
 case gv12 => rw [hq]; rfl
 case ga12 => rw [hq]; dsimp only; exact y62.trans (congrArg AL.Bz y57)
theorem N3 (b : Nat) (V : AM) (i : Int) (hi : 0 ≤ i ∧ i < 4) : JU Tryz.prog 21 #[.pointer (some ⟨b, 0, none⟩), .int .i64 i] [Ad.box b 101 (AM.enc V)] (fun v B => v = .tuple #[.int .i64 (Hv (V.Ax.at i)).1, .int .i64 (Hv (V.Ax.at i)).2] ∧ B = [Ad.box b 101 (AM.enc V)]) := by
 intro w hS0
 refine Am _ _ Tryz.func21 rfl rfl rfl (hS0) ?_
 refine Gs (Ga rfl (Ga rfl (Gn (.t2 0 1) (B7 (Gm rfl (Gt (Fh Tryz.underlying37 rfl) (Gm rfl ?_)))))))
 refine D4 (t := 8) rfl rfl rfl (AE rfl) ?_
 refine D4 (t := 8) rfl rfl rfl (A6 rfl rfl) ?_
 refine Gt (Di rfl rfl) (Gm rfl (BU 12 rfl rfl (fun q => AE rfl) (BU 12 rfl rfl (fun q => CL (cF rfl q) rfl) ?_)))
 refine Gt (BP rfl rfl (fun h => by rw [h]; rfl)) ?_
 refine Gm rfl (BU 16 rfl rfl (fun q => AE rfl) (BU 16 rfl rfl (fun q => AE rfl) (BU 16 rfl rfl (fun q => BR (cF rfl q)) (BU 16 rfl rfl (fun q => Ai GU (cF rfl q)) ?_))))
 refine BU 16 rfl rfl (fun q => by have q1 := q; (try simp at q1); exact AQ PW (cF rfl q) (cF rfl q) (by first | omega | exact hi.1 | exact hi.2) (by first | omega | exact hi.1 | exact hi.2)) ?_
 refine BU 16 rfl rfl (fun q => Ai H5 (cF rfl q)) ?_
 refine BU 16 rfl rfl (fun q => by have q1 := q; (try simp at q1); exact AG (cF rfl q) A2 .m0 ((AM.l1.comp (AS.ar (n := 4) A0.fl (by first | omega | exact hi))).comp A0.l0) rfl rfl) ?_
 refine BU 16 rfl rfl (fun q => CK (cF rfl q) rfl) ?_
 refine Gt (BP rfl rfl (fun h => by rw [h]; rfl)) ?_
 refine Gn (.t3 0 1 25) ?_
 refine Gc (fun c1 => ?_) (fun c1 => ?_)
 ·
  have c1p := kz c1
  refine B7 (Gm rfl (Gt (Fh Tryz.underlying37 rfl) (Gm rfl ?_)))
  refine D4 (t := 28) rfl rfl rfl (AE rfl) ?_
  refine D4 (t := 28) rfl rfl rfl (A6 rfl rfl) ?_
  refine Gt (Di rfl rfl) (Gm rfl (BU 32 rfl rfl (fun q => AE rfl) (BU 32 rfl rfl (fun q => CL (cF rfl q) rfl) ?_)))
  refine Gt (BP rfl rfl (fun h => by rw [h]; rfl)) ?_
  refine Gn (.t3 0 1 35) ?_
  refine EE rfl (by rw [Bool.or_eq_false_iff, decide_eq_false_iff_not, decide_eq_false_iff_not]; omega) ?_
  refine Aa ?_
  refine AB (.t2 0 1) ?_
  refine AA (Gs (Gm rfl (Gm rfl (Gt (BR rfl) (Gt (Ai GU rfl) ?_)))))
  refine Gt (AQ PW rfl rfl (by first | omega | exact hi.1 | exact hi.2) (by first | omega | exact hi.1 | exact hi.2)) ?_
  refine Gt (Ai H5 rfl) ?_
  refine Gt (AG rfl A2 .m0 ((AM.l1.comp (AS.ar (n := 4) A0.fl (by first | omega | exact hi))).comp A0.l0) rfl rfl) ?_
  refine Ga rfl (Ga rfl (Gn (.t2 4 5) (Ab (AD ?_))))
  refine AY rfl (.tmp rfl (.tmp rfl .n)) ?_
  intro w1 hS
  have hS := (hS.perm (Av.perm (.c .h .n))).Az
  have hq : Hv (V.Ax.at i) = _ := if_neg (by rw [decide_eq_true_eq]; rcases c1p with (h | h) | h <;> first | omega | exact h)
  refine ⟨_, ⟨?gv1, rfl⟩, hS⟩
  case gv1 => rw [hq]; rfl
 have c1p := kz c1
 refine Aa ?_
 refine AB (.t2 0 1) ?_
 refine AA (Ap ?_)
 refine BD (N := 9) [0, 0, 1, 5, 15, 31, 63, 0, 255] mix (by kernel_rfl) rfl ?_
 refine Pf 0 rfl (AE rfl) (Pf 1 rfl (AE rfl) (Pf 2 rfl (BR rfl) (Pf 3 rfl (Ai GU rfl) ?_)))
 refine Pf 4 rfl (AQ PW rfl rfl (by first | omega | exact hi.1 | exact hi.2) (by first | omega | exact hi.1 | exact hi.2)) ?_
 refine Pf 5 rfl (Ai HU rfl) ?_
 refine Pf 6 rfl (AG rfl A2 .m0 ((AM.l1.comp (AS.ar (n := 4) A0.fl (by first | omega | exact hi))).comp A0.l1) rfl rfl) ?_
 refine Pf 7 rfl (Ay rfl) (Pf 8 rfl (Ay rfl) ?_)
 refine A1 (by kernel_rfl) ?_
 refine AB (.t2 4 5) ?_
 refine AA (Ab ?_)
 refine AY rfl (.tmp rfl (.tmp rfl .n)) ?_
 intro w1 hS
 have hS := (hS.perm (Av.perm (.c .h .n))).Az
 have hq : Hv (V.Ax.at i) = _ := if_pos (decide_eq_true c1p.2)
 refine ⟨_, ⟨?gv2, rfl⟩, hS⟩
 case gv2 => rw [hq]; rfl
theorem PT (b : Nat) (V : AM) (ls : Vector BG 4) (i : Int) (hi : 0 ≤ i ∧ i < 4) (hl : (ls.at i).told.length ≤ 1000000) : JU Tryz.prog 24 #[.pointer (some ⟨b, 0, none⟩), .int .i64 i] [Ad.box b 101 (AM.enc V), Ad.Ds (CI 9 (AM.Ax V) ls)] (fun v B => ∃ h' : Hd, v = h'.val ∧ h'.len = (ls.at i).told.length ∧ B = [Ad.box b 101 (AM.enc V), Ad.Ds (CI 9 (AM.Ax V) ls), Ad.own h' 9 1 ((ls.at i).told.flatMap A4)]) := by
 intro w hS0
 refine Am _ _ Tryz.func24 rfl rfl rfl (hS0) ?_
 refine Gs (Ga rfl (Gn (.t2 0 1) (B7 (Gm rfl (Gt (Fh Tryz.underlying37 rfl) (Gm rfl ?_))))))
 refine D4 (t := 7) rfl rfl rfl (AE rfl) ?_
 refine D4 (t := 7) rfl rfl rfl (A6 rfl rfl) ?_
 refine Gt (Di rfl rfl) (Gm rfl (BU 11 rfl rfl (fun q => AE rfl) (BU 11 rfl rfl (fun q => CL (cF rfl q) rfl) ?_)))
 refine Gt (BP rfl rfl (fun h => by rw [h]; rfl)) ?_
 refine Gn (.t3 0 1 14) ?_
 refine EE rfl (by rw [Bool.or_eq_false_iff, decide_eq_false_iff_not, decide_eq_false_iff_not]; omega) ?_
 refine Aa ?_
 refine AB (.t2 0 1) ?_
 refine AA (Ap ?_)
 refine FK (k := i) hi.1 hi.2 (fun sv sl hsv hlv hln => ?_)
 have hl2 := hl
 rw [hlv] at hl2
 refine AI (Gm rfl (Gm rfl (Gt (BR rfl) (Gt (Ai GU rfl) ?_))))
 refine Gt (AQ PW rfl rfl (by first | omega | exact hi.1 | exact hi.2) (by first | omega | exact hi.1 | exact hi.2)) ?_
 refine Gt (Ai Ps rfl) (Gt (AG rfl FQ .m3 ((AS.BM V hi.1 hi.2).comp A0.l5) rfl rfl) ?_)
 refine C9 A4 9 1 ?_
 refine IT (e := A4) rfl Tryz.underlying52 Ei Rg rfl XP (by decide) rfl rfl (fun w hS => Src.DU Tryz.underlying52 ((Kn.own .m3) w hS)) rfl rfl (by omega) (fun _ => .h) (fun h1 h1l => ?_)
 refine Ga rfl (Gn (.t1 4) (Ab ?_))
 refine AY rfl (.tmp rfl .n) ?_
 intro w1 hS
 have hS := (hS.perm (Av.perm (.c (.t .h) (.c (.t .h) (.c (.t .h) (.c (.t .h) (.c (.t .h) (.c .h .n)))))))).Az
 have e1 : V.BM i sv = V := by rw [← hsv]; exact V.OT hi.1 hi.2
 have e2 : ls.put i ⟨sl.queue, sl.wait, sl.told⟩ = ls := by rw [← hlv]; exact Vector.Pb ls hi.1 hi.2
 have hS := St.close' (s := sv) (qs := sl.queue) (ws := sl.wait) (ts := sl.told) hi.1 hi.2 rfl rfl rfl hS
 rw [e1, e2] at hS
 try rw [hsv]
 rw [hlv]
 refine ⟨_, ⟨_, rfl, ?gl, rfl⟩, hS⟩
 case gl => (try simp only [List.length_append, List.length_nil] at *); omega
theorem JC  (w : World) (gl0 : GV 2 FL w) (gl1 : GV 0 AH.C0 w) (gl2 : F8 7 w) (gl3 : F8 8 w) : EL Tryz.prog 33 #[] w fun v w' => v = .bool true ∧ B4 w w' := by
 refine Am [] [] Tryz.func33 rfl rfl rfl (St.start w []) ?_
 refine Gs (Ga rfl (Gn (.nil _) (Gs ?_)))
 refine Ah rfl ZA .n .n (I8 ) (fun v1 B hv => ?_)
 obtain ⟨y2, y3, y4, y5, rfl, y6, rfl⟩ := hv
 refine Ga rfl (Gn (.t1 1) (B7 (Gm rfl (Gt (Fh Tryz.underlying37 rfl) (Gn (.t2 1 8) ?_)))))
 refine EE rfl rfl ?_
 refine Aa ?_
 refine AB (.t1 1) ?_
 refine AA (Gs (Gm rfl (Gt (BA YN TN rfl (.cons Br.l0 rfl rfl rfl (.cons Br.l1 rfl rfl rfl .nil))) ?_)))
 refine BC rfl W0 (.c rfl (.c rfl .n)) (.c .h (.c .h (.c .h .n))) (IK y2 y3 y4 y5 AL.Oq (by rw [y6]; exact AL.ba) (by decide)) (fun w hS => ⟨gl0.pull (by simp) hS (.c .h (.c .h (.c .h .n))), gl1.pull (by simp) hS (.c .h (.c .h (.c .h .n))), gl2.pull (by simp) hS (.c .h (.c .h (.c .h .n))), gl3.pull (by simp) hS (.c .h (.c .h (.c .h .n)))⟩) (fun v8 B hv => ?_)
 obtain ⟨y9, y10, y11, rfl, y12, rfl⟩ := hv
 refine BF rfl JF rfl (fun b1 => ?_)
 refine AR (AJ (AS.id Ba.fl.len Ba.fl.one) rfl rfl rfl Ii rfl .h) ?_
 refine Gn (.t2 1 2) (Gs (Gm rfl (Gt (BA YN TN rfl (.cons Br.l0 rfl rfl rfl (.cons Br.l1 rfl rfl rfl (.cons Br.l3 rfl rfl rfl .nil)))) ?_)))
 refine BC rfl W0 (.c rfl (.c rfl .n)) (.c (.t .h) (.c (.t .h) (.c (.t .h) .n))) (IK y2 y9 y10 y11 AL.type2 (by rw [y12, y6]; exact AL.bT) (by decide)) (fun w hS => ⟨gl0.pull (by simp) hS (.c (.t .h) (.c (.t .h) (.c (.t .h) .n))), gl1.pull (by simp) hS (.c (.t .h) (.c (.t .h) (.c (.t .h) .n))), gl2.pull (by simp) hS (.c (.t .h) (.c (.t .h) (.c (.t .h) .n))), gl3.pull (by simp) hS (.c (.t .h) (.c (.t .h) (.c (.t .h) .n)))⟩) (fun v13 B hv => ?_)
 obtain ⟨y14, y15, y16, rfl, y17, rfl⟩ := hv
 refine Gn (.t2 1 2) (Gs (Gm rfl (Gt (BA YN TN rfl (.cons Br.l0 rfl rfl rfl .nil)) ?_)))
 refine BC rfl W0 (.c rfl (.c rfl .n)) (.c .h (.c .h (.c .h .n))) (IK y2 y14 y15 y16 AL.SO (by rw [y17, y12, y6]; exact AL.bU) (by decide)) (fun w hS => ⟨gl0.pull (by simp) hS (.c .h (.c .h (.c .h .n))), gl1.pull (by simp) hS (.c .h (.c .h (.c .h .n))), gl2.pull (by simp) hS (.c .h (.c .h (.c .h .n))), gl3.pull (by simp) hS (.c .h (.c .h (.c .h .n)))⟩) (fun v18 B hv => ?_)
 obtain ⟨y19, y20, y21, rfl, y22, rfl⟩ := hv
 refine BF rfl JF rfl (fun b2 => ?_)
 refine AR (AJ (AS.id Ba.fl.len Ba.fl.one) rfl rfl rfl Ii rfl .h) ?_
 refine Gn (.t3 1 2 3) (Ap ?_)
 have hA : A3 y19 y20 y21 = AL.Z9 := by rw [y22, y17, y12, y6]; rfl
 have hA3 : (A3 y19 y20 y21).Live := by rw [hA]; exact AL.U3
 refine AI (Gm rfl ?_)
 refine Ah rfl af (.c rfl (.c rfl .n)) (.c (.t .h) .n) (N3 y2 y19 2 (by decide)) (fun v23 B hv => ?_)
 obtain ⟨rfl, rfl⟩ := hv
 refine Gm rfl (Gt (AK rfl rfl) (Gt (AK rfl rfl) (Ga rfl (Ga rfl (Gn (.t5 1 2 3 4 5) (Gs (Gt (Ai VA rfl) ?_)))))))
 refine Gt (AG rfl Vc .m4 Ba.l0 rfl rfl) (Gt (Af rfl rfl) (Gm rfl (Bh 26 rfl rfl (fun q => Ai VA rfl) (Bh 26 rfl rfl (fun q => AG (Bc rfl q) Vc .m1 Ba.l0 rfl rfl) (Bh 26 rfl rfl (fun q => Af (Bc rfl q) rfl) (Gt (BI rfl rfl (fun h => h)) (Gm rfl ?_)))))))
 refine Bh 31 rfl rfl (fun q => AE rfl) (Bh 31 rfl rfl (fun q => Af (Bc rfl q) rfl) (Gt (BI rfl rfl (fun h => h)) (Gm rfl (Bh 35 rfl rfl (fun q => AE rfl) (Bh 35 rfl rfl (fun q => Af (Bc rfl q) rfl) (Gt (BI rfl rfl (fun h => h)) (Gm rfl ?_)))))))
 refine Bh 39 rfl rfl (fun q => AE rfl) ?_
 refine XN 39 rfl (fun c1 => ?_) (fun c1 => ?_)
 ·
  refine Rr (t := 39) rfl (by first | rfl | exact bd rfl c1) rfl ay (.c (Bc rfl c1) (.c rfl .n)) (.c .h (.c (.t .h) .n)) (PT y2 y19 y20 2 (by decide) (hA3.told (by decide) (by decide))) (fun v24 B hv => ?_)
  obtain ⟨y25, rfl, y26, rfl⟩ := hv
  refine D4 (t := 39) rfl rfl rfl (Ao rfl Tryz.underlying52 rfl) ?_
  refine D4 (t := 39) rfl rfl rfl (CS rfl rfl) ?_
  refine Gt (DD rfl rfl) (Ga rfl (Gn (.t1 0) (Ab ?_)))
  refine AY rfl (.tmp rfl .n) ?_
  intro w1 hS; refine ⟨?_, hS.Aj⟩; have hd := AL.aS
  rw [← hA, Cc _ _ _ (by decide) (by decide)] at hd
  exact congrArg Value.bool (by rw [y26]; exact hd)
 refine Cx (t := 39) rfl rfl rfl rfl ?_
 refine Cx (t := 39) rfl rfl rfl rfl ?_
 refine Cx (t := 39) rfl rfl rfl rfl ?_
 refine Gt (Di rfl rfl) (Ga rfl (Gn (.t1 0) (Ab ?_)))
 refine AY rfl (.tmp rfl .n) ?_
 intro w1 hS; refine ⟨?_, hS.Aj⟩; have hs := PR y19 y20 y21 (show (0 : Int) ≤ 2 by decide) (by decide)
 rw [hA, AL.ab] at hs
 have hc := c1
 rw [hs, y6, AL.bB, y17, y12, y6, AL.aW] at hc
 cases hc
theorem Iy {t0 : Nat} (f : Hd) (l : List Br) (hu : ∀ a ∈ l, a.bytes.length ≤ 140737488351232) (hn : l.length ≤ 400) : Ew Tryz.prog 34 #[f.val] [] (fun w => Rd w f t0 4 (l.flatMap Br.enc) ∧ (GV 2 FL w ∧ 2 ∉ CW []) ∧ (GV 0 AH.C0 w ∧ 0 ∉ CW []) ∧ (F8 7 w ∧ 7 ∉ CW []) ∧ (F8 8 w ∧ 8 ∉ CW [])) (fun v B => ∃ h : Hd, v = .tuple #[h.val, .int .i64 0] ∧ h.len = l.length ∧ B = [Ad.own h 44 2 ((AL.new.run l).2.flatMap Ba.enc)]) := by
 intro w hS0 hH
 obtain ⟨r0, ⟨gl0, gm0⟩, ⟨gl1, gm1⟩, ⟨gl2, gm2⟩, ⟨gl3, gm3⟩⟩ := hH
 have hfl := r0.K1 Br.fl (by decide)
 refine Am _ _ Tryz.func34 rfl rfl rfl (hS0) ?_
 refine Gs (Ga rfl (Ga rfl (Gn (.t1 0) (B7 (Gm rfl (Gt (Ao rfl Tryz.underlying22 rfl) (Gt (CS rfl rfl) ?_)))))))
 refine Gn (.t2 0 10) ?_
 refine EE rfl (decide_eq_false (by omega)) ?_
 refine Aa ?_
 refine AB (.t1 0) ?_
 refine AA (Gs ?_)
 refine Ah rfl ZA .n .n (I8 ) (fun v1 B hv => ?_)
 obtain ⟨y2, y3, y4, y5, rfl, y6, rfl⟩ := hv
 refine Ga rfl (Gn (.t2 0 4) (Gs (Ga rfl (AO (AA (B7 (Gm rfl ?_)))))))
 refine Gt (Ao rfl Tryz.underlying22 rfl) (Gm rfl (Gn (.t5 4 5 12 13 14) (Ae ?_)))
 refine Bl (.t5 5 14 4 12 13) ?_
 refine EM Ba.enc 44 2 ?_
 refine BZ (.t (.t (.t .h))) ?_
 refine BZ (.t (.t (.t .h))) ?_
 refine BZ (.t (.t (.t .h))) ?_
 refine BZ (.t (.t (.t .h))) ?_
 refine NW (fun (k : Int) (V1 : AM) (ls1 : Vector BG 4) (ev1 : List Ing.Event) (g : Hd) => 0 ≤ k ∧ k ≤ (l.length : Int) ∧ A3 V1 ls1 ev1 = (AL.new.run (l.take k.toNat)).1 ∧ g.len = k.toNat) (fun (k : Int) (V1 : AM) (ls1 : Vector BG 4) (ev1 : List Ing.Event) (g : Hd) => ((l.length : Int) - k).toNat) (fun (k : Int) (V1 : AM) (ls1 : Vector BG 4) (ev1 : List Ing.Event) (g : Hd) => [(5, g.val), (14, .int .i64 k)]) (fun (k : Int) (V1 : AM) (ls1 : Vector BG 4) (ev1 : List Ing.Event) (g : Hd) => [Ad.own g 44 2 ((AL.new.run (l.take k.toNat)).2.flatMap Ba.enc), Ad.box y2 101 (AM.enc V1), Ad.Ds (CI 9 (AM.Ax V1) ls1), Ad.own (AM.last V1) 56 16 (ev1.flatMap Ing.Event.enc)]) (0) (y3) (y4) (y5) (_) ?_ rfl rfl (fun k V1 ls1 ev1 g hI1 => ?_)
 · exact ⟨by omega, by omega, y6, rfl⟩
 obtain ⟨hI11, hI12, hI13, hI14⟩ := hI1
 refine Gs (Gt (A6 rfl rfl) (AO (AA (Ap ?_))))
 refine Gc (fun c1 => ?_) (fun c1 => ?_)
 ·
  have c1p := kz c1
  refine Aa ?_
  refine AB (.t5 4 5 12 13 14) ?_
  refine AA (Ap (Ae (Gs ?_)))
  refine Gt (Bm ag (by decide) (Kn.Hb r0) rfl rfl (by omega) (by omega)) ?_
  refine Gt (LH rfl Xf (by decide) Br.fl (Kn.Hb r0) (by omega)) ?_
  refine BF rfl TN rfl (fun b1 => ?_)
  refine AR (AJ (AS.id Br.fl.len Br.fl.one) rfl rfl rfl UX rfl .h) ?_
  refine Gn (.t6 4 5 7 12 13 14) (AI (Gm rfl (Gm rfl (Gt (AZ rfl Xf .m0 (AS.id Br.fl.len Br.fl.one) rfl) ?_))))
  refine BC rfl W0 (.c rfl (.c rfl .n)) (.c (.t (.t .h)) (.c (.t (.t .h)) (.c (.t (.t .h)) .n))) (IK y2 V1 ls1 ev1 (l.getD k.toNat default) (by rw [hI13]; exact AL.Live.run _ AL.Q4) (hu _ (Oh (d := default) (xs := l) (i := k.toNat) (by omega)))) (fun w hS => ⟨gl0.pull gm0 hS (.c (.t (.t .h)) (.c (.t (.t .h)) (.c (.t (.t .h)) .n))), gl1.pull gm1 hS (.c (.t (.t .h)) (.c (.t (.t .h)) (.c (.t (.t .h)) .n))), gl2.pull gm2 hS (.c (.t (.t .h)) (.c (.t (.t .h)) (.c (.t (.t .h)) .n))), gl3.pull gm3 hS (.c (.t (.t .h)) (.c (.t (.t .h)) (.c (.t (.t .h)) .n)))⟩) (fun v8 B hv => ?_)
  obtain ⟨y9, y10, y11, rfl, y12, rfl⟩ := hv
  refine Eu Ba.enc Ba.fl rfl Tryz.underlying78 Ii JF rfl (by decide) (by decide) rfl rfl (fun b2 => ?_)
  refine CO Ba.fl rfl Tryz.underlying78 Ii JF rfl aE (by decide) (by decide) rfl rfl (fun w hS => Src.DU Tryz.underlying78 ((Kn.own .m0) w hS)) (by (try dsimp only); omega) (fun _ => (.t (.t (.t (.t (.t .h)))))) (fun h13 h13l h13z => ?_)
  refine Ga rfl ?_
  refine AO (AB (.t5 4 5 12 13 14) ?_)
  refine AT (AA (AI ?_))
  refine Gt (As rfl rfl (IntWalk.i64_in _ (by omega))) ?_
  refine Gm rfl ?_
  refine AO (AB (.t5 4 5 12 13 14) ?_)
  refine CP (.c (.t (.t (.t (.t (.t .h))))) (.c (.t .h) (.c (.t .h) (.c (.t .h) .n)))) ?_
  refine CZ ?_
  refine Hq (k + 1) _ _ _ _ ?_ ?_ (.t5 5 14 4 12 13) (by rw [AL.Tj hI11 (by omega), ← hI13]; exact (.refl _))
  · exact ⟨by omega, by omega, by rw [AL.WG hI11 (by omega), ← hI13]; exact y12, by (try dsimp only at *); omega⟩
  · omega
 have c1p := kz c1
 obtain rfl : k = (l.length : Int) := by omega
 refine BX (AW (AW (Ag ?_)))
 refine AB (.t1 5) ?_
 refine AA (Gs (Gm rfl (Ga rfl (Ga rfl (Gn (.t2 2 3) (Ab ?_))))))
 refine AY rfl (.tmp rfl (.tmp rfl .n)) ?_
 intro w1 hS
 have hS := (hS.perm (Av.perm (.c .h .n))).Az
 refine ⟨_, ⟨_, rfl, ?gl, ?gB⟩, hS⟩
 case gB => rw [show ((l.length : Int)).toNat = l.length by omega, List.take_length]
 case gl => omega
end Go.Proofs.YtoidpggbbfncpaaGreatDoor
