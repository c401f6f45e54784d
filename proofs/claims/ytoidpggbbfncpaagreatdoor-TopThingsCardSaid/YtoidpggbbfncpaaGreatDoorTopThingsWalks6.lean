/- What the functions that the law TopThings reaches compute: walks, part 6. No condition. -/
import Derived.Test.YtoidpggbbfncpaaGreatDoorCards
import Derived.Test.YtoidpggbbfncpaaGreatDoorTie
import Derived.Deep.DeepHandedRow
import Derived.Test.YtoidpggbbfncpaaGreatDoorRows
import Derived.Test.YtoidpggbbfncpaaGreatDoorTopThingsEc3
import Derived.Test.YtoidpggbbfncpaaGreatDoorTopThingsRa1
import Derived.Test.YtoidpggbbfncpaaGreatDoorTopThingsRb1
import Derived.Test.YtoidpggbbfncpaaGreatDoorTopThingsRc1
import Derived.Test.YtoidpggbbfncpaaGreatDoorTopThingsWalks
import Derived.Test.YtoidpggbbfncpaaGreatDoorTopThingsWalks2
import Derived.Test.YtoidpggbbfncpaaGreatDoorTopThingsWalks3
import Derived.Test.YtoidpggbbfncpaaGreatDoorTopThingsWalks4
import Derived.Test.YtoidpggbbfncpaaGreatDoorTopThingsWalks5
set_option linter.unusedSimpArgs false
set_option linter.unusedVariables false
set_option maxRecDepth 100000
set_option maxHeartbeats 1000000
namespace Go.Proofs.YtoidpggbbfncpaaGreatDoor
open Go Go.Ing Go.RowKit Go.ChangeShapes Go.WideShapes Go.ChangeAt
theorem N0 {t0 : Nat} (l : BN) (qs : List Ap) (w : World) (r0 : Rd w l.queue t0 1 (qs.flatMap A7)) : Ef Tryz.prog 45 #[.agg l.enc.toArray] w fun v w' => v = .bool (Bf.BZ l qs) ∧ CA w w' := by
 have hl := r0.My DS (by decide)
 refine Al [] [] Tryz.func45 rfl rfl rfl (St.start w []) ?_
 refine Gs ?_
 refine B3 rfl rfl rfl (fun b1 => ?_)
 refine Ga rfl (Gn (.t1 1) (CD (Gt (Ah J0 rfl) (Gt (AH rfl CO .m0 BN.l0 rfl rfl) (Gt (BG rfl Tryz.underlying9 rfl) (Gt (Ci rfl rfl) (Gm rfl ?_)))))))
 refine Bc 10 rfl rfl (fun q => Ah F7 rfl) (Bc 10 rfl rfl (fun q => AH (cF rfl q) Fz .m0 BN.l3 rfl rfl) (Bc 10 rfl rfl (fun q => Ar rfl Tryz.underlying52 (cF rfl q)) (Bc 10 rfl rfl (fun q => Ci (cF rfl q) rfl) ?_)))
 refine Gt (BS rfl rfl (fun h => by rw [h]; rfl)) ?_
 refine Gm rfl (Bc 16 rfl rfl (fun q => Ah O5 rfl) (Bc 16 rfl rfl (fun q => AH (cF rfl q) Dh .m0 BN.l1 rfl rfl) (Bc 16 rfl rfl (fun q => AF (cF rfl q)) ?_)))
 refine DJ (t := 19) rfl rfl rfl (fun qc q => Ah J0 rfl) ?_
 refine DJ (t := 19) rfl rfl rfl (fun qc q => AH (Bh rfl (by rw [qc, q]; rfl)) CO .m0 BN.l0 rfl rfl) ?_
 refine DJ (t := 19) rfl rfl rfl (fun qc q => BG rfl Tryz.underlying9 (Bh rfl (by rw [qc, q]; rfl))) ?_
 refine DJ (t := 19) rfl rfl rfl (fun qc q => Ci (Bh rfl (by rw [qc, q]; rfl)) rfl) ?_
 refine Bc 16 rfl rfl (fun q => BJ (cF rfl q) rfl (fun h => by rw [q, h]; rfl)) ?_
 refine Gt (BS rfl rfl (fun h => by rw [h]; rfl)) ?_
 refine Gm rfl (Bc 26 rfl rfl (fun q => Ah OD rfl) (Bc 26 rfl rfl (fun q => AH (cF rfl q) Dh .m0 BN.l2 rfl rfl) (Bc 26 rfl rfl (fun q => AF (cF rfl q)) ?_)))
 refine DJ (t := 29) rfl rfl rfl (fun qc q => Ah J0 rfl) ?_
 refine DJ (t := 29) rfl rfl rfl (fun qc q => AH (Bh rfl (by rw [qc, q]; rfl)) CO .m0 BN.l0 rfl rfl) ?_
 refine DJ (t := 29) rfl rfl rfl (fun qc q => Df (Bh rfl (by rw [qc, q]; rfl)) rfl) ?_
 refine DJ (t := 29) rfl rfl rfl (fun qc q => AF (Bh rfl (by rw [qc, q]; rfl))) ?_
 refine C0 (t := 33) rfl rfl rfl (fun qc q => Ah O5 rfl) ?_
 refine C0 (t := 33) rfl rfl rfl (fun qc q => AH (Bh rfl (by rw [qc, q]; rfl)) Dh .m0 BN.l1 rfl rfl) ?_
 refine DJ (t := 29) rfl rfl rfl (fun qc q => BS (Bh rfl (by rw [qc, q]; rfl)) rfl (fun h => by rw [qc, q, h]; rfl)) ?_
 refine Bc 26 rfl rfl (fun q => BJ (cF rfl q) rfl (fun h => by rw [q, h]; rfl)) ?_
 refine Gt (BS rfl rfl (fun h => by rw [h]; rfl)) ?_
 refine Gn (.t2 1 38) ?_
 refine Gc (fun c1 => ?_) (fun c1 => ?_)
 ·
  refine Gs (Ga rfl (Gn (.t1 2) (Ab (AD ?_))))
  refine AY rfl (.tmp rfl .n) ?_
  intro w1 hS; refine ⟨congrArg Value.bool ?_, hS.Am⟩; rw [Bf.BZ, show Bf.I3 l = true from c1]; rfl
 have c1p := kz c1
 have hq : (l.queue.len : Int) ≤ 6 := by omega
 refine Aa ?_
 refine AB (.t1 1) ?_
 refine AA (Ao (Ao ?_))
 refine BD (N := 9) [0, 1, 3, 0, 8, 24, 63, 127, 0] mix (by kernel_rfl) rfl ?_
 refine Pf 0 rfl (Ah F7 rfl) (Pf 1 rfl (AH rfl Fz .m0 BN.l3 rfl rfl) (Pf 3 rfl (Ah J0 rfl) (Pf 4 rfl (AH rfl CO .m0 BN.l0 rfl rfl) (Pf 8 rfl (AF rfl) ?_))))
 refine Jn 2 5 rfl rfl (by kernel_rfl) ?_ ?_
 ·
  refine BE rfl Vd (.c rfl .n) .n (Bv _ _ (by first | assumption | omega)) (fun w hS => (Kn.I7 r0) w hS) (fun v1 B hv => ?_)
  obtain ⟨y2, rfl, y3, rfl⟩ := hv
  refine Bp rfl ⟨?_, ?_⟩
  · exact (Po rfl (AF rfl) rfl rfl (Po rfl (AH rfl CO .m1 BN.l0 rfl rfl) rfl rfl (Po rfl (Ah J0 rfl) rfl rfl (Pk (Pk Aq)))))
  refine An 5 rfl (by kernel_rfl) ?_
  refine Fa A7 DS rfl Tryz.underlying52 Ey TF rfl (by decide) (by decide) rfl rfl (fun b2 => ?_)
  refine Bp rfl ⟨?_, ?_⟩
  · exact (Po rfl (AF rfl) rfl rfl (Pk (Pk (Po rfl (AH rfl Fz .m2 BN.l3 rfl rfl) rfl rfl (Po rfl (Ah F7 rfl) rfl rfl Aq)))))
  refine An 6 rfl (by kernel_rfl) ?_
  refine Ca DS rfl Tryz.underlying52 Ey TF rfl X1 (by decide) (by decide) rfl rfl (fun w hS => Src.EG Tryz.underlying52 ((Kn.own .m0) w hS)) (by (try dsimp only); omega) (fun _ => (.t .h)) (fun h5 h5l h5z => ?_)
  refine Bp rfl ⟨?_, ?_⟩
  · exact (Po rfl (AF rfl) rfl rfl (Pk (Pk (Pk (Pk Aq)))))
  refine Pf 7 rfl (Ar rfl Tryz.underlying52 rfl) ?_
  refine A3 (by kernel_rfl) ?_
  refine AB (.t3 45 46 47) ?_
  refine AA (Ae ?_)
  refine Bo (.t3 47 45 46) ?_
  refine CY (fun (k : Int) => 0 ≤ k ∧ k ≤ ((qs ++ [l.now]).length : Int) ∧ Bf.BZ l qs = ((qs ++ [l.now]).drop k.toNat).all Bf.F1) (fun (k : Int) => (((qs ++ [l.now]).length : Int) - k).toNat) (fun (k : Int) => [(47, .int .i64 k)]) (fun (k : Int) => []) (0) ?_ rfl rfl (fun k hI1 => ?_)
  · exact ⟨by omega, by omega, by rw [Bf.BZ, show Bf.I3 l = false from c1]; rfl⟩
  obtain ⟨hI11, hI12, hI13⟩ := hI1
  refine Gs (Gt (A9 rfl rfl) (AQ (AA (Ao ?_))))
  refine Gc (fun c2 => ?_) (fun c2 => ?_)
  ·
   have c2p := kz c2
   have hk : k < ((qs ++ [l.now]).length : Int) := by simp only [List.length_append, List.length_cons, List.length_nil] at *; omega
   have hk7 : ((qs ++ [l.now]).length : Int) ≤ 7 := by simp only [List.length_append, List.length_cons, List.length_nil] at *; omega
   refine Aa ?_
   refine AB (.t3 45 46 47) ?_
   refine AA (Ao (Ae (Gs ?_)))
   refine Gt (Br JH (by decide) (Kn.own .m1) rfl rfl (by omega) (by simp only [List.length_append, List.length_cons, List.length_nil] at *; omega)) ?_
   refine Gt (Dd rfl CO (Kn.own .m1) (by omega)) ?_
   refine Ga rfl (Gn (.t4 4 45 46 47) (CD (Gm rfl (Gt (BG rfl Tryz.underlying9 rfl) (Gt (Ci rfl rfl) (Gn (.t5 4 45 46 47 53) ?_))))))
   refine Gc (fun c3 => ?_) (fun c3 => ?_)
   ·
    refine Gs (Ga rfl (Gn (.t1 2) (Ab (AD (AS (AD (AD ?_)))))))
    refine AS (AD ?_)
    refine AY rfl (.tmp rfl .n) ?_
    intro w1 hS; refine ⟨congrArg Value.bool ?_, hS.Am⟩; rw [hI13, Bf.E8 (d := []) hI11 hk, Bf.F1, c3]; rfl
   have c3p := kz c3
   refine Aa ?_
   refine AB (.t4 4 45 46 47) ?_
   refine AA (Gs (Gm rfl (Gt (BG rfl Tryz.underlying9 rfl) (Gm rfl (Gn (.t6 4 45 46 47 55 56) (Ae ?_))))))
   refine Bo (.t6 56 4 45 46 47 55) ?_
   refine CY (fun (i : Int) => 0 ≤ i ∧ i ≤ (((qs ++ [l.now]).getD k.toNat []).length : Int) ∧ Bf.F1 ((qs ++ [l.now]).getD k.toNat []) = (((qs ++ [l.now]).getD k.toNat []).drop i.toNat).all Bf.Fo) (fun (i : Int) => ((((qs ++ [l.now]).getD k.toNat []).length : Int) - i).toNat) (fun (i : Int) => [(56, .int .i64 i)]) (fun (i : Int) => []) (0) ?_ rfl rfl (fun i hI2 => ?_)
   · exact ⟨by omega, by omega, by rw [Bf.F1, c3]; rfl⟩
   obtain ⟨hI21, hI22, hI23⟩ := hI2
   refine Gs (Gt (A9 rfl rfl) (AQ (AA (Ao ?_))))
   refine Gc (fun c4 => ?_) (fun c4 => ?_)
   ·
    have c4p := kz c4
    refine Aa ?_
    refine AB (.t6 4 45 46 47 55 56) ?_
    refine AA (Ao (Ae (Gs (Gm rfl (Ga rfl (Gn (.t7 4 5 45 46 47 55 56) (Gs ?_)))))))
    refine Gm rfl (Gm rfl ?_)
    refine Gt (Bk Tryz.underlying9 rfl rfl (by omega) (by omega)) ?_
    refine BA rfl Zx (.c rfl .n) (fun w hS => G0 _ w) ?_
    refine Gt (BX rfl) (Gn (.t7 4 45 46 47 55 56 63) ?_)
    refine Gc (fun c5 => ?_) (fun c5 => ?_)
    ·
     have c5p := kz c5
     refine Gs (Ga rfl (Gn (.t1 2) (Ab (AS (AD (AD (AS ?_)))))))
     refine AS (AD (AD (AS (AD ?_))))
     refine AY rfl (.tmp rfl .n) ?_
     intro w1 hS; refine ⟨congrArg Value.bool ?_, hS.Am⟩; rw [hI13, Bf.E8 (d := []) hI11 hk, hI23, Bf.E8 (d := 0) hI21 (by omega), show Bf.Fo _ = false from by simpa using c5]; rfl
    have c5p := kz c5
    refine Aa ?_
    refine AB (.t6 4 45 46 47 55 56) ?_
    refine AV (AA (AJ ?_))
    refine Gt (Au rfl rfl (IntWalk.i64_in _ (by omega))) ?_
    refine Gm rfl ?_
    refine AQ (AB (.t6 4 45 46 47 55 56) ?_)
    refine B4 (i + 1) ?_ ?_ (.t6 56 4 45 46 47 55) (.refl _)
    · exact ⟨by omega, by omega, by rw [hI23, Bf.E8 (d := 0) hI21 (by omega), show Bf.Fo _ = true from by simpa using c5]; rfl⟩
    · omega
   have c4p := kz c4
   refine Be (AX (AX (Aj ?_)))
   refine AB (.t3 45 46 47) ?_
   refine AV (AA (AJ ?_))
   refine Gt (Au rfl rfl (IntWalk.i64_in _ (by omega))) ?_
   refine Gm rfl ?_
   refine AQ (AB (.t3 45 46 47) ?_)
   refine B4 (k + 1) ?_ ?_ (.t3 47 45 46) (.refl _)
   · exact ⟨by omega, by omega, by rw [hI13, Bf.E8 (d := []) hI11 hk, hI23, show i.toNat = ((qs ++ [l.now]).getD k.toNat []).length from by omega, List.drop_length]; rfl⟩
   · omega
  have c2p := kz c2
  have hk : ¬ k < ((qs ++ [l.now]).length : Int) := by simp only [List.length_append, List.length_cons, List.length_nil] at *; omega
  refine Be (AX (AX (Aj ?_)))
  refine AB (.nil _) ?_
  refine AA (Gs (Ga rfl (AQ (AA (Ab ?_)))))
  refine AY rfl (.tmp rfl .n) ?_
  intro w1 hS; refine ⟨congrArg Value.bool ?_, hS.Am⟩; rw [hI13, show k.toNat = (qs ++ [l.now]).length from by omega, List.drop_length]; rfl
 ·
  refine Fa A7 DS rfl Tryz.underlying52 Ey TF rfl (by decide) (by decide) rfl rfl (fun b3 => ?_)
  refine Bp rfl ⟨?_, ?_⟩
  · exact (Po rfl (AF rfl) rfl rfl (Pk (Pk (Po rfl (AH rfl Fz .m1 BN.l3 rfl rfl) rfl rfl (Po rfl (Ah F7 rfl) rfl rfl Aq)))))
  refine An 2 rfl (by kernel_rfl) ?_
  refine BE rfl Vd (.c rfl .n) .n (Bv _ _ (by first | assumption | omega)) (fun w hS => (Kn.I7 r0) w hS) (fun v6 B hv => ?_)
  obtain ⟨y7, rfl, y8, rfl⟩ := hv
  refine Bp rfl ⟨?_, ?_⟩
  · exact (Po rfl (AF rfl) rfl rfl (Po rfl (AH rfl CO .m2 BN.l0 rfl rfl) rfl rfl (Po rfl (Ah J0 rfl) rfl rfl (Pk (Pk Aq)))))
  refine An 6 rfl (by kernel_rfl) ?_
  refine Ca DS rfl Tryz.underlying52 Ey TF rfl X1 (by decide) (by decide) rfl rfl (fun w hS => Src.EG Tryz.underlying52 ((Kn.own .m1) w hS)) (by (try dsimp only); omega) (fun _ => .h) (fun h10 h10l h10z => ?_)
  refine Bp rfl ⟨?_, ?_⟩
  · exact (Po rfl (AF rfl) rfl rfl (Pk (Pk (Pk (Pk Aq)))))
  refine Pf 7 rfl (Ar rfl Tryz.underlying52 rfl) ?_
  refine A3 (by kernel_rfl) ?_
  refine AB (.t3 45 46 47) ?_
  refine AA (Ae ?_)
  refine Bo (.t3 47 45 46) ?_
  refine CY (fun (k : Int) => 0 ≤ k ∧ k ≤ ((qs ++ [l.now]).length : Int) ∧ Bf.BZ l qs = ((qs ++ [l.now]).drop k.toNat).all Bf.F1) (fun (k : Int) => (((qs ++ [l.now]).length : Int) - k).toNat) (fun (k : Int) => [(47, .int .i64 k)]) (fun (k : Int) => []) (0) ?_ rfl rfl (fun k hI1 => ?_)
  · exact ⟨by omega, by omega, by rw [Bf.BZ, show Bf.I3 l = false from c1]; rfl⟩
  obtain ⟨hI11, hI12, hI13⟩ := hI1
  refine Gs (Gt (A9 rfl rfl) (AQ (AA (Ao ?_))))
  refine Gc (fun c6 => ?_) (fun c6 => ?_)
  ·
   have c6p := kz c6
   have hk : k < ((qs ++ [l.now]).length : Int) := by simp only [List.length_append, List.length_cons, List.length_nil] at *; omega
   have hk7 : ((qs ++ [l.now]).length : Int) ≤ 7 := by simp only [List.length_append, List.length_cons, List.length_nil] at *; omega
   refine Aa ?_
   refine AB (.t3 45 46 47) ?_
   refine AA (Ao (Ae (Gs ?_)))
   refine Gt (Br JH (by decide) (Kn.own .m0) rfl rfl (by omega) (by simp only [List.length_append, List.length_cons, List.length_nil] at *; omega)) ?_
   refine Gt (Dd rfl CO (Kn.own .m0) (by omega)) ?_
   refine Ga rfl (Gn (.t4 4 45 46 47) (CD (Gm rfl (Gt (BG rfl Tryz.underlying9 rfl) (Gt (Ci rfl rfl) (Gn (.t5 4 45 46 47 53) ?_))))))
   refine Gc (fun c7 => ?_) (fun c7 => ?_)
   ·
    refine Gs (Ga rfl (Gn (.t1 2) (Ab (AD (AS (AD (AD ?_)))))))
    refine AS (AD ?_)
    refine AY rfl (.tmp rfl .n) ?_
    intro w1 hS; refine ⟨congrArg Value.bool ?_, hS.Am⟩; rw [hI13, Bf.E8 (d := []) hI11 hk, Bf.F1, c7]; rfl
   have c7p := kz c7
   refine Aa ?_
   refine AB (.t4 4 45 46 47) ?_
   refine AA (Gs (Gm rfl (Gt (BG rfl Tryz.underlying9 rfl) (Gm rfl (Gn (.t6 4 45 46 47 55 56) (Ae ?_))))))
   refine Bo (.t6 56 4 45 46 47 55) ?_
   refine CY (fun (i : Int) => 0 ≤ i ∧ i ≤ (((qs ++ [l.now]).getD k.toNat []).length : Int) ∧ Bf.F1 ((qs ++ [l.now]).getD k.toNat []) = (((qs ++ [l.now]).getD k.toNat []).drop i.toNat).all Bf.Fo) (fun (i : Int) => ((((qs ++ [l.now]).getD k.toNat []).length : Int) - i).toNat) (fun (i : Int) => [(56, .int .i64 i)]) (fun (i : Int) => []) (0) ?_ rfl rfl (fun i hI2 => ?_)
   · exact ⟨by omega, by omega, by rw [Bf.F1, c7]; rfl⟩
   obtain ⟨hI21, hI22, hI23⟩ := hI2
   refine Gs (Gt (A9 rfl rfl) (AQ (AA (Ao ?_))))
   refine Gc (fun c8 => ?_) (fun c8 => ?_)
   ·
    have c8p := kz c8
    refine Aa ?_
    refine AB (.t6 4 45 46 47 55 56) ?_
    refine AA (Ao (Ae (Gs (Gm rfl (Ga rfl (Gn (.t7 4 5 45 46 47 55 56) (Gs ?_)))))))
    refine Gm rfl (Gm rfl ?_)
    refine Gt (Bk Tryz.underlying9 rfl rfl (by omega) (by omega)) ?_
    refine BA rfl Zx (.c rfl .n) (fun w hS => G0 _ w) ?_
    refine Gt (BX rfl) (Gn (.t7 4 45 46 47 55 56 63) ?_)
    refine Gc (fun c9 => ?_) (fun c9 => ?_)
    ·
     have c9p := kz c9
     refine Gs (Ga rfl (Gn (.t1 2) (Ab (AS (AD (AD (AS ?_)))))))
     refine AS (AD (AD (AS (AD ?_))))
     refine AY rfl (.tmp rfl .n) ?_
     intro w1 hS; refine ⟨congrArg Value.bool ?_, hS.Am⟩; rw [hI13, Bf.E8 (d := []) hI11 hk, hI23, Bf.E8 (d := 0) hI21 (by omega), show Bf.Fo _ = false from by simpa using c9]; rfl
    have c9p := kz c9
    refine Aa ?_
    refine AB (.t6 4 45 46 47 55 56) ?_
    refine AV (AA (AJ ?_))
    refine Gt (Au rfl rfl (IntWalk.i64_in _ (by omega))) ?_
    refine Gm rfl ?_
    refine AQ (AB (.t6 4 45 46 47 55 56) ?_)
    refine B4 (i + 1) ?_ ?_ (.t6 56 4 45 46 47 55) (.refl _)
    · exact ⟨by omega, by omega, by rw [hI23, Bf.E8 (d := 0) hI21 (by omega), show Bf.Fo _ = true from by simpa using c9]; rfl⟩
    · omega
   have c8p := kz c8
   refine Be (AX (AX (Aj ?_)))
   refine AB (.t3 45 46 47) ?_
   refine AV (AA (AJ ?_))
   refine Gt (Au rfl rfl (IntWalk.i64_in _ (by omega))) ?_
   refine Gm rfl ?_
   refine AQ (AB (.t3 45 46 47) ?_)
   refine B4 (k + 1) ?_ ?_ (.t3 47 45 46) (.refl _)
   · exact ⟨by omega, by omega, by rw [hI13, Bf.E8 (d := []) hI11 hk, hI23, show i.toNat = ((qs ++ [l.now]).getD k.toNat []).length from by omega, List.drop_length]; rfl⟩
   · omega
  have c6p := kz c6
  have hk : ¬ k < ((qs ++ [l.now]).length : Int) := by simp only [List.length_append, List.length_cons, List.length_nil] at *; omega
  refine Be (AX (AX (Aj ?_)))
  refine AB (.nil _) ?_
  refine AA (Gs (Ga rfl (AQ (AA (Ab ?_)))))
  refine AY rfl (.tmp rfl .n) ?_
  intro w1 hS; refine ⟨congrArg Value.bool ?_, hS.Am⟩; rw [hI13, show k.toNat = (qs ++ [l.now]).length from by omega, List.drop_length]; rfl
theorem OC {t0 : Nat} (l : BN) (qs : List Ap) (u : Ap) (hu : u.length ≤ 9000000000000000000) : FJ Tryz.prog 63 #[.agg l.enc.toArray, BT u] [] (fun w => Rd w l.queue t0 1 (qs.flatMap A7)) (fun v B => (Bf.BZ l qs = false ∧ v = .tuple #[.agg l.enc.toArray, .int .i64 0, .int .i64 2] ∧ B = []) ∨ (Bf.BZ l qs = true ∧ ∃ h' : Hd, v = .tuple #[.agg (BN.enc ⟨(Bf.feed (Bf.start l qs) u).now, (Bf.feed (Bf.start l qs) u).Cs, (Bf.feed (Bf.start l qs) u).ret, h'⟩).toArray, .int .i64 (Bf.feed (Bf.start l qs) u).lost, .int .i64 0] ∧ h'.len = (Bf.feed (Bf.start l qs) u).queue.length ∧ B = [Ad.own h' 9 1 ((Bf.feed (Bf.start l qs) u).queue.flatMap A7)])) := by
 intro w hS0 hH
 have r0 := hH
 have hl0 := r0.My DS (by decide)
 refine Al _ _ Tryz.func63 rfl rfl rfl (hS0) ?_
 refine Gs ?_
 refine B3 rfl rfl rfl (fun b1 => ?_)
 refine BF rfl bL rfl (fun b2 => ?_)
 refine Ga rfl (Ga rfl (Gn (.t3 1 2 4) (CD (Gt (AZ rfl Jx .m1 (AU.id BN.fl.len BN.fl.one) rfl) ?_))))
 refine BA rfl cO (.c rfl .n) (fun w hS => N0 _ _ w ((Kn.I7 r0) w hS)) ?_
 refine Gt (BX rfl) (Gn (.t4 1 2 4 14) ?_)
 refine Gc (fun c1 => ?_) (fun c1 => ?_)
 ·
  refine Gs (Gt (AZ rfl Jx .m1 (AU.id BN.fl.len BN.fl.one) rfl) ?_)
  refine AT (AK (AU.id BN.fl.len BN.fl.one) rfl rfl rfl OE rfl .h) ?_
  refine Ga rfl (Ga rfl (Gn (.t3 4 5 6) (Ab (AD ?_))))
  refine AY rfl (.cell rfl .m0 (.inl ⟨(by rw [BN.fl.len]; exact Jx), rfl⟩) (.tmp rfl (.tmp rfl .n))) ?_
  intro w1 hS
  have hS := (hS.perm (As.perm .n)).A1
  exact ⟨_, .inl ⟨by simpa using c1, rfl, rfl⟩, hS⟩
 have c1p := kz c1
 have hgd : Bf.BZ l qs = true := by simpa using c1
 have hh := Bf.V6 hgd
 have hq6 : qs.length ≤ 17592186044416 := by omega
 refine Aa ?_
 refine AB (.t3 1 2 4) ?_
 refine AA (Gs (Gt (Ah F7 rfl) (Gt (AH rfl Fz .m1 BN.l3 rfl rfl) ?_)))
 refine BE rfl Vd (.c rfl .n) .n (Bv _ _ (by first | assumption | omega)) (fun w hS => (Kn.I7 r0) w hS) (fun v1 B hv => ?_)
 obtain ⟨y2, rfl, y3, rfl⟩ := hv
 refine Gt (Ah F7 rfl) ?_
 refine AT (AK BN.l3 rfl rfl rfl No rfl (.t (.t .h))) ?_
 refine Gn (.t3 1 2 4) (Gs (Ga rfl (AQ (AA (Gs (Gt (Ah J0 rfl) (Gt (AH rfl CO .m2 BN.l0 rfl rfl) ?_)))))))
 refine Nd rfl Tryz.underlying9 Tryz.underlying105 Tryz.underlying5 rfl (fun h5 h5l => ?_)
 refine Ga rfl (Gn (.t5 1 2 4 7 8) (CD (Gm rfl (Gt (BG rfl Tryz.underlying9 rfl) (Gm rfl (Gn (.t7 1 2 4 7 8 24 25) (Ae ?_)))))))
 refine Bo (.t7 7 8 25 1 2 4 24) ?_
 refine Bg (.t (.t (.t .h))) ?_
 refine Bg (.t (.t .h)) ?_
 refine Bg (.t (.t .h)) ?_
 refine Ro (fun (k : Int) (now : Ap) (Cs : Bool) (ret : Bool) (queue : List Ap) (lost : Int) (h : Hd) (g : Hd) => Bf.I (Bf.start l qs) u k ⟨now, Cs, ret, queue, lost⟩ ∧ h.len = now.length ∧ g.len = queue.length) (fun (k : Int) (now : Ap) (Cs : Bool) (ret : Bool) (queue : List Ap) (lost : Int) (h : Hd) (g : Hd) => ((u.length : Int) - k).toNat) (fun (k : Int) (now : Ap) (Cs : Bool) (ret : Bool) (queue : List Ap) (lost : Int) (h : Hd) (g : Hd) => [(7, .int .i64 lost), (8, h.val), (25, .int .i64 k)]) (fun (k : Int) (now : Ap) (Cs : Bool) (ret : Bool) (queue : List Ap) (lost : Int) (h : Hd) (g : Hd) => [Ad.own h 5 1 (now.flatMap DO), Ad.own g 9 1 (queue.flatMap A7), Ad.box b1 75 (BN.enc ⟨l.now, Cs, ret, g⟩)]) (0) (l.now) (l.Cs) (l.ret) (qs) (0) (_) (_) ?_ rfl rfl (fun k now Cs ret queue lost h g hI1 => ?_)
 · exact ⟨Bf.I.start hh.1 (show qs.length ≤ 6 by omega) rfl, by assumption, by assumption⟩
 obtain ⟨hI11, hl, hg⟩ := hI1; have hk0 := hI11.k0; have hk1 := hI11.k1; have hn : now.length ≤ 60 := hI11.now; have hq : queue.length ≤ 6 := hI11.queue; have hlo : 0 ≤ lost ∧ lost ≤ k := hI11.lost
 refine Gs (Gt (A9 rfl rfl) (AQ (AA (Ao ?_))))
 refine Gc (fun c2 => ?_) (fun c2 => ?_)
 ·
  have c2p := kz c2
  refine Aa ?_
  refine AB (.t7 1 2 4 7 8 24 25) ?_
  refine AA (Ao (Ae (Gs (Gm rfl (Ga rfl (Gn (.t8 1 2 4 7 8 9 24 25) (Gs ?_)))))))
  refine Gm rfl (Gm rfl ?_)
  refine Gt (Bk Tryz.underlying9 rfl rfl (by omega) (by omega)) ?_
  refine Ga rfl (Gn (.t8 1 2 4 7 8 10 24 25) (Gs (Gt (Ah OD rfl) (Gt (AH rfl Dh .m2 BN.l2 rfl rfl) (Ga rfl (Gn (.t9 1 2 4 7 8 10 11 24 25) (Gs ?_)))))))
  refine Gt (Ah OD rfl) ?_
  refine AT (AK BN.l2 rfl rfl rfl KX rfl (.t (.t .h))) ?_
  refine Gn (.t9 1 2 4 7 8 10 11 24 25) (Ae (Gs (Gm rfl (Gm rfl (Bm 40 rfl rfl (fun q => AF rfl) (Bm 40 rfl rfl (fun q => Af (Bh rfl q) rfl) (Bm 40 rfl rfl (fun q => AF (Bh rfl q)) ?_)))))))
  refine C0 (t := 43) rfl rfl rfl (fun qc q => AF rfl) ?_
  refine C0 (t := 43) rfl rfl rfl (fun qc q => Af (Bh rfl (by rw [qc, q]; rfl)) rfl) ?_
  refine Bm 40 rfl rfl (fun q => BS (Bh rfl q) rfl (fun h => by rw [q, h]; rfl)) ?_
  refine Gt (BJ rfl rfl (fun h => h)) (Ga rfl (Gn (.t9 1 2 4 7 8 10 24 25 38) ?_))
  refine Gc (fun c3 => ?_) (fun c3 => ?_)
  ·
   have c3p := kz c3
   refine Aa ?_
   refine AB (.t7 1 2 4 7 8 24 25) ?_
   refine AV (AV (AA (AJ ?_)))
   refine Gt (Au rfl rfl (IntWalk.i64_in _ (by omega))) ?_
   refine Gm rfl ?_
   refine AQ (AB (.t7 1 2 4 7 8 24 25) ?_)
   refine CQ (k + 1) _ _ _ _ _ _ _ ?_ ?_ (.t7 7 8 25 1 2 4 24) (.refl _)
   · exact ⟨hI11.next (by omega) (by simp only [Bf.step, hl, c1, c2, c3, ↓reduceIte, Bool.false_eq_true]), (by (try dsimp only at *) <;> (try simp only [List.length_append, List.length_take, List.length_cons, List.length_nil]) <;> omega), (by (try dsimp only at *) <;> (try simp only [List.length_append, List.length_cons, List.length_nil]) <;> omega)⟩
   · omega
  have c3p := kz c3
  refine Gs (Gm rfl (Gt (Af rfl rfl) (Gm rfl (Bc 51 rfl rfl (fun q => AF rfl) (Bc 51 rfl rfl (fun q => Af (cF rfl q) rfl) ?_)))))
  refine Gt (BS rfl rfl (fun h => by rw [h]; rfl)) ?_
  refine Ga rfl (Gn (.t9 1 2 4 7 8 10 24 25 48) ?_)
  refine Gc (fun c4 => ?_) (fun c4 => ?_)
  ·
   have c4p := kz c4
   refine CD (Gt (Ah F7 rfl) (Gt (AH rfl Fz .m2 BN.l3 rfl rfl) (Gt (Ar rfl Tryz.underlying52 rfl) (Gt (A9 rfl rfl) (Gn (.t9 1 2 4 7 8 10 24 25 58) ?_)))))
   refine Gc (fun c5 => ?_) (fun c5 => ?_)
   ·
    have c5p := kz c5
    rw [hg] at c5
    refine AJ (Gt (Ah F7 rfl) (Gt (AH rfl Fz .m2 BN.l3 rfl rfl) (Gm rfl (Gt (J5 Tryz.underlying105 Tryz.underlying9 Tryz.underlying5 rfl (Kn.own .m0)) ?_))))
    refine Fa A7 DS rfl Tryz.underlying52 Ey TF rfl (by decide) (by decide) rfl rfl (fun b3 => ?_)
    refine Ca DS rfl Tryz.underlying52 Ey TF rfl X1 (by decide) (by decide) rfl rfl (fun w hS => Src.EG Tryz.underlying52 ((Kn.own .m0) w hS)) (by (try dsimp only); omega) (fun _ => (.t (.t .h))) (fun h6 h6l h6z => ?_)
    refine Gt (Ah F7 rfl) ?_
    refine AT (AK BN.l3 rfl rfl rfl No rfl (.t (.t (.t .h)))) ?_
    refine Gn (.t7 1 2 4 7 10 24 25) (AJ (Gm rfl (Gt (Af rfl rfl) (Ga rfl (Gt (Ah O5 rfl) ?_)))))
    refine AT (AK BN.l1 rfl rfl rfl KX rfl (.t (.t (.t .h)))) ?_
    refine Gt (Ah OD rfl) ?_
    refine AT (AK BN.l2 rfl rfl rfl KX rfl (.t (.t (.t .h)))) ?_
    refine AQ (AB (.t7 1 2 4 7 8 24 25) ?_)
    refine AV (AV (AA (AJ ?_)))
    refine Gt (Au rfl rfl (IntWalk.i64_in _ (by omega))) ?_
    refine Gm rfl ?_
    refine AQ (AB (.t7 1 2 4 7 8 24 25) ?_)
    refine UW DO 5 1 ?_
    refine CU (.c .h (.c (.t (.t .h)) (.c (.t (.t .h)) (.c (.t (.t .h)) .n)))) ?_
    refine Cj ?_
    refine CQ (k + 1) _ _ _ _ _ _ _ ?_ ?_ (.t7 7 8 25 1 2 4 24) (.refl _)
    · exact ⟨hI11.next (by omega) (by simp only [Bf.step, hl, c1, c2, c3, c4, c5, ↓reduceIte, Bool.false_eq_true]), (by (try dsimp only at *) <;> (try simp only [List.length_append, List.length_take, List.length_cons, List.length_nil]) <;> omega), (by (try dsimp only at *) <;> (try simp only [List.length_append, List.length_cons, List.length_nil]) <;> omega)⟩
    · omega
   have c5p := kz c5
   rw [hg] at c5
   refine AJ (Gm rfl ?_)
   refine Gt (Au rfl rfl (IntWalk.i64_in _ (by omega))) ?_
   refine Ga rfl (Gn (.t7 1 2 4 7 10 24 25) (AJ (Gm rfl (Gt (Af rfl rfl) (Ga rfl (Gt (Ah O5 rfl) ?_))))))
   refine AT (AK BN.l1 rfl rfl rfl KX rfl (.t (.t .h))) ?_
   refine Gt (Ah OD rfl) ?_
   refine AT (AK BN.l2 rfl rfl rfl KX rfl (.t (.t .h))) ?_
   refine AQ (AB (.t7 1 2 4 7 8 24 25) ?_)
   refine AV (AV (AA (AJ ?_)))
   refine Gt (Au rfl rfl (IntWalk.i64_in _ (by omega))) ?_
   refine Gm rfl ?_
   refine AQ (AB (.t7 1 2 4 7 8 24 25) ?_)
   refine UW DO 5 1 ?_
   refine CU (.c .h (.c (.t .h) (.c (.t .h) (.c (.t .h) .n)))) ?_
   refine Cj ?_
   refine CQ (k + 1) _ _ _ _ _ _ _ ?_ ?_ (.t7 7 8 25 1 2 4 24) (.refl _)
   · exact ⟨hI11.next (by omega) (by simp only [Bf.step, hl, c1, c2, c3, c4, c5, ↓reduceIte, Bool.false_eq_true]), (by (try dsimp only at *) <;> (try simp only [List.length_append, List.length_take, List.length_cons, List.length_nil]) <;> omega), (by (try dsimp only at *) <;> (try simp only [List.length_append, List.length_cons, List.length_nil]) <;> omega)⟩
   · omega
  have c4p := kz c4
  refine Gs (Gm rfl (Gt (Af rfl rfl) (Gm rfl (Bc 75 rfl rfl (fun q => AF rfl) (Bc 75 rfl rfl (fun q => Af (cF rfl q) rfl) ?_)))))
  refine Gt (BS rfl rfl (fun h => by rw [h]; rfl)) ?_
  refine Ga rfl (Gn (.t9 1 2 4 7 8 10 24 25 72) ?_)
  refine Gc (fun c6 => ?_) (fun c6 => ?_)
  ·
   have c6p := kz c6
   refine Gs (Gm rfl (Gt (Ar rfl Tryz.underlying105 rfl) (Gt (Ci rfl rfl) (Gn (.t8 1 2 4 7 8 24 25 81) ?_))))
   refine Gc (fun c7 => ?_) (fun c7 => ?_)
   ·
    have c7p := kz c7
    rw [hl] at c7
    refine AJ (Gm rfl (Gm rfl (Gt (Ar rfl Tryz.underlying105 rfl) ?_)))
    refine Gt (FK rfl rfl (IntWalk.i64_in _ (by omega))) ?_
    refine KM V7 rfl Tryz.underlying105 Vk rfl rfl (by omega) (by omega) (fun _ => .h) ?_
    refine Ga rfl ?_
    refine AQ (AB (.t7 1 2 4 7 8 24 25) ?_)
    refine AV (AV (AA (AJ ?_)))
    refine Gt (Au rfl rfl (IntWalk.i64_in _ (by omega))) ?_
    refine Gm rfl ?_
    refine AQ (AB (.t7 1 2 4 7 8 24 25) ?_)
    refine CQ (k + 1) _ _ _ _ _ _ _ ?_ ?_ (.t7 7 8 25 1 2 4 24) (.refl _)
    · exact ⟨hI11.next (by omega) (by simp only [Bf.step, hl, c1, c2, c3, c4, c6, c7, ↓reduceIte, Bool.false_eq_true]), (by (try dsimp only at *) <;> (try simp only [List.length_append, List.length_take, List.length_cons, List.length_nil]) <;> omega), (by (try dsimp only at *) <;> (try simp only [List.length_append, List.length_cons, List.length_nil]) <;> omega)⟩
    · omega
   have c7p := kz c7
   rw [hl] at c7
   refine Aa ?_
   refine AB (.t7 1 2 4 7 8 24 25) ?_
   refine AV (AV (AA (AJ ?_)))
   refine Gt (Au rfl rfl (IntWalk.i64_in _ (by omega))) ?_
   refine Gm rfl ?_
   refine AQ (AB (.t7 1 2 4 7 8 24 25) ?_)
   refine CQ (k + 1) _ _ _ _ _ _ _ ?_ ?_ (.t7 7 8 25 1 2 4 24) (.refl _)
   · exact ⟨hI11.next (by omega) (by simp only [Bf.step, hl, c1, c2, c3, c4, c6, c7, ↓reduceIte, Bool.false_eq_true]), (by (try dsimp only at *) <;> (try simp only [List.length_append, List.length_take, List.length_cons, List.length_nil]) <;> omega), (by (try dsimp only at *) <;> (try simp only [List.length_append, List.length_cons, List.length_nil]) <;> omega)⟩
   · omega
  have c6p := kz c6
  refine Gs (Gm rfl ?_)
  refine BA rfl Zx (.c rfl .n) (fun w hS => G0 _ w) ?_
  refine Gt (BX rfl) (Ga rfl (Gn (.t9 1 2 4 7 8 10 24 25 87) ?_))
  refine Gc (fun c8 => ?_) (fun c8 => ?_)
  ·
   have c8p := kz c8
   refine Aa ?_
   refine AB (.t7 1 2 4 7 8 24 25) ?_
   refine AV (AV (AA (AJ ?_)))
   refine Gt (Au rfl rfl (IntWalk.i64_in _ (by omega))) ?_
   refine Gm rfl ?_
   refine AQ (AB (.t7 1 2 4 7 8 24 25) ?_)
   refine CQ (k + 1) _ _ _ _ _ _ _ ?_ ?_ (.t7 7 8 25 1 2 4 24) (.refl _)
   · exact ⟨hI11.next (by omega) (by simp only [Bf.step, hl, c1, c2, c3, c4, c6, c8, ↓reduceIte, Bool.false_eq_true]), (by (try dsimp only at *) <;> (try simp only [List.length_append, List.length_take, List.length_cons, List.length_nil]) <;> omega), (by (try dsimp only at *) <;> (try simp only [List.length_append, List.length_cons, List.length_nil]) <;> omega)⟩
   · omega
  have c8p := kz c8
  refine Gs (Gm rfl (Gt (Ar rfl Tryz.underlying105 rfl) (Gt (CM rfl rfl) (Ga rfl (Gn (.t9 1 2 4 7 8 10 24 25 91) ?_)))))
  refine Gc (fun c9 => ?_) (fun c9 => ?_)
  ·
   have c9p := kz c9
   rw [hl] at c9
   refine AJ (Gt (Ah O5 rfl) ?_)
   refine AT (AK BN.l1 rfl rfl rfl KX rfl (.t (.t .h))) ?_
   refine AQ (AB (.t7 1 2 4 7 8 24 25) ?_)
   refine AV (AV (AA (AJ ?_)))
   refine Gt (Au rfl rfl (IntWalk.i64_in _ (by omega))) ?_
   refine Gm rfl ?_
   refine AQ (AB (.t7 1 2 4 7 8 24 25) ?_)
   refine CQ (k + 1) _ _ _ _ _ _ _ ?_ ?_ (.t7 7 8 25 1 2 4 24) (.refl _)
   · exact ⟨hI11.next (by omega) (by simp only [Bf.step, hl, c1, c2, c3, c4, c6, c8, c9, ↓reduceIte, Bool.false_eq_true]), (by (try dsimp only at *) <;> (try simp only [List.length_append, List.length_take, List.length_cons, List.length_nil]) <;> omega), (by (try dsimp only at *) <;> (try simp only [List.length_append, List.length_cons, List.length_nil]) <;> omega)⟩
   · omega
  have c9p := kz c9
  rw [hl] at c9
  refine AJ (Gm rfl (Gm rfl ?_))
  refine Fa DO V7 rfl Tryz.underlying105 Vk ZN rfl (by decide) (by decide) rfl rfl (fun b4 => ?_)
  refine Ca V7 rfl Tryz.underlying105 Vk ZN rfl dF (by decide) (by decide) rfl rfl (fun w hS => Src.EG Tryz.underlying105 ((Kn.own .m0) w hS)) (by (try dsimp only); omega) (fun _ => (.t .h)) (fun h9 h9l h9z => ?_)
  refine Ga rfl ?_
  refine AQ (AB (.t7 1 2 4 7 8 24 25) ?_)
  refine AV (AV (AA (AJ ?_)))
  refine Gt (Au rfl rfl (IntWalk.i64_in _ (by omega))) ?_
  refine Gm rfl ?_
  refine AQ (AB (.t7 1 2 4 7 8 24 25) ?_)
  refine CQ (k + 1) _ _ _ _ _ _ _ ?_ ?_ (.t7 7 8 25 1 2 4 24) (.cons _ (.refl _))
  · exact ⟨hI11.next (by omega) (by simp only [Bf.step, hl, c1, c2, c3, c4, c6, c8, c9, ↓reduceIte, Bool.false_eq_true]), (by (try dsimp only at *) <;> (try simp only [List.length_append, List.length_take, List.length_cons, List.length_nil]) <;> omega), (by (try dsimp only at *) <;> (try simp only [List.length_append, List.length_cons, List.length_nil]) <;> omega)⟩
  · omega
 have c2p := kz c2
 refine Be (AX (AX (Aj ?_)))
 refine AB (.t4 2 4 7 8) ?_
 refine AA (Gs (Gm rfl (Gt (J5 Tryz.underlying105 Tryz.underlying9 Tryz.underlying5 rfl (Kn.own .m0)) (Gt (Ah J0 rfl) ?_))))
 refine AT (AK BN.l0 rfl rfl rfl Ey rfl (.t (.t .h))) ?_
 refine Gn (.t3 2 4 7) (Gs (Gt (AZ rfl Jx .m2 (AU.id BN.fl.len BN.fl.one) rfl) (Gm rfl ?_)))
 refine AT (AK (AU.id BN.fl.len BN.fl.one) rfl rfl rfl OE rfl (.t (.t (.t .h)))) ?_
 refine Ga rfl (Ga rfl (Gn (.t3 4 5 6) (Ab ?_)))
 refine AY rfl (.cell rfl .m3 (.inl ⟨(by rw [BN.fl.len]; exact Jx), rfl⟩) (.tmp rfl (.tmp rfl .n))) ?_
 intro w1 hS
 have hS := (hS.perm (As.perm (.c (.t .h) .n))).A1
 have e := hI11.done (by omega)
 exact ⟨_, .inr ⟨hgd, _, by rw [e]; rfl, by rw [e]; exact hg, by rw [e]⟩, hS⟩
theorem Mt (p : Aw) (n : Int) (w : World) : Ef Tryz.prog 66 #[.agg p.enc.toArray, .int .i64 n] w fun v w' => v = .tuple #[.agg (Aw.enc ⟨p.wait, p.shown, p.B7, p.ring.drop (max 0 (min n (p.ring.length : Int))).toNat, p.cut⟩).toArray, BT (p.ring.take (max 0 (min n (p.ring.length : Int))).toNat)] ∧ CA w w' := by
 refine Al [] [] Tryz.func66 rfl rfl rfl (St.start w []) ?_
 refine Gs ?_
 refine B3 rfl rfl rfl (fun b1 => ?_)
 refine BF rfl W5 rfl (fun b2 => ?_)
 refine Ga rfl (Gn (.t3 1 2 4) (Gs (Gm rfl (Gt (Ah Jj rfl) (Gt (AH rfl CO .m1 Aw.l3 rfl rfl) (Gt (BG rfl Tryz.underlying9 rfl) (Gt (LW rfl rfl) ?_)))))))
 refine Gt (Lg rfl rfl) (Ga rfl (Gn (.t3 1 2 4) (Gs (Gt (Ah Jj rfl) (Gt (AH rfl CO .m1 Aw.l3 rfl rfl) (Gm rfl ?_))))))
 refine Gt (Ii Tryz.underlying9 rfl rfl (by omega) (by omega)) ?_
 refine Ga rfl (Gn (.t4 1 2 4 6) (Gs (Gt (Ah Jj rfl) (Gt (AH rfl CO .m1 Aw.l3 rfl rfl) (Gm rfl ?_)))))
 refine Gt (GY Tryz.underlying9 rfl rfl (by omega) (by omega)) ?_
 refine Gt (Ah Jj rfl) ?_
 refine AT (AK Aw.l3 rfl rfl rfl Ey rfl (.t .h)) ?_
 refine Gn (.t3 2 4 6) (Gs (Gt (AZ rfl Cw .m1 (AU.id Aw.fl.len Aw.fl.one) rfl) (Gm rfl ?_)))
 refine AT (AK (AU.id Aw.fl.len Aw.fl.one) rfl rfl rfl Fc rfl .h) ?_
 refine Ga rfl (Gn (.t2 4 5) (Ab ?_))
 refine AY rfl (.cell rfl .m0 (.inl ⟨(by rw [Aw.fl.len]; exact Cw), rfl⟩) (.tmp rfl .n)) ?_
 intro w1 hS; refine ⟨?_, hS.Am⟩; rfl
theorem JA (b : Nat) (V : AO) (ls : Vector BI 4) (ev : List Ing.Event) (a : Bz) (hL : AI.Live (A5 V ls ev)) (hu : a.bytes.length ≤ 140737488351232) : FJ Tryz.prog 38 #[.pointer (some ⟨b, 0, none⟩), .agg a.enc.toArray] [Ad.box b 101 (AO.enc V), Ad.D6 (CR 9 (AO.Az V) ls), Ad.own (AO.last V) 56 16 ((ev).flatMap Ing.Event.enc)] (fun w => (GV 2 Fl w ∧ 2 ∉ Cb [Ad.box b 101 (AO.enc V), Ad.D6 (CR 9 (AO.Az V) ls), Ad.own (AO.last V) 56 16 ((ev).flatMap Ing.Event.enc)]) ∧ (GV 0 AG.DD w ∧ 0 ∉ Cb [Ad.box b 101 (AO.enc V), Ad.D6 (CR 9 (AO.Az V) ls), Ad.own (AO.last V) 56 16 ((ev).flatMap Ing.Event.enc)]) ∧ (Gk 7 w ∧ 7 ∉ Cb [Ad.box b 101 (AO.enc V), Ad.D6 (CR 9 (AO.Az V) ls), Ad.own (AO.last V) 56 16 ((ev).flatMap Ing.Event.enc)]) ∧ (Gk 8 w ∧ 8 ∉ Cb [Ad.box b 101 (AO.enc V), Ad.D6 (CR 9 (AO.Az V) ls), Ad.own (AO.last V) 56 16 ((ev).flatMap Ing.Event.enc)])) (fun v B => ∃ V' ls' ev', v = .agg (Bl.enc (AI.act (A5 V ls ev) a).2).toArray ∧ A5 V' ls' ev' = (AI.act (A5 V ls ev) a).1 ∧ B = [Ad.box b 101 (AO.enc V'), Ad.D6 (CR 9 (AO.Az V') ls'), Ad.own (AO.last V') 56 16 ((ev').flatMap Ing.Event.enc)]) := by
 intro w hS0 hH
 obtain ⟨⟨gl0, gm0⟩, ⟨gl1, gm1⟩, ⟨gl2, gm2⟩, ⟨gl3, gm3⟩⟩ := hH
 obtain ⟨n, m, hF⟩ := hL.fits
 have hc : 0 ≤ V.B8 := hL.B8
 refine Al _ _ Tryz.func38 rfl rfl rfl (hS0) ?_
 refine Gs ?_
 refine B3 rfl rfl rfl (fun b1 => ?_)
 refine BF rfl KQ rfl (fun b2 => ?_)
 refine Gn (.t3 0 3 4) (Ao (Ae (Gs (Gm rfl (Gt (FN Tryz.underlying37 rfl) (Ga rfl (Gn (.t4 0 3 4 11) ?_)))))))
 refine D3 rfl rfl ?_
 refine Gs (Gm rfl (Gt (BV rfl) (Gt (Ah Qm rfl) (Gt (AH rfl A4 .m2 AO.l2 rfl rfl) (Gt (CM rfl rfl) (Ga rfl (Gn (.t4 0 3 4 15) ?_)))))))
 refine Gc (fun c1 => ?_) (fun c1 => ?_)
 ·
  refine Gs (Gt (BC M5 KQ rfl (.cons Bl.l0 rfl rfl rfl .nil)) ?_)
  refine AT (AK (AU.id Bl.fl.len Bl.fl.one) rfl rfl rfl KV rfl .h) ?_
  refine Gn (.t1 4) (Ab (AS (AD ?_)))
  refine AY rfl (.cell rfl .m0 (.inl ⟨(by rw [Bl.fl.len]; exact IY), rfl⟩) .n) ?_
  intro w1 hS
  have hS := (hS.perm (As.perm (.c (.t (.t .h)) (.c (.t (.t .h)) (.c (.t (.t .h)) .n))))).A1
  have hq : (AI.act (A5 V ls ev) a) = ((A5 V ls ev), ⟨4, []⟩) := BB c1
  refine ⟨_, ⟨V, ls, ev, ?gv1, ?ga1, rfl⟩, hS⟩
  case gv1 => rw [hq]; rfl
  case ga1 => rw [hq]
 have c1p := kz c1
 refine Aa ?_
 refine AB (.t3 0 3 4) ?_
 refine AV (AA (Gs (Gm rfl (Gt (BV rfl) (Gt (Ah Qm rfl) (Gt (AH rfl A4 .m2 AO.l2 rfl rfl) ?_))))))
 refine Gt (Au rfl rfl (IntWalk.i64_in _ (by first | omega | exact hi.1 | exact hi.2 | exact hs.1 | exact hs.2))) ?_
 refine Gt (BV rfl) (Gt (Ah Qm rfl) ?_)
 refine AT (AK AO.l2 rfl rfl rfl C9 rfl (.t (.t .h))) ?_
 refine Gn (.t3 0 3 4) (Gs (Gm rfl (Gt (BV rfl) (Gt (Ah Q5 rfl) ?_))))
 refine AT (AK (Y := ⟨none, 0, 0⟩) AO.l3 rfl rfl rfl R5 rfl (.t (.t .h))) ?_
 refine Gn (.t3 0 3 4) (Ao (Ao ?_))
 refine Ez Ing.Event.enc 56 16 ?_
 refine Ep (.c (.t (.t (.t .h))) (.c (.t (.t (.t .h))) (.c .h .n))) ?_
 refine AJ (Gm rfl (AQ (AA (Ae ?_))))
 refine Bo (.t4 32 0 3 4) ?_
 refine Bg (.t (.t .h)) ?_
 refine Bg (.t (.t .h)) ?_
 refine Bg (.t (.t .h)) ?_
 refine HH (fun (i : Int) (V1 : AO) (ls1 : Vector BI 4) (ev1 : List Ing.Event) => 0 ≤ i ∧ i ≤ 4 ∧ (A5 V1 ls1 ev1) = AI.EY ({ (A5 V ls ev) with B8 := ((A5 V ls ev)).B8 + 1, last := [] } : AI) i.toNat) (fun (i : Int) (V1 : AO) (ls1 : Vector BI 4) (ev1 : List Ing.Event) => (4 - i).toNat) (fun (i : Int) (V1 : AO) (ls1 : Vector BI 4) (ev1 : List Ing.Event) => [(32, .int .i64 i)]) (fun (i : Int) (V1 : AO) (ls1 : Vector BI 4) (ev1 : List Ing.Event) => [Ad.box b 101 (AO.enc V1), Ad.D6 (CR 9 (AO.Az V1) ls1), Ad.own (AO.last V1) 56 16 (ev1.flatMap Ing.Event.enc)]) (0) (_) (ls) ([]) ?_ rfl rfl (fun i V1 ls1 ev1 hI1 => ?_)
 · exact ⟨by omega, by omega, rfl⟩
 obtain ⟨hI11, hI12, hI13⟩ := hI1
 refine Gs (Gt (A9 rfl rfl) (AQ (AA (Ao ?_))))
 refine Gc (fun c2 => ?_) (fun c2 => ?_)
 ·
  have c2p := kz c2
  have hi : 0 ≤ i ∧ i < 4 := ⟨by omega, by omega⟩
  refine Aa ?_
  refine AB (.t4 0 3 4 32) ?_
  refine AA (Ao (Ae (Gs (Gm rfl (Ga rfl (Gn (.t5 0 3 4 5 32) ?_))))))
  refine Ft (k := i) hi.1 hi.2 (fun sv sl hsv hlv hln => ?_)
  refine AJ (Gm rfl (Gm rfl (Gt (BV rfl) (Gt (Ah G2 rfl) ?_))))
  refine Gt (AR RG rfl rfl (by first | omega | exact hi.1 | exact hi.2 | exact hs.1 | exact hs.2) (by first | omega | exact hi.1 | exact hi.2 | exact hs.1 | exact hs.2)) ?_
  refine Gt (Ah Qn rfl) ?_
  refine AT (AK (Y := ⟨none, 0, 0⟩) ((AU.BL V1 hi.1 hi.2).comp A2.l5) rfl rfl rfl No rfl (.t (.t (.t .h)))) ?_
  refine AQ (AB (.t4 0 3 4 32) ?_)
  refine AV (AA ?_)
  refine Ez A7 9 1 ?_
  refine Ep (.c (.t .h) (.c (.t .h) (.c .h (.c (.t .h) (.c (.t .h) .n))))) ?_
  refine G9 hi.1 hi.2 (by rfl) (by rfl) (by rfl) ?_
  refine AJ ?_
  refine Gt (Au rfl rfl (IntWalk.i64_in _ (by first | omega | exact hi.1 | exact hi.2 | exact hs.1 | exact hs.2))) ?_
  refine Gm rfl ?_
  refine AQ (AB (.t4 0 3 4 32) ?_)
  refine CU (.c .h (.c .h (.c (.t .h) (.c (.t .h) (.c (.t .h) (.c (.t .h) .n)))))) ?_
  refine Cj ?_
  refine Cu (i + 1) _ _ _ ?_ ?_ (.t4 32 0 3 4) (.refl _)
  · exact ⟨by omega, by omega, (Ec hi.1 hi.2 hsv hlv (f := fun x => { x with told := [] }) rfl).trans (by rw [hI13]; exact (AI.RJ hI11).symm)⟩
  · omega
 have c2p := kz c2
 obtain rfl : i = 4 := by omega
 have hX : (A5 V1 ls1 ev1) = (AI.begun (A5 V ls ev)) := hI13
 have hF0 : AI.Fit (A5 V1 ls1 ev1) 0 0 := by rw [hX]; exact hF.begun
 refine Be (AX (AX (Aj ?_)))
 refine AB (.t3 0 3 4) ?_
 refine AA (CD (Gt (Ah OI rfl) (Gt (AH rfl A4 .m4 Bz.l0 rfl rfl) (Gt (Af rfl rfl) (Gn (.t4 0 3 4 44) ?_)))))
 refine Gc (fun c3 => ?_) (fun c3 => ?_)
 ·
  have c3p := kz c3
  refine Gs (Gm rfl (Gt (Ah Wu rfl) (Gt (AH rfl A4 .m4 Bz.l2 rfl rfl) ?_)))
  refine BE rfl dO (.c rfl (.c rfl .n)) (.c .h (.c .h (.c .h .n))) (PM _ V1 ls1 ev1 a.n 0 0 hF0 (by omega) (by omega)) (fun w hS => ⟨gl0.pull gm0 hS (.c .h (.c .h (.c .h .n))), gl1.pull gm1 hS (.c .h (.c .h (.c .h .n))), gl2.pull gm2 hS (.c .h (.c .h (.c .h .n))), gl3.pull gm3 hS (.c .h (.c .h (.c .h .n)))⟩) (fun v2 B hv => ?_)
  obtain ⟨y3, y4, y5, rfl, y6, rfl⟩ := hv
  refine Gn (.t1 4) (Gs (Gt (BC M5 KQ rfl .nil) ?_))
  refine AT (AK (AU.id Bl.fl.len Bl.fl.one) rfl rfl rfl KV rfl (.t (.t (.t .h)))) ?_
  refine Gn (.t1 4) (Ab (AD ?_))
  refine AY rfl (.cell rfl .m3 (.inl ⟨(by rw [Bl.fl.len]; exact IY), rfl⟩) .n) ?_
  intro w1 hS
  have hS := (hS.perm (As.perm (.c .h (.c .h (.c .h .n))))).A1
  have hq0 : AI.Dy (A5 V1 ls1 ev1) a = _ := (BB c3)
  have hq : (AI.act (A5 V ls ev) a) = _ := (AI.Gq c1 a).trans ((congrArg (fun X => AI.Dy X a) hX.symm).trans hq0)
  refine ⟨_, ⟨y3, y4, y5, ?gv2, ?ga2, rfl⟩, hS⟩
  case gv2 => rw [hq]; rfl
  case ga2 => rw [hq]; dsimp only; exact y6
 have c3p := kz c3
 refine Aa ?_
 refine AB (.t3 0 3 4) ?_
 refine AA (CD (Gt (Ah OI rfl) (Gt (AH rfl A4 .m4 Bz.l0 rfl rfl) (Gt (A9 rfl rfl) (Gm rfl (Bc 53 rfl rfl (fun q => Ah OI rfl) (Bc 53 rfl rfl (fun q => AH (cF rfl q) A4 .m4 Bz.l0 rfl rfl) ?_)))))))
 refine Bc 53 rfl rfl (fun q => Ci (cF rfl q) rfl) ?_
 refine Gt (BS rfl rfl (fun h => by rw [h]; rfl)) ?_
 refine Gn (.t4 0 3 4 57) ?_
 refine Gc (fun c4 => ?_) (fun c4 => ?_)
 ·
  refine Gs (Gt (BC M5 KQ rfl (.cons Bl.l0 rfl rfl rfl .nil)) ?_)
  refine AT (AK (AU.id Bl.fl.len Bl.fl.one) rfl rfl rfl KV rfl (.t (.t (.t .h)))) ?_
  refine Gn (.t1 4) (Ab (AD ?_))
  refine AY rfl (.cell rfl .m3 (.inl ⟨(by rw [Bl.fl.len]; exact IY), rfl⟩) .n) ?_
  intro w1 hS
  have hS := (hS.perm (As.perm (.c .h (.c .h (.c .h .n))))).A1
  have hq0 : AI.Dy (A5 V1 ls1 ev1) a = _ := ((AW c3).trans (BB c4))
  have hq : (AI.act (A5 V ls ev) a) = _ := (AI.Gq c1 a).trans ((congrArg (fun X => AI.Dy X a) hX.symm).trans hq0)
  refine ⟨_, ⟨V1, ls1, ev1, ?gv3, ?ga3, rfl⟩, hS⟩
  case gv3 => rw [hq]; rfl
  case ga3 => rw [hq]
 have c4p := kz c4
 refine Aa ?_
 refine AB (.t3 0 3 4) ?_
 refine AA (CD (Gt (Ah TP rfl) (Gt (AH rfl A4 .m4 Bz.l1 rfl rfl) (Gt (A9 rfl rfl) (Gm rfl (Bc 62 rfl rfl (fun q => Ah TP rfl) (Bc 62 rfl rfl (fun q => AH (cF rfl q) A4 .m4 Bz.l1 rfl rfl) ?_)))))))
 refine Bc 62 rfl rfl (fun q => CM (cF rfl q) rfl) ?_
 refine Gt (BS rfl rfl (fun h => by rw [h]; rfl)) ?_
 refine Gn (.t4 0 3 4 66) ?_
 refine Gc (fun c5 => ?_) (fun c5 => ?_)
 ·
  refine Gs (Gt (BC M5 KQ rfl (.cons Bl.l0 rfl rfl rfl .nil)) ?_)
  refine AT (AK (AU.id Bl.fl.len Bl.fl.one) rfl rfl rfl KV rfl (.t (.t (.t .h)))) ?_
  refine Gn (.t1 4) (Ab (AD ?_))
  refine AY rfl (.cell rfl .m3 (.inl ⟨(by rw [Bl.fl.len]; exact IY), rfl⟩) .n) ?_
  intro w1 hS
  have hS := (hS.perm (As.perm (.c .h (.c .h (.c .h .n))))).A1
  have hq0 : AI.Dy (A5 V1 ls1 ev1) a = _ := ((AW c3).trans ((AW c4).trans (BB c5)))
  have hq : (AI.act (A5 V ls ev) a) = _ := (AI.Gq c1 a).trans ((congrArg (fun X => AI.Dy X a) hX.symm).trans hq0)
  refine ⟨_, ⟨V1, ls1, ev1, ?gv4, ?ga4, rfl⟩, hS⟩
  case gv4 => rw [hq]; rfl
  case ga4 => rw [hq]
 have c5p := kz c5
 have hs : 0 ≤ a.BL ∧ a.BL < 4 := ⟨by omega, by omega⟩
 refine Aa ?_
 refine AB (.t3 0 3 4) ?_
 refine AA (Ao ?_)
 refine BD (N := 7) [0, 0, 2, 1, 9, 31, 63] mix (by kernel_rfl) rfl ?_
 refine Pf 0 rfl (AF rfl) (Pf 1 rfl (Ah TP rfl) (Pf 2 rfl (AH rfl A4 .m4 Bz.l1 rfl rfl) (Pf 3 rfl (BV rfl) (Pf 4 rfl (Ah G2 rfl) ?_))))
 refine Pf 5 rfl (AR RG rfl rfl (by first | omega | exact hi.1 | exact hi.2 | exact hs.1 | exact hs.2) (by first | omega | exact hi.1 | exact hi.2 | exact hs.1 | exact hs.2)) ?_
 refine Pf 6 rfl (A0 rfl) ?_
 refine A3 (by kernel_rfl) ?_
 refine AB (.t4 0 3 4 6) ?_
 refine AA (Ao (Ao ?_))
 refine BD (N := 9) [0, 1, 3, 7, 15, 0, 32, 96, 255] mix (by kernel_rfl) rfl ?_
 refine Pf 0 rfl (AF rfl) (Pf 1 rfl (BV rfl) (Pf 2 rfl (Ah I0 rfl) ?_))
 refine Pf 3 rfl (AH rfl A4 .m0 ((AO.l1.comp (AU.ar (n := 4) A2.fl (by first | omega | exact hi | exact hs))).comp A2.l0) rfl rfl) ?_
 refine Pf 4 rfl (Af rfl rfl) (Pf 5 rfl (Ah OI rfl) (Pf 6 rfl (AH rfl A4 .m4 Bz.l0 rfl rfl) (Pf 7 rfl (Af rfl rfl) (Pf 8 rfl (Jr Tryz.underlying4 rfl rfl) ?_))))
 refine A3 (by kernel_rfl) ?_
 refine AB (.t5 0 3 4 6 82) ?_
 refine AA ?_
 refine Gc (fun c6 => ?_) (fun c6 => ?_)
 ·
  refine Gs (Gt (BC M5 KQ rfl (.cons Bl.l0 rfl rfl rfl .nil)) ?_)
  refine AT (AK (AU.id Bl.fl.len Bl.fl.one) rfl rfl rfl KV rfl (.t (.t (.t .h)))) ?_
  refine Gn (.t1 4) (Ab (AD ?_))
  refine AY rfl (.cell rfl .m3 (.inl ⟨(by rw [Bl.fl.len]; exact IY), rfl⟩) .n) ?_
  intro w1 hS
  have hS := (hS.perm (As.perm (.c .h (.c .h (.c .h .n))))).A1
  have hq0 : AI.Dy (A5 V1 ls1 ev1) a = _ := ((AW c3).trans ((AW c4).trans ((AW c5).trans (BB (show (decide ((AI.at_ (A5 V1 ls1 ev1) a.BL).state = 0) != decide (a.kind = 1)) = true by rw [GW V1 ls1 ev1 hs.1 hs.2]; exact c6)))))
  have hq : (AI.act (A5 V ls ev) a) = _ := (AI.Gq c1 a).trans ((congrArg (fun X => AI.Dy X a) hX.symm).trans hq0)
  refine ⟨_, ⟨V1, ls1, ev1, ?gv5, ?ga5, rfl⟩, hS⟩
  case gv5 => rw [hq]; rfl
  case ga5 => rw [hq]
 have c6p := kz c6
 refine Aa ?_
 refine AB (.t4 0 3 4 6) ?_
 refine AA (CD (Gt (Ah OI rfl) (Gt (AH rfl A4 .m4 Bz.l0 rfl rfl) (Gn (.t5 0 3 4 6 85) (Ae (Gs (Gt (Af rfl rfl) ?_)))))))
 refine Ga rfl (Gn (.t6 0 3 4 6 85 86) ?_)
 refine Gc (fun c7 => ?_) (fun c7 => ?_)
 ·
  have c7p := kz c7
  refine AJ (Gm rfl (Gm rfl ?_))
  refine BE rfl dI (.c rfl (.c rfl .n)) (.c .h (.c .h (.c .h .n))) (Qh _ V1 ls1 ev1 a.BL 0 0 hs hF0 (by omega) (by omega)) (fun w hS => ⟨gl0.pull gm0 hS (.c .h (.c .h (.c .h .n))), gl1.pull gm1 hS (.c .h (.c .h (.c .h .n))), gl2.pull gm2 hS (.c .h (.c .h (.c .h .n))), gl3.pull gm3 hS (.c .h (.c .h (.c .h .n)))⟩) (fun v7 B hv => ?_)
  obtain ⟨y8, y9, y10, rfl, y11, rfl⟩ := hv
  refine AQ (AB (.t1 4) ?_)
  refine AV (AA (Gs (Gt (BC M5 KQ rfl .nil) ?_)))
  refine AT (AK (AU.id Bl.fl.len Bl.fl.one) rfl rfl rfl KV rfl (.t (.t (.t .h)))) ?_
  refine Gn (.t1 4) (Ab ?_)
  refine AY rfl (.cell rfl .m3 (.inl ⟨(by rw [Bl.fl.len]; exact IY), rfl⟩) .n) ?_
  intro w1 hS
  have hS := (hS.perm (As.perm (.c .h (.c .h (.c .h .n))))).A1
  have hq0 : AI.Dy (A5 V1 ls1 ev1) a = _ := ((AW c3).trans ((AW c4).trans ((AW c5).trans ((AW (show (decide ((AI.at_ (A5 V1 ls1 ev1) a.BL).state = 0) != decide (a.kind = 1)) = false by rw [GW V1 ls1 ev1 hs.1 hs.2]; exact c6)).trans (BB c7)))))
  have hq : (AI.act (A5 V ls ev) a) = _ := (AI.Gq c1 a).trans ((congrArg (fun X => AI.Dy X a) hX.symm).trans hq0)
  refine ⟨_, ⟨y8, y9, y10, ?gv6, ?ga6, rfl⟩, hS⟩
  case gv6 => rw [hq]; rfl
  case ga6 => rw [hq]; dsimp only; exact y11
 have c7p := kz c7
 refine Gs (Gt (Af rfl rfl) (Ga rfl (Gn (.t6 0 3 4 6 85 91) ?_)))
 refine Gc (fun c8 => ?_) (fun c8 => ?_)
 ·
  have c8p := kz c8
  refine Gs (Ga rfl (Ga rfl (Gn (.t4 0 3 4 6) (Ao ?_))))
  refine Ft (k := a.BL) hs.1 hs.2 (fun sv sl hsv hlv hln => ?_)
  refine BD (N := 18) [0, 0, 2, 6, 14, 0, 32, 126, 254, 510, 510, 510, 510, 1023, 9215, 25599, 59391, 126975] mix (by kernel_rfl) rfl ?_
  refine Pf 0 rfl (AF rfl) (Pf 1 rfl (AF rfl) (Pf 2 rfl (BV rfl) (Pf 3 rfl (Ah Kg rfl) (Pf 4 rfl (AZ rfl D1 .m3 ((AU.BL V1 hs.1 hs.2).comp A2.l2) rfl) (Pf 5 rfl (Ah Zs rfl) (Pf 6 rfl (AH rfl CO .m7 Bz.l3 rfl rfl) ?_))))))
  refine BQ 7 rfl rfl (by kernel_rfl) (L1 (LD (D5 cV (.c rfl (.c rfl .n)) (fun w hS => MK _ _ (by omega) w)))) ?_
  refine Pf 8 rfl (AF rfl) (Pf 9 rfl (AM rfl rfl) (Pf 10 rfl (AM rfl rfl) (Pf 11 rfl (AM rfl rfl) (Pf 12 rfl (AM rfl rfl) (Pf 13 rfl (BV rfl) (Pf 14 rfl (Ah Kg rfl) ?_))))))
  refine An 15 rfl (by kernel_rfl) ?_
  refine AT (AK ((AU.BL V1 hs.1 hs.2).comp A2.l2) rfl rfl rfl KT rfl (.t (.t (.t .h)))) ?_
  refine BM rfl ⟨?_, ?_⟩
  · exact (Pk (Pk (Po rfl (AM rfl rfl) rfl rfl (Po rfl (AM rfl rfl) rfl rfl (Po rfl (AM rfl rfl) rfl rfl (Pk (Pk (Pk (Pk (Pk (Pk (Pk (Pk (Pk (Pk Aq)))))))))))))))
  refine Pf 16 rfl (A0 rfl) (Pf 17 rfl (A0 rfl) ?_)
  refine A3 (by kernel_rfl) ?_
  refine AB (.t5 0 4 6 7 8) ?_
  refine AA (Gs (Gm rfl (Gm rfl (Gt (BV rfl) (Gt (Ah Dw rfl) (Gt (AZ rfl Cw .m3 ((AU.BL V1 hs.1 hs.2).comp A2.l4) rfl) (Gm rfl ?_)))))))
  refine BA rfl Wl (.c rfl (.c rfl .n)) (fun w hS => EK _ _ (by have h := AP.U1 sv.Ds a.bytes; omega) w) ?_
  refine Gm rfl (Gt (AM rfl rfl) (Gt (AM rfl rfl) (Gt (BV rfl) (Gt (Ah Dw rfl) ?_))))
  refine AT (AK ((AU.BL V1 hs.1 hs.2).comp A2.l4) rfl rfl rfl Fc rfl (.t (.t (.t .h)))) ?_
  refine Gn (.t4 0 4 6 7) (Gs (Ga rfl (Gn (.t4 0 4 6 7) (CD (Gm rfl (Gm rfl (Gt (BV rfl) ?_)))))))
  refine Gt (Ah L7 rfl) (Gt (AZ rfl Jx .m3 ((AU.BL V1 hs.1 hs.2).comp A2.l3) rfl) (Gm rfl ?_))
  refine BE rfl dN (.c rfl (.c rfl .n)) .n (OC _ _ _ (by have h := Vg sv.Ds a.bytes; omega)) (fun w hS => (Kn.own .m0) w hS) (fun v12 B hv => ?_)
  rcases hv with ⟨y13, rfl, rfl⟩ | ⟨y14, y15, rfl, y16, rfl⟩
  ·
   refine Gm rfl (Gt (AM rfl rfl) (Gt (AM rfl rfl) (Gt (AM rfl rfl) (Gt (BV rfl) (Gt (Ah L7 rfl) ?_)))))
   refine AT (AK ((AU.BL V1 hs.1 hs.2).comp A2.l3) rfl rfl rfl OE rfl (.t (.t (.t .h)))) ?_
   refine Ga rfl (Gn (.t4 0 4 6 9) (Ao ?_))
   refine Ep (.c .h (.c .h (.c .h (.c .h (.c .h .n))))) ?_
   refine G9 hs.1 hs.2 (by rfl) (by rfl) (by rfl) ?_
   refine AJ (Gm rfl (Gt (Ci rfl rfl) (Gn (.t4 0 4 6 134) ?_)))
   refine Gc (fun c9 => ?_) (fun c9 => ?_)
   ·
    have c9p := kz c9
    refine AJ (Gm rfl (Gm rfl ?_))
    refine Ai rfl TL (.c rfl (.c rfl (.c rfl .n))) (.c .h (.c .h (.c .h .n))) (EF _ (AO.BL V1 a.BL (heard sv a.bytes)) (ls1.put a.BL ⟨sl.queue, sl.wait, sl.told⟩) ev1 a.BL _ hs (Nat.le_trans (Gi (Ie hs.1 hs.2 (E6 (V := V1) (ls := ls1) (ev := ev1) hs.1 hs.2 hsv hlv (HZ (u := a.bytes) hln.2.1 hln.1 y13)) hF0) a.BL hs.1 hs.2) (by omega))) (fun v18 B hv => ?_)
    obtain ⟨y19, y20, y21, rfl, y22, rfl⟩ := hv
    refine Gn (.t2 0 4) (AJ (Gm rfl ?_))
    refine BE rfl SN (.c rfl .n) (.c .h (.c .h (.c .h .n))) (Dl _ y19 y20 y21 1 0 (by rw [y22]; exact (Ie hs.1 hs.2 (E6 (V := V1) (ls := ls1) (ev := ev1) hs.1 hs.2 hsv hlv (HZ (u := a.bytes) hln.2.1 hln.1 y13)) hF0).tell hs.1 hs.2 (show AI.Ox.length ≤ _ by decide)) (by omega) (by omega)) (fun w hS => ⟨gl0.pull gm0 hS (.c .h (.c .h (.c .h .n))), gl1.pull gm1 hS (.c .h (.c .h (.c .h .n))), gl2.pull gm2 hS (.c .h (.c .h (.c .h .n))), gl3.pull gm3 hS (.c .h (.c .h (.c .h .n)))⟩) (fun v23 B hv => ?_)
    obtain ⟨y24, y25, y26, rfl, y27, rfl⟩ := hv
    refine AQ (AB (.t1 4) ?_)
    refine AV (AA (Gs (Gt (BC M5 KQ rfl .nil) ?_)))
    refine AT (AK (AU.id Bl.fl.len Bl.fl.one) rfl rfl rfl KV rfl (.t (.t (.t .h)))) ?_
    refine Gn (.t1 4) (Ab ?_)
    refine AY rfl (.cell rfl .m3 (.inl ⟨(by rw [Bl.fl.len]; exact IY), rfl⟩) .n) ?_
    intro w1 hS
    have hS := (hS.perm (As.perm (.c .h (.c .h (.c .h .n))))).A1
    have hq0 : AI.Dy (A5 V1 ls1 ev1) a = _ := ((AW c3).trans ((AW c4).trans ((AW c5).trans ((AW (show (decide ((AI.at_ (A5 V1 ls1 ev1) a.BL).state = 0) != decide (a.kind = 1)) = false by rw [GW V1 ls1 ev1 hs.1 hs.2]; exact c6)).trans ((AW c7).trans (BB c8))))))
    have hq : (AI.act (A5 V ls ev) a) = _ := (AI.Gq c1 a).trans ((congrArg (fun X => AI.Dy X a) hX.symm).trans hq0)
    refine ⟨_, ⟨y24, y25, y26, ?gv7, ?ga7, rfl⟩, hS⟩
    case gv7 => rw [hq]; rfl
    case ga7 => rw [hq]; dsimp only; exact (Lc hs.1 hs.2 (E6 (V := V1) (ls := ls1) (ev := ev1) hs.1 hs.2 hsv hlv (HZ (u := a.bytes) hln.2.1 hln.1 y13)) (.inl ⟨c9, y22⟩) y27)
   have c9p := kz c9
   refine Aa ?_
   refine AB (.t2 0 4) ?_
   refine AA (AJ (Gm rfl ?_))
   refine BE rfl SN (.c rfl .n) (.c .h (.c .h (.c .h .n))) (Dl _ (AO.BL V1 a.BL (heard sv a.bytes)) (ls1.put a.BL ⟨sl.queue, sl.wait, sl.told⟩) ev1 0 0 (Ie hs.1 hs.2 (E6 (V := V1) (ls := ls1) (ev := ev1) hs.1 hs.2 hsv hlv (HZ (u := a.bytes) hln.2.1 hln.1 y13)) hF0) (by omega) (by omega)) (fun w hS => ⟨gl0.pull gm0 hS (.c .h (.c .h (.c .h .n))), gl1.pull gm1 hS (.c .h (.c .h (.c .h .n))), gl2.pull gm2 hS (.c .h (.c .h (.c .h .n))), gl3.pull gm3 hS (.c .h (.c .h (.c .h .n)))⟩) (fun v28 B hv => ?_)
   obtain ⟨y29, y30, y31, rfl, y32, rfl⟩ := hv
   refine AQ (AB (.t1 4) ?_)
   refine AV (AA (Gs (Gt (BC M5 KQ rfl .nil) ?_)))
   refine AT (AK (AU.id Bl.fl.len Bl.fl.one) rfl rfl rfl KV rfl (.t (.t (.t .h)))) ?_
   refine Gn (.t1 4) (Ab ?_)
   refine AY rfl (.cell rfl .m3 (.inl ⟨(by rw [Bl.fl.len]; exact IY), rfl⟩) .n) ?_
   intro w1 hS
   have hS := (hS.perm (As.perm (.c .h (.c .h (.c .h .n))))).A1
   have hq0 : AI.Dy (A5 V1 ls1 ev1) a = _ := ((AW c3).trans ((AW c4).trans ((AW c5).trans ((AW (show (decide ((AI.at_ (A5 V1 ls1 ev1) a.BL).state = 0) != decide (a.kind = 1)) = false by rw [GW V1 ls1 ev1 hs.1 hs.2]; exact c6)).trans ((AW c7).trans (BB c8))))))
   have hq : (AI.act (A5 V ls ev) a) = _ := (AI.Gq c1 a).trans ((congrArg (fun X => AI.Dy X a) hX.symm).trans hq0)
   refine ⟨_, ⟨y29, y30, y31, ?gv8, ?ga8, rfl⟩, hS⟩
   case gv8 => rw [hq]; rfl
   case ga8 => rw [hq]; dsimp only; exact (Lc hs.1 hs.2 (E6 (V := V1) (ls := ls1) (ev := ev1) hs.1 hs.2 hsv hlv (HZ (u := a.bytes) hln.2.1 hln.1 y13)) (.inr ⟨c9, rfl⟩) y32)
  refine Gm rfl (Gt (AM rfl rfl) (Gt (AM rfl rfl) (Gt (AM rfl rfl) (Gt (BV rfl) (Gt (Ah L7 rfl) ?_)))))
  refine AT (AK ((AU.BL V1 hs.1 hs.2).comp A2.l3) rfl rfl rfl OE rfl (.t (.t (.t (.t .h))))) ?_
  refine Ga rfl (Gn (.t4 0 4 6 9) (Ao ?_))
  refine Ep (.c .h (.c (.t .h) (.c (.t .h) (.c (.t .h) (.c (.t .h) .n))))) ?_
  refine G9 hs.1 hs.2 (by rfl) (by rfl) (by rfl) ?_
  refine AJ (Gm rfl (Gt (Ci rfl rfl) (Gn (.t4 0 4 6 134) ?_)))
  refine Gc (fun c10 => ?_) (fun c10 => ?_)
  ·
   have c10p := kz c10
   refine AJ (Gm rfl (Gm rfl ?_))
   refine Ai rfl TL (.c rfl (.c rfl (.c rfl .n))) (.c .h (.c .h (.c (.t .h) .n))) (EF _ (AO.BL V1 a.BL { heard sv a.bytes with EW := ⟨(Bf.feed (Bf.start sv.EW sl.queue) (sv.Ds.Db a.bytes).2.1).now, (Bf.feed (Bf.start sv.EW sl.queue) (sv.Ds.Db a.bytes).2.1).Cs, (Bf.feed (Bf.start sv.EW sl.queue) (sv.Ds.Db a.bytes).2.1).ret, y15⟩ }) (ls1.put a.BL ⟨(Bf.feed (Bf.start sv.EW sl.queue) (sv.Ds.Db a.bytes).2.1).queue, sl.wait, sl.told⟩) ev1 a.BL _ hs (Nat.le_trans (Gi (Ie hs.1 hs.2 (E6 (V := V1) (ls := ls1) (ev := ev1) hs.1 hs.2 hsv hlv (IJ (u := a.bytes) hln.2.1 hln.1 y14 y15)) hF0) a.BL hs.1 hs.2) (by omega))) (fun v33 B hv => ?_)
   obtain ⟨y34, y35, y36, rfl, y37, rfl⟩ := hv
   refine Gn (.t2 0 4) (AJ (Gm rfl ?_))
   refine BE rfl SN (.c rfl .n) (.c .h (.c .h (.c .h .n))) (Dl _ y34 y35 y36 1 0 (by rw [y37]; exact (Ie hs.1 hs.2 (E6 (V := V1) (ls := ls1) (ev := ev1) hs.1 hs.2 hsv hlv (IJ (u := a.bytes) hln.2.1 hln.1 y14 y15)) hF0).tell hs.1 hs.2 (show AI.Ox.length ≤ _ by decide)) (by omega) (by omega)) (fun w hS => ⟨gl0.pull gm0 hS (.c .h (.c .h (.c .h .n))), gl1.pull gm1 hS (.c .h (.c .h (.c .h .n))), gl2.pull gm2 hS (.c .h (.c .h (.c .h .n))), gl3.pull gm3 hS (.c .h (.c .h (.c .h .n)))⟩) (fun v38 B hv => ?_)
   obtain ⟨y39, y40, y41, rfl, y42, rfl⟩ := hv
   refine AQ (AB (.t1 4) ?_)
   refine AV (AA (Gs (Gt (BC M5 KQ rfl .nil) ?_)))
   refine AT (AK (AU.id Bl.fl.len Bl.fl.one) rfl rfl rfl KV rfl (.t (.t (.t (.t .h))))) ?_
   refine Gn (.t1 4) (Ab ?_)
   refine AY rfl (.cell rfl .m4 (.inl ⟨(by rw [Bl.fl.len]; exact IY), rfl⟩) .n) ?_
   intro w1 hS
   have hS := (hS.perm (As.perm (.c .h (.c .h (.c .h .n))))).A1
   have hq0 : AI.Dy (A5 V1 ls1 ev1) a = _ := ((AW c3).trans ((AW c4).trans ((AW c5).trans ((AW (show (decide ((AI.at_ (A5 V1 ls1 ev1) a.BL).state = 0) != decide (a.kind = 1)) = false by rw [GW V1 ls1 ev1 hs.1 hs.2]; exact c6)).trans ((AW c7).trans (BB c8))))))
   have hq : (AI.act (A5 V ls ev) a) = _ := (AI.Gq c1 a).trans ((congrArg (fun X => AI.Dy X a) hX.symm).trans hq0)
   refine ⟨_, ⟨y39, y40, y41, ?gv9, ?ga9, rfl⟩, hS⟩
   case gv9 => rw [hq]; rfl
   case ga9 => rw [hq]; dsimp only; exact (Lc hs.1 hs.2 (E6 (V := V1) (ls := ls1) (ev := ev1) hs.1 hs.2 hsv hlv (IJ (u := a.bytes) hln.2.1 hln.1 y14 y15)) (.inl ⟨c10, y37⟩) y42)
  have c10p := kz c10
  refine Aa ?_
  refine AB (.t2 0 4) ?_
  refine AA (AJ (Gm rfl ?_))
  refine BE rfl SN (.c rfl .n) (.c .h (.c .h (.c (.t .h) .n))) (Dl _ (AO.BL V1 a.BL { heard sv a.bytes with EW := ⟨(Bf.feed (Bf.start sv.EW sl.queue) (sv.Ds.Db a.bytes).2.1).now, (Bf.feed (Bf.start sv.EW sl.queue) (sv.Ds.Db a.bytes).2.1).Cs, (Bf.feed (Bf.start sv.EW sl.queue) (sv.Ds.Db a.bytes).2.1).ret, y15⟩ }) (ls1.put a.BL ⟨(Bf.feed (Bf.start sv.EW sl.queue) (sv.Ds.Db a.bytes).2.1).queue, sl.wait, sl.told⟩) ev1 0 0 (Ie hs.1 hs.2 (E6 (V := V1) (ls := ls1) (ev := ev1) hs.1 hs.2 hsv hlv (IJ (u := a.bytes) hln.2.1 hln.1 y14 y15)) hF0) (by omega) (by omega)) (fun w hS => ⟨gl0.pull gm0 hS (.c .h (.c .h (.c (.t .h) .n))), gl1.pull gm1 hS (.c .h (.c .h (.c (.t .h) .n))), gl2.pull gm2 hS (.c .h (.c .h (.c (.t .h) .n))), gl3.pull gm3 hS (.c .h (.c .h (.c (.t .h) .n)))⟩) (fun v43 B hv => ?_)
  obtain ⟨y44, y45, y46, rfl, y47, rfl⟩ := hv
  refine AQ (AB (.t1 4) ?_)
  refine AV (AA (Gs (Gt (BC M5 KQ rfl .nil) ?_)))
  refine AT (AK (AU.id Bl.fl.len Bl.fl.one) rfl rfl rfl KV rfl (.t (.t (.t (.t .h))))) ?_
  refine Gn (.t1 4) (Ab ?_)
  refine AY rfl (.cell rfl .m4 (.inl ⟨(by rw [Bl.fl.len]; exact IY), rfl⟩) .n) ?_
  intro w1 hS
  have hS := (hS.perm (As.perm (.c .h (.c .h (.c .h .n))))).A1
  have hq0 : AI.Dy (A5 V1 ls1 ev1) a = _ := ((AW c3).trans ((AW c4).trans ((AW c5).trans ((AW (show (decide ((AI.at_ (A5 V1 ls1 ev1) a.BL).state = 0) != decide (a.kind = 1)) = false by rw [GW V1 ls1 ev1 hs.1 hs.2]; exact c6)).trans ((AW c7).trans (BB c8))))))
  have hq : (AI.act (A5 V ls ev) a) = _ := (AI.Gq c1 a).trans ((congrArg (fun X => AI.Dy X a) hX.symm).trans hq0)
  refine ⟨_, ⟨y44, y45, y46, ?gv10, ?ga10, rfl⟩, hS⟩
  case gv10 => rw [hq]; rfl
  case ga10 => rw [hq]; dsimp only; exact (Lc hs.1 hs.2 (E6 (V := V1) (ls := ls1) (ev := ev1) hs.1 hs.2 hsv hlv (IJ (u := a.bytes) hln.2.1 hln.1 y14 y15)) (.inr ⟨c10, rfl⟩) y47)
 have c8p := kz c8
 refine Gs (Gt (Af rfl rfl) (Ga rfl (Gn (.t6 0 3 4 6 85 140) ?_)))
 refine Gc (fun c11 => ?_) (fun c11 => ?_)
 ·
  have c11p := kz c11
  refine Gs (Ga rfl (Gn (.t4 0 3 4 6) (Ao ?_)))
  refine Ft (k := a.BL) hs.1 hs.2 (fun sv sl hsv hlv hln => ?_)
  refine BD (N := 15) [0, 0, 2, 6, 14, 0, 32, 126, 254, 510, 510, 1023, 3071, 7167, 16383] mix (by kernel_rfl) rfl ?_
  refine Pf 0 rfl (AF rfl) (Pf 1 rfl (AF rfl) (Pf 2 rfl (BV rfl) (Pf 3 rfl (Ah Dw rfl) (Pf 4 rfl (AZ rfl Cw .m3 ((AU.BL V1 hs.1 hs.2).comp A2.l4) rfl) (Pf 5 rfl (Ah Wu rfl) (Pf 6 rfl (AH rfl A4 .m7 Bz.l2 rfl rfl) ?_))))))
  refine BQ 7 rfl rfl (by kernel_rfl) (L1 (LD (D5 dP (.c rfl (.c rfl .n)) (fun w hS => Mt _ _ w)))) ?_
  refine Pf 8 rfl (AF rfl) (Pf 9 rfl (AM rfl rfl) (Pf 10 rfl (AM rfl rfl) (Pf 11 rfl (BV rfl) (Pf 12 rfl (Ah Dw rfl) ?_))))
  refine An 13 rfl (by kernel_rfl) ?_
  refine AT (AK ((AU.BL V1 hs.1 hs.2).comp A2.l4) rfl rfl rfl Fc rfl (.t (.t (.t .h)))) ?_
  refine BM rfl ⟨?_, ?_⟩
  · exact (Pk (Pk (Po rfl (AM rfl rfl) rfl rfl (Pk (Pk (Pk (Pk (Pk (Pk (Pk (Pk (Pk (Pk Aq)))))))))))))
  refine Pf 14 rfl (A0 rfl) ?_
  refine A3 (by kernel_rfl) ?_
  refine AB (.t3 0 4 10) ?_
  refine AA (Ao ?_)
  refine Ep (.c .h (.c .h (.c .h (.c .h (.c .h .n))))) ?_
  refine G9 hs.1 hs.2 (by rfl) (by rfl) (by rfl) ?_
  refine AJ (Gm rfl ?_)
  refine BE rfl SN (.c rfl .n) (.c .h (.c .h (.c .h .n))) (Dl _ (AO.BL V1 a.BL { sv with out := ⟨sv.out.wait, sv.out.shown, sv.out.B7, sv.out.ring.drop (max 0 (min a.n (sv.out.ring.length : Int))).toNat, sv.out.cut⟩ }) (ls1.put a.BL ⟨sl.queue, sl.wait, sl.told⟩) ev1 0 0 (by rw [(show A5 (AO.BL V1 a.BL { sv with out := ⟨sv.out.wait, sv.out.shown, sv.out.B7, sv.out.ring.drop (max 0 (min a.n (sv.out.ring.length : Int))).toNat, sv.out.cut⟩ }) (ls1.put a.BL ⟨sl.queue, sl.wait, sl.told⟩) ev1 = AI.set (A5 V1 ls1 ev1) a.BL ((AI.at_ (A5 V1 ls1 ev1) a.BL).Gy a.n) from Ec hs.1 hs.2 hsv hlv (f := fun x => x.Gy a.n) rfl)]; exact hF0.Gy hs.1 hs.2 a.n) (by omega) (by omega)) (fun w hS => ⟨gl0.pull gm0 hS (.c .h (.c .h (.c .h .n))), gl1.pull gm1 hS (.c .h (.c .h (.c .h .n))), gl2.pull gm2 hS (.c .h (.c .h (.c .h .n))), gl3.pull gm3 hS (.c .h (.c .h (.c .h .n)))⟩) (fun v48 B hv => ?_)
  obtain ⟨y49, y50, y51, rfl, y52, rfl⟩ := hv
  refine Gn (.t2 4 10) (Gs (Gm rfl (Gt (BC M5 KQ rfl (.cons Bl.l1 rfl rfl rfl .nil)) ?_)))
  refine AT (AK (AU.id Bl.fl.len Bl.fl.one) rfl rfl rfl KV rfl (.t (.t (.t .h)))) ?_
  refine Gn (.t1 4) (Ab (AS (AD ?_)))
  refine AY rfl (.cell rfl .m3 (.inl ⟨(by rw [Bl.fl.len]; exact IY), rfl⟩) .n) ?_
  intro w1 hS
  have hS := (hS.perm (As.perm (.c .h (.c .h (.c .h .n))))).A1
  have hq0 : AI.Dy (A5 V1 ls1 ev1) a = _ := ((AW c3).trans ((AW c4).trans ((AW c5).trans ((AW (show (decide ((AI.at_ (A5 V1 ls1 ev1) a.BL).state = 0) != decide (a.kind = 1)) = false by rw [GW V1 ls1 ev1 hs.1 hs.2]; exact c6)).trans ((AW c7).trans ((AW c8).trans (BB c11)))))))
  have hq : (AI.act (A5 V ls ev) a) = _ := (AI.Gq c1 a).trans ((congrArg (fun X => AI.Dy X a) hX.symm).trans hq0)
  refine ⟨_, ⟨y49, y50, y51, ?gv11, ?ga11, rfl⟩, hS⟩
  case gv11 => rw [hq]; exact congrArg (fun x => Value.agg (Bl.enc ⟨0, x⟩).toArray) (XT V1 ls1 ev1 hs.1 hs.2 hsv a.n)
  case ga11 => rw [hq]; dsimp only; exact y52.trans (congrArg AI.Bb (show A5 (AO.BL V1 a.BL { sv with out := ⟨sv.out.wait, sv.out.shown, sv.out.B7, sv.out.ring.drop (max 0 (min a.n (sv.out.ring.length : Int))).toNat, sv.out.cut⟩ }) (ls1.put a.BL ⟨sl.queue, sl.wait, sl.told⟩) ev1 = AI.set (A5 V1 ls1 ev1) a.BL ((AI.at_ (A5 V1 ls1 ev1) a.BL).Gy a.n) from Ec hs.1 hs.2 hsv hlv (f := fun x => x.Gy a.n) rfl))
 have c11p := kz c11
 refine Gs (Gt (Af rfl rfl) (Ga rfl (Gn (.t4 0 4 6 159) ?_)))
 refine Gw rfl (decide_eq_true (by omega)) ?_
 refine Gs (Gm rfl (Gm rfl ?_))
 refine BE rfl ZR (.c rfl (.c rfl .n)) (.c .h (.c .h (.c .h .n))) (IC _ V1 ls1 ev1 a.BL 0 0 hs hF0 (by omega) (by omega)) (fun w hS => ⟨gl0.pull gm0 hS (.c .h (.c .h (.c .h .n))), gl1.pull gm1 hS (.c .h (.c .h (.c .h .n))), gl2.pull gm2 hS (.c .h (.c .h (.c .h .n))), gl3.pull gm3 hS (.c .h (.c .h (.c .h .n)))⟩) (fun v53 B hv => ?_)
 obtain ⟨y54, y55, y56, rfl, y57, rfl⟩ := hv
 refine Gn (.t2 0 4) (AJ (Gm rfl ?_))
 refine BE rfl SN (.c rfl .n) (.c .h (.c .h (.c .h .n))) (Dl _ y54 y55 y56 11 11 (by rw [y57]; exact hF0.leave hs.1 hs.2) (by omega) (by omega)) (fun w hS => ⟨gl0.pull gm0 hS (.c .h (.c .h (.c .h .n))), gl1.pull gm1 hS (.c .h (.c .h (.c .h .n))), gl2.pull gm2 hS (.c .h (.c .h (.c .h .n))), gl3.pull gm3 hS (.c .h (.c .h (.c .h .n)))⟩) (fun v58 B hv => ?_)
 obtain ⟨y59, y60, y61, rfl, y62, rfl⟩ := hv
 refine AQ (AB (.t1 4) ?_)
 refine AV (AA (Gs (Gt (BC M5 KQ rfl .nil) ?_)))
 refine AT (AK (AU.id Bl.fl.len Bl.fl.one) rfl rfl rfl KV rfl (.t (.t (.t .h)))) ?_
 refine Gn (.t1 4) (Ab ?_)
 refine AY rfl (.cell rfl .m3 (.inl ⟨(by rw [Bl.fl.len]; exact IY), rfl⟩) .n) ?_
 intro w1 hS
 have hS := (hS.perm (As.perm (.c .h (.c .h (.c .h .n))))).A1
 have hq0 : AI.Dy (A5 V1 ls1 ev1) a = _ := ((AW c3).trans ((AW c4).trans ((AW c5).trans ((AW (show (decide ((AI.at_ (A5 V1 ls1 ev1) a.BL).state = 0) != decide (a.kind = 1)) = false by rw [GW V1 ls1 ev1 hs.1 hs.2]; exact c6)).trans ((AW c7).trans ((AW c8).trans (AW c11)))))))
 have hq : (AI.act (A5 V ls ev) a) = _ := (AI.Gq c1 a).trans ((congrArg (fun X => AI.Dy X a) hX.symm).trans hq0)
 refine ⟨_, ⟨y59, y60, y61, ?gv12, ?ga12, rfl⟩, hS⟩
 case gv12 => rw [hq]; rfl
 case ga12 => rw [hq]; dsimp only; exact y62.trans (congrArg AI.Bb y57)
theorem PJ (b : Nat) (V : AO) (i : Int) (hi : 0 ≤ i ∧ i < 4) : JL Tryz.prog 21 #[.pointer (some ⟨b, 0, none⟩), .int .i64 i] [Ad.box b 101 (AO.enc V)] (fun v B => v = .tuple #[.int .i64 (IT (V.Az.at i)).1, .int .i64 (IT (V.Az.at i)).2] ∧ B = [Ad.box b 101 (AO.enc V)]) := by
 intro w hS0
 refine Al _ _ Tryz.func21 rfl rfl rfl (hS0) ?_
 refine Gs (Ga rfl (Ga rfl (Gn (.t2 0 1) (CD (Gm rfl (Gt (FN Tryz.underlying37 rfl) (Gm rfl ?_)))))))
 refine EJ (t := 8) rfl rfl rfl (AF rfl) ?_
 refine EJ (t := 8) rfl rfl rfl (A9 rfl rfl) ?_
 refine Gt (Dx rfl rfl) (Gm rfl (Bc 12 rfl rfl (fun q => AF rfl) (Bc 12 rfl rfl (fun q => CM (cF rfl q) rfl) ?_)))
 refine Gt (BS rfl rfl (fun h => by rw [h]; rfl)) ?_
 refine Gm rfl (Bc 16 rfl rfl (fun q => AF rfl) (Bc 16 rfl rfl (fun q => AF rfl) (Bc 16 rfl rfl (fun q => BV (cF rfl q)) (Bc 16 rfl rfl (fun q => Ah G2 (cF rfl q)) ?_))))
 refine Bc 16 rfl rfl (fun q => by have q1 := q; (try simp at q1); exact AR RG (cF rfl q) (cF rfl q) (by first | omega | exact hi.1 | exact hi.2) (by first | omega | exact hi.1 | exact hi.2)) ?_
 refine Bc 16 rfl rfl (fun q => Ah I0 (cF rfl q)) ?_
 refine Bc 16 rfl rfl (fun q => by have q1 := q; (try simp at q1); exact AH (cF rfl q) A4 .m0 ((AO.l1.comp (AU.ar (n := 4) A2.fl (by first | omega | exact hi))).comp A2.l0) rfl rfl) ?_
 refine Bc 16 rfl rfl (fun q => Cg (cF rfl q) rfl) ?_
 refine Gt (BS rfl rfl (fun h => by rw [h]; rfl)) ?_
 refine Gn (.t3 0 1 25) ?_
 refine Gc (fun c1 => ?_) (fun c1 => ?_)
 ·
  have c1p := kz c1
  refine CD (Gm rfl (Gt (FN Tryz.underlying37 rfl) (Gm rfl ?_)))
  refine EJ (t := 28) rfl rfl rfl (AF rfl) ?_
  refine EJ (t := 28) rfl rfl rfl (A9 rfl rfl) ?_
  refine Gt (Dx rfl rfl) (Gm rfl (Bc 32 rfl rfl (fun q => AF rfl) (Bc 32 rfl rfl (fun q => CM (cF rfl q) rfl) ?_)))
  refine Gt (BS rfl rfl (fun h => by rw [h]; rfl)) ?_
  refine Gn (.t3 0 1 35) ?_
  refine D3 rfl (by rw [Bool.or_eq_false_iff, decide_eq_false_iff_not, decide_eq_false_iff_not]; omega) ?_
  refine Aa ?_
  refine AB (.t2 0 1) ?_
  refine AA (Gs (Gm rfl (Gm rfl (Gt (BV rfl) (Gt (Ah G2 rfl) ?_)))))
  refine Gt (AR RG rfl rfl (by first | omega | exact hi.1 | exact hi.2) (by first | omega | exact hi.1 | exact hi.2)) ?_
  refine Gt (Ah I0 rfl) ?_
  refine Gt (AH rfl A4 .m0 ((AO.l1.comp (AU.ar (n := 4) A2.fl (by first | omega | exact hi))).comp A2.l0) rfl rfl) ?_
  refine Ga rfl (Ga rfl (Gn (.t2 4 5) (Ab (AD ?_))))
  refine AY rfl (.tmp rfl (.tmp rfl .n)) ?_
  intro w1 hS
  have hS := (hS.perm (As.perm (.c .h .n))).A1
  have hq : IT (V.Az.at i) = _ := if_neg (by rw [decide_eq_true_eq]; rcases c1p with (h | h) | h <;> first | omega | exact h)
  refine ⟨_, ⟨?gv1, rfl⟩, hS⟩
  case gv1 => rw [hq]; rfl
 have c1p := kz c1
 refine Aa ?_
 refine AB (.t2 0 1) ?_
 refine AA (Ao ?_)
 refine BD (N := 9) [0, 0, 1, 5, 15, 31, 63, 0, 255] mix (by kernel_rfl) rfl ?_
 refine Pf 0 rfl (AF rfl) (Pf 1 rfl (AF rfl) (Pf 2 rfl (BV rfl) (Pf 3 rfl (Ah G2 rfl) ?_)))
 refine Pf 4 rfl (AR RG rfl rfl (by first | omega | exact hi.1 | exact hi.2) (by first | omega | exact hi.1 | exact hi.2)) ?_
 refine Pf 5 rfl (Ah H7 rfl) ?_
 refine Pf 6 rfl (AH rfl A4 .m0 ((AO.l1.comp (AU.ar (n := 4) A2.fl (by first | omega | exact hi))).comp A2.l1) rfl rfl) ?_
 refine Pf 7 rfl (A0 rfl) (Pf 8 rfl (A0 rfl) ?_)
 refine A3 (by kernel_rfl) ?_
 refine AB (.t2 4 5) ?_
 refine AA (Ab ?_)
 refine AY rfl (.tmp rfl (.tmp rfl .n)) ?_
 intro w1 hS
 have hS := (hS.perm (As.perm (.c .h .n))).A1
 have hq : IT (V.Az.at i) = _ := if_pos (decide_eq_true c1p.2)
 refine ⟨_, ⟨?gv2, rfl⟩, hS⟩
 case gv2 => rw [hq]; rfl
theorem Q8 (b : Nat) (V : AO) (ls : Vector BI 4) (i : Int) (hi : 0 ≤ i ∧ i < 4) (hl : (ls.at i).told.length ≤ 1000000) : JL Tryz.prog 24 #[.pointer (some ⟨b, 0, none⟩), .int .i64 i] [Ad.box b 101 (AO.enc V), Ad.D6 (CR 9 (AO.Az V) ls)] (fun v B => ∃ h' : Hd, v = h'.val ∧ h'.len = (ls.at i).told.length ∧ B = [Ad.box b 101 (AO.enc V), Ad.D6 (CR 9 (AO.Az V) ls), Ad.own h' 9 1 ((ls.at i).told.flatMap A7)]) := by
 intro w hS0
 refine Al _ _ Tryz.func24 rfl rfl rfl (hS0) ?_
 refine Gs (Ga rfl (Gn (.t2 0 1) (CD (Gm rfl (Gt (FN Tryz.underlying37 rfl) (Gm rfl ?_))))))
 refine EJ (t := 7) rfl rfl rfl (AF rfl) ?_
 refine EJ (t := 7) rfl rfl rfl (A9 rfl rfl) ?_
 refine Gt (Dx rfl rfl) (Gm rfl (Bc 11 rfl rfl (fun q => AF rfl) (Bc 11 rfl rfl (fun q => CM (cF rfl q) rfl) ?_)))
 refine Gt (BS rfl rfl (fun h => by rw [h]; rfl)) ?_
 refine Gn (.t3 0 1 14) ?_
 refine D3 rfl (by rw [Bool.or_eq_false_iff, decide_eq_false_iff_not, decide_eq_false_iff_not]; omega) ?_
 refine Aa ?_
 refine AB (.t2 0 1) ?_
 refine AA (Ao ?_)
 refine Ft (k := i) hi.1 hi.2 (fun sv sl hsv hlv hln => ?_)
 have hl2 := hl
 rw [hlv] at hl2
 refine AJ (Gm rfl (Gm rfl (Gt (BV rfl) (Gt (Ah G2 rfl) ?_))))
 refine Gt (AR RG rfl rfl (by first | omega | exact hi.1 | exact hi.2) (by first | omega | exact hi.1 | exact hi.2)) ?_
 refine Gt (Ah Qn rfl) (Gt (AH rfl Fz .m3 ((AU.BL V hi.1 hi.2).comp A2.l5) rfl rfl) ?_)
 refine Dn A7 9 1 ?_
 refine N2 (e := A7) rfl Tryz.underlying52 Ey TF rfl X1 (by decide) rfl rfl (fun w hS => Src.EG Tryz.underlying52 ((Kn.own .m3) w hS)) rfl rfl (by omega) (fun _ => .h) (fun h1 h1l => ?_)
 refine Ga rfl (Gn (.t1 4) (Ab ?_))
 refine AY rfl (.tmp rfl .n) ?_
 intro w1 hS
 have hS := (hS.perm (As.perm (.c (.t .h) (.c (.t .h) (.c (.t .h) (.c (.t .h) (.c (.t .h) (.c .h .n)))))))).A1
 have e1 : V.BL i sv = V := by rw [← hsv]; exact V.P4 hi.1 hi.2
 have e2 : ls.put i ⟨sl.queue, sl.wait, sl.told⟩ = ls := by rw [← hlv]; exact Vector.RF ls hi.1 hi.2
 have hS := St.close' (s := sv) (qs := sl.queue) (ws := sl.wait) (ts := sl.told) hi.1 hi.2 rfl rfl rfl hS
 rw [e1, e2] at hS
 try rw [hsv]
 rw [hlv]
 refine ⟨_, ⟨_, rfl, ?gl, rfl⟩, hS⟩
 case gl => (try simp only [List.length_append, List.length_nil] at *); omega
theorem Nx  (w : World) (gl0 : GV 2 Fl w) (gl1 : GV 0 AG.DD w) (gl2 : Gk 7 w) (gl3 : Gk 8 w) : Ef Tryz.prog 33 #[] w fun v w' => v = .bool true ∧ CA w w' := by
 refine Al [] [] Tryz.func33 rfl rfl rfl (St.start w []) ?_
 refine Gs (Ga rfl (Gn (.nil _) (Gs ?_)))
 refine Ai rfl bu .n .n (JS ) (fun v1 B hv => ?_)
 obtain ⟨y2, y3, y4, y5, rfl, y6, rfl⟩ := hv
 refine Ga rfl (Gn (.t1 1) (CD (Gm rfl (Gt (FN Tryz.underlying37 rfl) (Gn (.t2 1 8) ?_)))))
 refine D3 rfl rfl ?_
 refine Aa ?_
 refine AB (.t1 1) ?_
 refine AA (Gs (Gm rfl (Gt (BC Z1 ZX rfl (.cons Bz.l0 rfl rfl rfl (.cons Bz.l1 rfl rfl rfl .nil))) ?_)))
 refine BE rfl Xt (.c rfl (.c rfl .n)) (.c .h (.c .h (.c .h .n))) (JA y2 y3 y4 y5 AI.Pz (by rw [y6]; exact AI.df) (by decide)) (fun w hS => ⟨gl0.pull (by simp) hS (.c .h (.c .h (.c .h .n))), gl1.pull (by simp) hS (.c .h (.c .h (.c .h .n))), gl2.pull (by simp) hS (.c .h (.c .h (.c .h .n))), gl3.pull (by simp) hS (.c .h (.c .h (.c .h .n)))⟩) (fun v8 B hv => ?_)
 obtain ⟨y9, y10, y11, rfl, y12, rfl⟩ := hv
 refine BF rfl KQ rfl (fun b1 => ?_)
 refine AT (AK (AU.id Bl.fl.len Bl.fl.one) rfl rfl rfl KV rfl .h) ?_
 refine Gn (.t2 1 2) (Gs (Gm rfl (Gt (BC Z1 ZX rfl (.cons Bz.l0 rfl rfl rfl (.cons Bz.l1 rfl rfl rfl (.cons Bz.l3 rfl rfl rfl .nil)))) ?_)))
 refine BE rfl Xt (.c rfl (.c rfl .n)) (.c (.t .h) (.c (.t .h) (.c (.t .h) .n))) (JA y2 y9 y10 y11 AI.type2 (by rw [y12, y6]; exact AI.dZ) (by decide)) (fun w hS => ⟨gl0.pull (by simp) hS (.c (.t .h) (.c (.t .h) (.c (.t .h) .n))), gl1.pull (by simp) hS (.c (.t .h) (.c (.t .h) (.c (.t .h) .n))), gl2.pull (by simp) hS (.c (.t .h) (.c (.t .h) (.c (.t .h) .n))), gl3.pull (by simp) hS (.c (.t .h) (.c (.t .h) (.c (.t .h) .n)))⟩) (fun v13 B hv => ?_)
 obtain ⟨y14, y15, y16, rfl, y17, rfl⟩ := hv
 refine Gn (.t2 1 2) (Gs (Gm rfl (Gt (BC Z1 ZX rfl (.cons Bz.l0 rfl rfl rfl .nil)) ?_)))
 refine BE rfl Xt (.c rfl (.c rfl .n)) (.c .h (.c .h (.c .h .n))) (JA y2 y14 y15 y16 AI.Td (by rw [y17, y12, y6]; exact AI.db) (by decide)) (fun w hS => ⟨gl0.pull (by simp) hS (.c .h (.c .h (.c .h .n))), gl1.pull (by simp) hS (.c .h (.c .h (.c .h .n))), gl2.pull (by simp) hS (.c .h (.c .h (.c .h .n))), gl3.pull (by simp) hS (.c .h (.c .h (.c .h .n)))⟩) (fun v18 B hv => ?_)
 obtain ⟨y19, y20, y21, rfl, y22, rfl⟩ := hv
 refine BF rfl KQ rfl (fun b2 => ?_)
 refine AT (AK (AU.id Bl.fl.len Bl.fl.one) rfl rfl rfl KV rfl .h) ?_
 refine Gn (.t3 1 2 3) (Ao ?_)
 have hA : A5 y19 y20 y21 = AI.cI := by rw [y22, y17, y12, y6]; rfl
 have hA3 : (A5 y19 y20 y21).Live := by rw [hA]; exact AI.WZ
 refine AJ (Gm rfl ?_)
 refine Ai rfl cQ (.c rfl (.c rfl .n)) (.c (.t .h) .n) (PJ y2 y19 2 (by decide)) (fun v23 B hv => ?_)
 obtain ⟨rfl, rfl⟩ := hv
 refine Gm rfl (Gt (AM rfl rfl) (Gt (AM rfl rfl) (Ga rfl (Ga rfl (Gn (.t5 1 2 3 4 5) (Gs (Gt (Ah Xh rfl) ?_)))))))
 refine Gt (AH rfl ZD .m4 Bl.l0 rfl rfl) (Gt (Af rfl rfl) (Gm rfl (Bm 26 rfl rfl (fun q => Ah Xh rfl) (Bm 26 rfl rfl (fun q => AH (Bh rfl q) ZD .m1 Bl.l0 rfl rfl) (Bm 26 rfl rfl (fun q => Af (Bh rfl q) rfl) (Gt (BJ rfl rfl (fun h => h)) (Gm rfl ?_)))))))
 refine Bm 31 rfl rfl (fun q => AF rfl) (Bm 31 rfl rfl (fun q => Af (Bh rfl q) rfl) (Gt (BJ rfl rfl (fun h => h)) (Gm rfl (Bm 35 rfl rfl (fun q => AF rfl) (Bm 35 rfl rfl (fun q => Af (Bh rfl q) rfl) (Gt (BJ rfl rfl (fun h => h)) (Gm rfl ?_)))))))
 refine Bm 39 rfl rfl (fun q => AF rfl) ?_
 refine YD 39 rfl (fun c1 => ?_) (fun c1 => ?_)
 ·
  refine Sy (t := 39) rfl (by first | rfl | exact dt rfl c1) rfl dK (.c (Bh rfl c1) (.c rfl .n)) (.c .h (.c (.t .h) .n)) (Q8 y2 y19 y20 2 (by decide) (hA3.told (by decide) (by decide))) (fun v24 B hv => ?_)
  obtain ⟨y25, rfl, y26, rfl⟩ := hv
  refine EJ (t := 39) rfl rfl rfl (Ar rfl Tryz.underlying52 rfl) ?_
  refine EJ (t := 39) rfl rfl rfl (Ci rfl rfl) ?_
  refine Gt (DU rfl rfl) (Ga rfl (Gn (.t1 0) (Ab ?_)))
  refine AY rfl (.tmp rfl .n) ?_
  intro w1 hS; refine ⟨?_, hS.Am⟩; have hd := AI.dC
  rw [← hA, Cm _ _ _ (by decide) (by decide)] at hd
  exact congrArg Value.bool (by rw [y26]; exact hd)
 refine C8 (t := 39) rfl rfl rfl rfl ?_
 refine C8 (t := 39) rfl rfl rfl rfl ?_
 refine C8 (t := 39) rfl rfl rfl rfl ?_
 refine Gt (Dx rfl rfl) (Ga rfl (Gn (.t1 0) (Ab ?_)))
 refine AY rfl (.tmp rfl .n) ?_
 intro w1 hS; refine ⟨?_, hS.Am⟩; have hs := QV y19 y20 y21 (show (0 : Int) ≤ 2 by decide) (by decide)
 rw [hA, AI.cU] at hs
 have hc := c1
 rw [hs, y6, AI.cY, y17, y12, y6, AI.dD] at hc
 cases hc
theorem PH {t0 : Nat} (c : Nat) (f : Hd) (l : List Bz) (hu : ∀ a ∈ l, a.bytes.length ≤ 140737488351232) : FJ Tryz.prog 16 #[f.val, .func (.func 17) #[] #[.pointer (some ⟨c, 0, none⟩)]] [Ad.box c 35 (AG.enc AG.new)] (fun w => cW w (Cb [Ad.box c 35 (AG.enc AG.new)]) f t0 4 (l.flatMap Bz.enc) ∧ (GV 2 Fl w ∧ 2 ∉ Cb [Ad.box c 35 (AG.enc AG.new)]) ∧ (GV 0 AG.DD w ∧ 0 ∉ Cb [Ad.box c 35 (AG.enc AG.new)]) ∧ (Gk 7 w ∧ 7 ∉ Cb [Ad.box c 35 (AG.enc AG.new)]) ∧ (Gk 8 w ∧ 8 ∉ Cb [Ad.box c 35 (AG.enc AG.new)])) (fun v B => ∃ p : Option Addr, v = .tuple #[.pointer p, .bool true] ∧ B = [Ad.box c 35 (AG.enc AG.new)]) := by
 intro w hS0 hH
 obtain ⟨r0, ⟨gl0, gm0⟩, ⟨gl1, gm1⟩, ⟨gl2, gm2⟩, ⟨gl3, gm3⟩⟩ := hH
 have hfl := r0.1.My Bz.fl (by decide)
 refine Al _ _ Tryz.func16 rfl rfl rfl (hS0) ?_
 refine Gs (Ga rfl (Ga rfl (Gn (.t2 0 1) (CD ?_))))
 refine BA rfl cP .n (fun w hS => Nx w (gl0.stM gm0 hS) (gl1.stM gm1 hS) (gl2.stM gm2 hS) (gl3.stM gm3 hS)) ?_
 refine Gt (BX rfl) (Gn (.t3 0 1 10) ?_)
 refine D3 rfl rfl ?_
 refine Aa ?_
 refine AB (.t2 0 1) ?_
 refine AA (Gs ?_)
 refine Ai rfl bu .n .n (JS ) (fun v1 B hv => ?_)
 obtain ⟨y2, y3, y4, y5, rfl, y6, rfl⟩ := hv
 refine Ga rfl (Gn (.t3 0 1 6) (CD (Ga rfl (AQ (AA (Ae ?_))))))
 refine Bo (.t4 7 0 1 6) ?_
 refine Bg (.t (.t .h)) ?_
 refine Bg (.t (.t .h)) ?_
 refine Bg (.t (.t .h)) ?_
 refine HH (fun (k : Int) (V1 : AO) (ls1 : Vector BI 4) (ev1 : List Ing.Event) => 0 ≤ k ∧ k ≤ 150 ∧ k ≤ (l.length : Int) ∧ A5 V1 ls1 ev1 = (AI.new.run (l.take k.toNat)).1) (fun (k : Int) (V1 : AO) (ls1 : Vector BI 4) (ev1 : List Ing.Event) => (150 - k).toNat) (fun (k : Int) (V1 : AO) (ls1 : Vector BI 4) (ev1 : List Ing.Event) => [(7, .int .i64 k)]) (fun (k : Int) (V1 : AO) (ls1 : Vector BI 4) (ev1 : List Ing.Event) => [Ad.box y2 101 (AO.enc V1), Ad.D6 (CR 9 (AO.Az V1) ls1), Ad.own (AO.last V1) 56 16 (ev1.flatMap Ing.Event.enc)]) (0) (y3) (y4) (y5) ?_ rfl rfl (fun k V1 ls1 ev1 hI1 => ?_)
 · exact ⟨by omega, by omega, by omega, y6⟩
 obtain ⟨hI11, hI12, hI13, hI14⟩ := hI1
 refine CD (Gm rfl (Gm rfl (Gt (Ar rfl Tryz.underlying22 rfl) (Gt (A9 rfl rfl) (Gm rfl (Bm 16 rfl rfl (fun q => AF rfl) (Bm 16 rfl rfl (fun q => A9 (Bh rfl q) rfl) ?_)))))))
 refine Gt (BJ rfl rfl (fun h => h)) (Gn (.t5 0 1 6 7 19) ?_)
 refine Gc (fun c1 => ?_) (fun c1 => ?_)
 ·
  have c1p := kz c1
  refine Aa ?_
  refine AB (.t4 0 1 6 7) ?_
  refine AA (Ao (Ae (Gs (Gm rfl (Gm rfl (Gm rfl ?_))))))
  refine Gt (Br aQ (by decide) (Kn.Yh r0) rfl rfl (by omega) (by omega)) ?_
  refine Gt (Nt rfl Yz (by decide) Bz.fl (Kn.Yh r0) (by omega)) ?_
  refine BE rfl Xt (.c rfl (.c rfl .n)) (.c .h (.c .h (.c .h .n))) (JA y2 V1 ls1 ev1 (l.getD k.toNat default) (by rw [hI14]; exact AI.Live.run _ AI.SW) (hu _ (P3 (d := default) (xs := l) (i := k.toNat) (by omega)))) (fun w hS => ⟨gl0.pull gm0 hS (.c .h (.c .h (.c .h .n))), gl1.pull gm1 hS (.c .h (.c .h (.c .h .n))), gl2.pull gm2 hS (.c .h (.c .h (.c .h .n))), gl3.pull gm3 hS (.c .h (.c .h (.c .h .n)))⟩) (fun v8 B hv => ?_)
  obtain ⟨y9, y10, y11, rfl, y12, rfl⟩ := hv
  refine BF rfl KQ rfl (fun b1 => ?_)
  refine AT (AK (AU.id Bl.fl.len Bl.fl.one) rfl rfl rfl KV rfl .h) ?_
  refine Gn (.t5 0 1 6 7 8) (Ao ?_)
  refine BD (N := 9) [0, 0, 0, 0, 12, 28, 0, 127, 255] mix (by kernel_rfl) rfl ?_
  refine Pf 0 rfl (AF rfl) (Pf 1 rfl (AF rfl) (Pf 2 rfl (AF rfl) (Pf 3 rfl (AF rfl) ?_)))
  refine Pf 4 rfl (Br aQ (by decide) (Kn.Yh r0) rfl rfl (by omega) (by omega)) ?_
  refine Pf 5 rfl (Nt rfl Yz (by decide) Bz.fl (Kn.Yh r0) (by omega)) ?_
  refine Pf 6 rfl (AZ rfl IY .m0 (AU.id Bl.fl.len Bl.fl.one) rfl) ?_
  refine An 7 rfl (by kernel_rfl) ?_
  refine DI rfl dB rfl (.c rfl (.c rfl (.c rfl .n))) (.c (.t .h) (.c (.t (.t (.t .h))) .n)) (Jt y2 y9 _ _ c (show (A5 y9 y10 y11).w.BZ = true by rw [y12, hI14]; exact (AI.K8.B8.act (AI.K8.B8.run _ AI.Of) _).1.gd) (show AE.LU AG.new [] (A5 y9 y10 y11).w by rw [y12, hI14]; exact (AI.K8.B8.act (AI.K8.B8.run _ AI.Of) _).2)) (fun v13 B hv => ?_)
  obtain ⟨rfl, rfl⟩ := hv
  refine Bp rfl ⟨?_, ?_⟩
  · exact (Pk (Pk (Pk (Pk (Pk (Pk (Pk Aq)))))))
  refine Pf 8 rfl (BX rfl) ?_
  refine A3 (by kernel_rfl) ?_
  refine AB (.t5 0 1 6 7 36) ?_
  refine AA ?_
  refine D3 rfl rfl ?_
  refine Aa ?_
  refine AB (.t4 0 1 6 7) ?_
  refine AV (AA (AJ (Gm rfl ?_)))
  refine Gt (Au rfl rfl (IntWalk.i64_in _ (by omega))) ?_
  refine Ga rfl ?_
  refine AQ (AB (.t4 0 1 6 7) ?_)
  refine CU (.c .h (.c (.t (.t .h)) (.c (.t (.t .h)) (.c .h .n)))) ?_
  refine Cj ?_
  refine Cu (k + 1) _ _ _ ?_ ?_ (.t4 7 0 1 6) (.refl _)
  · exact ⟨by omega, by omega, by omega, by rw [AI.Wn hI11 (by omega), ← hI14]; exact y12⟩
  · omega
 refine Be (AX (AX (Aj ?_)))
 refine AB (.t1 6) ?_
 refine AA (Gs (Gm rfl (Ga rfl (Ga rfl (Gn (.t2 4 5) (Ab ?_))))))
 refine AY rfl (.tmp rfl (.tmp rfl .n)) ?_
 intro w1 hS
 have hS := (hS.perm (As.perm (.c (.t (.t (.t .h))) .n))).A1
 exact ⟨_, ⟨_, rfl, rfl⟩, hS⟩
end Go.Proofs.YtoidpggbbfncpaaGreatDoor
