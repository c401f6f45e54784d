/- What the functions that the law TopMemory reaches compute: walks, part 6. No condition. -/
import Derived.Test.YtoidpggbbfncpaaGreatDoorCards
import Derived.Test.YtoidpggbbfncpaaGreatDoorTie
import Derived.Deep.DeepHandedRow
import Derived.Test.YtoidpggbbfncpaaGreatDoorRows
import Derived.Test.YtoidpggbbfncpaaGreatDoorTopMemoryEc3
import Derived.Test.YtoidpggbbfncpaaGreatDoorTopMemoryRa1
import Derived.Test.YtoidpggbbfncpaaGreatDoorTopMemoryRb1
import Derived.Test.YtoidpggbbfncpaaGreatDoorTopMemoryRc1
import Derived.Test.YtoidpggbbfncpaaGreatDoorTopMemoryWalks
import Derived.Test.YtoidpggbbfncpaaGreatDoorTopMemoryWalks2
import Derived.Test.YtoidpggbbfncpaaGreatDoorTopMemoryWalks3
import Derived.Test.YtoidpggbbfncpaaGreatDoorTopMemoryWalks4
import Derived.Test.YtoidpggbbfncpaaGreatDoorTopMemoryWalks5
set_option linter.unusedSimpArgs false
set_option linter.unusedVariables false
set_option maxRecDepth 100000
set_option maxHeartbeats 1000000
namespace Go.Proofs.YtoidpggbbfncpaaGreatDoor
open Go Go.Ing Go.RowKit Go.ChangeShapes Go.WideShapes Go.ChangeAt
theorem NL {t0 : Nat} (l : A9) (qs : List Au) (w : World) (r0 : Rd w l.queue t0 1 (qs.flatMap A4)) : EG Tryz.prog 45 #[.agg l.enc.toArray] w fun v w' => v = .bool (Bc.Br l qs) ∧ B6 w w' := by
 have hl := r0.KV DB (by decide)
 refine Ai [] [] Tryz.func45 rfl rfl rfl (St.start w []) ?_
 refine Gs ?_
 refine Bw rfl rfl rfl (fun b1 => ?_)
 refine Ga rfl (Gn (.t1 1) (CB (Gt (Ah Hn rfl) (Gt (AF rfl CC .m0 A9.l0 rfl rfl) (Gt (BI rfl Tryz.underlying9 rfl) (Gt (Cf rfl rfl) (Gm rfl ?_)))))))
 refine BZ 10 rfl rfl (fun q => Ah D6 rfl) (BZ 10 rfl rfl (fun q => AF (cF rfl q) Du .m0 A9.l3 rfl rfl) (BZ 10 rfl rfl (fun q => Aq rfl Tryz.underlying52 (cF rfl q)) (BZ 10 rfl rfl (fun q => Cf (cF rfl q) rfl) ?_)))
 refine Gt (BR rfl rfl (fun h => by rw [h]; rfl)) ?_
 refine Gm rfl (BZ 16 rfl rfl (fun q => Ah J6 rfl) (BZ 16 rfl rfl (fun q => AF (cF rfl q) Ct .m0 A9.l1 rfl rfl) (BZ 16 rfl rfl (fun q => AE (cF rfl q)) ?_)))
 refine DE (t := 19) rfl rfl rfl (fun qc q => Ah Hn rfl) ?_
 refine DE (t := 19) rfl rfl rfl (fun qc q => AF (BX rfl (by rw [qc, q]; rfl)) CC .m0 A9.l0 rfl rfl) ?_
 refine DE (t := 19) rfl rfl rfl (fun qc q => BI rfl Tryz.underlying9 (BX rfl (by rw [qc, q]; rfl))) ?_
 refine DE (t := 19) rfl rfl rfl (fun qc q => Cf (BX rfl (by rw [qc, q]; rfl)) rfl) ?_
 refine BZ 16 rfl rfl (fun q => BH (cF rfl q) rfl (fun h => by rw [q, h]; rfl)) ?_
 refine Gt (BR rfl rfl (fun h => by rw [h]; rfl)) ?_
 refine Gm rfl (BZ 26 rfl rfl (fun q => Ah KA rfl) (BZ 26 rfl rfl (fun q => AF (cF rfl q) Ct .m0 A9.l2 rfl rfl) (BZ 26 rfl rfl (fun q => AE (cF rfl q)) ?_)))
 refine DE (t := 29) rfl rfl rfl (fun qc q => Ah Hn rfl) ?_
 refine DE (t := 29) rfl rfl rfl (fun qc q => AF (BX rfl (by rw [qc, q]; rfl)) CC .m0 A9.l0 rfl rfl) ?_
 refine DE (t := 29) rfl rfl rfl (fun qc q => DZ (BX rfl (by rw [qc, q]; rfl)) rfl) ?_
 refine DE (t := 29) rfl rfl rfl (fun qc q => AE (BX rfl (by rw [qc, q]; rfl))) ?_
 refine Cw (t := 33) rfl rfl rfl (fun qc q => Ah J6 rfl) ?_
 refine Cw (t := 33) rfl rfl rfl (fun qc q => AF (BX rfl (by rw [qc, q]; rfl)) Ct .m0 A9.l1 rfl rfl) ?_
 refine DE (t := 29) rfl rfl rfl (fun qc q => BR (BX rfl (by rw [qc, q]; rfl)) rfl (fun h => by rw [qc, q, h]; rfl)) ?_
 refine BZ 26 rfl rfl (fun q => BH (cF rfl q) rfl (fun h => by rw [q, h]; rfl)) ?_
 refine Gt (BR rfl rfl (fun h => by rw [h]; rfl)) ?_
 refine Gn (.t2 1 38) ?_
 refine Gc (fun c1 => ?_) (fun c1 => ?_)
 ·
  refine Gs (Ga rfl (Gn (.t1 2) (Ac (AD ?_))))
  refine AY rfl (.tmp rfl .n) ?_
  intro w1 hS; refine ⟨congrArg Value.bool ?_, hS.Am⟩; rw [Bc.Br, show Bc.Ia l = true from c1]; rfl
 have c1p := kz c1
 have hq : (l.queue.len : Int) ≤ 6 := by omega
 refine Aa ?_
 refine AB (.t1 1) ?_
 refine AA (Ao (Ao ?_))
 refine BE (N := 9) [0, 1, 3, 0, 8, 24, 63, 127, 0] mix (by kernel_rfl) rfl ?_
 refine Pf 0 rfl (Ah D6 rfl) (Pf 1 rfl (AF rfl Du .m0 A9.l3 rfl rfl) (Pf 3 rfl (Ah Hn rfl) (Pf 4 rfl (AF rfl CC .m0 A9.l0 rfl rfl) (Pf 8 rfl (AE rfl) ?_))))
 refine JO 2 5 rfl rfl (by kernel_rfl) ?_ ?_
 ·
  refine BF rfl UE (.c rfl .n) .n (Bv _ _ (by first | assumption | omega)) (fun w hS => (Kn.Gx r0) w hS) (fun v1 B hv => ?_)
  obtain ⟨y2, rfl, y3, rfl⟩ := hv
  refine Bm rfl ⟨?_, ?_⟩
  · exact (Po rfl (AE rfl) rfl rfl (Po rfl (AF rfl CC .m1 A9.l0 rfl rfl) rfl rfl (Po rfl (Ah Hn rfl) rfl rfl (Pk (Pk As)))))
  refine An 5 rfl (by kernel_rfl) ?_
  refine FP A4 DB rfl Tryz.underlying52 EM Qe rfl (by decide) (by decide) rfl rfl (fun b2 => ?_)
  refine Bm rfl ⟨?_, ?_⟩
  · exact (Po rfl (AE rfl) rfl rfl (Pk (Pk (Po rfl (AF rfl Du .m2 A9.l3 rfl rfl) rfl rfl (Po rfl (Ah D6 rfl) rfl rfl As)))))
  refine An 6 rfl (by kernel_rfl) ?_
  refine CW DB rfl Tryz.underlying52 EM Qe rfl WS (by decide) (by decide) rfl rfl (fun w hS => Src.De Tryz.underlying52 ((Kn.own .m0) w hS)) (by (try dsimp only); omega) (fun _ => (.t .h)) (fun h5 h5l h5z => ?_)
  refine Bm rfl ⟨?_, ?_⟩
  · exact (Po rfl (AE rfl) rfl rfl (Pk (Pk (Pk (Pk As)))))
  refine Pf 7 rfl (Aq rfl Tryz.underlying52 rfl) ?_
  refine A3 (by kernel_rfl) ?_
  refine AB (.t3 45 46 47) ?_
  refine AA (Ae ?_)
  refine Bf (.t3 47 45 46) ?_
  refine CJ (fun (k : Int) => 0 ≤ k ∧ k ≤ ((qs ++ [l.now]).length : Int) ∧ Bc.Br l qs = ((qs ++ [l.now]).drop k.toNat).all Bc.Fb) (fun (k : Int) => (((qs ++ [l.now]).length : Int) - k).toNat) (fun (k : Int) => [(47, .int .i64 k)]) (fun (k : Int) => []) (0) ?_ rfl rfl (fun k hI1 => ?_)
  · exact ⟨by omega, by omega, by rw [Bc.Br, show Bc.Ia l = false from c1]; rfl⟩
  obtain ⟨hI11, hI12, hI13⟩ := hI1
  refine Gs (Gt (A5 rfl rfl) (AM (AA (Ao ?_))))
  refine Gc (fun c2 => ?_) (fun c2 => ?_)
  ·
   have c2p := kz c2
   have hk : k < ((qs ++ [l.now]).length : Int) := by simp only [List.length_append, List.length_cons, List.length_nil] at *; omega
   have hk7 : ((qs ++ [l.now]).length : Int) ≤ 7 := by simp only [List.length_append, List.length_cons, List.length_nil] at *; omega
   refine Aa ?_
   refine AB (.t3 45 46 47) ?_
   refine AA (Ao (Ae (Gs ?_)))
   refine Gt (Bg Gu (by decide) (Kn.own .m1) rfl rfl (by omega) (by simp only [List.length_append, List.length_cons, List.length_nil] at *; omega)) ?_
   refine Gt (C9 rfl CC (Kn.own .m1) (by omega)) ?_
   refine Ga rfl (Gn (.t4 4 45 46 47) (CB (Gm rfl (Gt (BI rfl Tryz.underlying9 rfl) (Gt (Cf rfl rfl) (Gn (.t5 4 45 46 47 53) ?_))))))
   refine Gc (fun c3 => ?_) (fun c3 => ?_)
   ·
    refine Gs (Ga rfl (Gn (.t1 2) (Ac (AD (AP (AD (AD ?_)))))))
    refine AP (AD ?_)
    refine AY rfl (.tmp rfl .n) ?_
    intro w1 hS; refine ⟨congrArg Value.bool ?_, hS.Am⟩; rw [hI13, Bc.E1 (d := []) hI11 hk, Bc.Fb, c3]; rfl
   have c3p := kz c3
   refine Aa ?_
   refine AB (.t4 4 45 46 47) ?_
   refine AA (Gs (Gm rfl (Gt (BI rfl Tryz.underlying9 rfl) (Gm rfl (Gn (.t6 4 45 46 47 55 56) (Ae ?_))))))
   refine Bf (.t6 56 4 45 46 47 55) ?_
   refine CJ (fun (i : Int) => 0 ≤ i ∧ i ≤ (((qs ++ [l.now]).getD k.toNat []).length : Int) ∧ Bc.Fb ((qs ++ [l.now]).getD k.toNat []) = (((qs ++ [l.now]).getD k.toNat []).drop i.toNat).all Bc.FU) (fun (i : Int) => ((((qs ++ [l.now]).getD k.toNat []).length : Int) - i).toNat) (fun (i : Int) => [(56, .int .i64 i)]) (fun (i : Int) => []) (0) ?_ rfl rfl (fun i hI2 => ?_)
   · exact ⟨by omega, by omega, by rw [Bc.Fb, c3]; rfl⟩
   obtain ⟨hI21, hI22, hI23⟩ := hI2
   refine Gs (Gt (A5 rfl rfl) (AM (AA (Ao ?_))))
   refine Gc (fun c4 => ?_) (fun c4 => ?_)
   ·
    have c4p := kz c4
    refine Aa ?_
    refine AB (.t6 4 45 46 47 55 56) ?_
    refine AA (Ao (Ae (Gs (Gm rfl (Ga rfl (Gn (.t7 4 5 45 46 47 55 56) (Gs ?_)))))))
    refine Gm rfl (Gm rfl ?_)
    refine Gt (Bi Tryz.underlying9 rfl rfl (by omega) (by omega)) ?_
    refine A8 rfl YP (.c rfl .n) (fun w hS => GI _ w) ?_
    refine Gt (BQ rfl) (Gn (.t7 4 45 46 47 55 56 63) ?_)
    refine Gc (fun c5 => ?_) (fun c5 => ?_)
    ·
     have c5p := kz c5
     refine Gs (Ga rfl (Gn (.t1 2) (Ac (AP (AD (AD (AP ?_)))))))
     refine AP (AD (AD (AP (AD ?_))))
     refine AY rfl (.tmp rfl .n) ?_
     intro w1 hS; refine ⟨congrArg Value.bool ?_, hS.Am⟩; rw [hI13, Bc.E1 (d := []) hI11 hk, hI23, Bc.E1 (d := 0) hI21 (by omega), show Bc.FU _ = false from by simpa using c5]; rfl
    have c5p := kz c5
    refine Aa ?_
    refine AB (.t6 4 45 46 47 55 56) ?_
    refine AU (AA (AJ ?_))
    refine Gt (Aw rfl rfl (IntWalk.i64_in _ (by omega))) ?_
    refine Gm rfl ?_
    refine AM (AB (.t6 4 45 46 47 55 56) ?_)
    refine Bx (i + 1) ?_ ?_ (.t6 56 4 45 46 47 55) (.refl _)
    · exact ⟨by omega, by omega, by rw [hI23, Bc.E1 (d := 0) hI21 (by omega), show Bc.FU _ = true from by simpa using c5]; rfl⟩
    · omega
   have c4p := kz c4
   refine BV (AT (AT (Af ?_)))
   refine AB (.t3 45 46 47) ?_
   refine AU (AA (AJ ?_))
   refine Gt (Aw rfl rfl (IntWalk.i64_in _ (by omega))) ?_
   refine Gm rfl ?_
   refine AM (AB (.t3 45 46 47) ?_)
   refine Bx (k + 1) ?_ ?_ (.t3 47 45 46) (.refl _)
   · exact ⟨by omega, by omega, by rw [hI13, Bc.E1 (d := []) hI11 hk, hI23, show i.toNat = ((qs ++ [l.now]).getD k.toNat []).length from by omega, List.drop_length]; rfl⟩
   · omega
  have c2p := kz c2
  have hk : ¬ k < ((qs ++ [l.now]).length : Int) := by simp only [List.length_append, List.length_cons, List.length_nil] at *; omega
  refine BV (AT (AT (Af ?_)))
  refine AB (.nil _) ?_
  refine AA (Gs (Ga rfl (AM (AA (Ac ?_)))))
  refine AY rfl (.tmp rfl .n) ?_
  intro w1 hS; refine ⟨congrArg Value.bool ?_, hS.Am⟩; rw [hI13, show k.toNat = (qs ++ [l.now]).length from by omega, List.drop_length]; rfl
 ·
  refine FP A4 DB rfl Tryz.underlying52 EM Qe rfl (by decide) (by decide) rfl rfl (fun b3 => ?_)
  refine Bm rfl ⟨?_, ?_⟩
  · exact (Po rfl (AE rfl) rfl rfl (Pk (Pk (Po rfl (AF rfl Du .m1 A9.l3 rfl rfl) rfl rfl (Po rfl (Ah D6 rfl) rfl rfl As)))))
  refine An 2 rfl (by kernel_rfl) ?_
  refine BF rfl UE (.c rfl .n) .n (Bv _ _ (by first | assumption | omega)) (fun w hS => (Kn.Gx r0) w hS) (fun v6 B hv => ?_)
  obtain ⟨y7, rfl, y8, rfl⟩ := hv
  refine Bm rfl ⟨?_, ?_⟩
  · exact (Po rfl (AE rfl) rfl rfl (Po rfl (AF rfl CC .m2 A9.l0 rfl rfl) rfl rfl (Po rfl (Ah Hn rfl) rfl rfl (Pk (Pk As)))))
  refine An 6 rfl (by kernel_rfl) ?_
  refine CW DB rfl Tryz.underlying52 EM Qe rfl WS (by decide) (by decide) rfl rfl (fun w hS => Src.De Tryz.underlying52 ((Kn.own .m1) w hS)) (by (try dsimp only); omega) (fun _ => .h) (fun h10 h10l h10z => ?_)
  refine Bm rfl ⟨?_, ?_⟩
  · exact (Po rfl (AE rfl) rfl rfl (Pk (Pk (Pk (Pk As)))))
  refine Pf 7 rfl (Aq rfl Tryz.underlying52 rfl) ?_
  refine A3 (by kernel_rfl) ?_
  refine AB (.t3 45 46 47) ?_
  refine AA (Ae ?_)
  refine Bf (.t3 47 45 46) ?_
  refine CJ (fun (k : Int) => 0 ≤ k ∧ k ≤ ((qs ++ [l.now]).length : Int) ∧ Bc.Br l qs = ((qs ++ [l.now]).drop k.toNat).all Bc.Fb) (fun (k : Int) => (((qs ++ [l.now]).length : Int) - k).toNat) (fun (k : Int) => [(47, .int .i64 k)]) (fun (k : Int) => []) (0) ?_ rfl rfl (fun k hI1 => ?_)
  · exact ⟨by omega, by omega, by rw [Bc.Br, show Bc.Ia l = false from c1]; rfl⟩
  obtain ⟨hI11, hI12, hI13⟩ := hI1
  refine Gs (Gt (A5 rfl rfl) (AM (AA (Ao ?_))))
  refine Gc (fun c6 => ?_) (fun c6 => ?_)
  ·
   have c6p := kz c6
   have hk : k < ((qs ++ [l.now]).length : Int) := by simp only [List.length_append, List.length_cons, List.length_nil] at *; omega
   have hk7 : ((qs ++ [l.now]).length : Int) ≤ 7 := by simp only [List.length_append, List.length_cons, List.length_nil] at *; omega
   refine Aa ?_
   refine AB (.t3 45 46 47) ?_
   refine AA (Ao (Ae (Gs ?_)))
   refine Gt (Bg Gu (by decide) (Kn.own .m0) rfl rfl (by omega) (by simp only [List.length_append, List.length_cons, List.length_nil] at *; omega)) ?_
   refine Gt (C9 rfl CC (Kn.own .m0) (by omega)) ?_
   refine Ga rfl (Gn (.t4 4 45 46 47) (CB (Gm rfl (Gt (BI rfl Tryz.underlying9 rfl) (Gt (Cf rfl rfl) (Gn (.t5 4 45 46 47 53) ?_))))))
   refine Gc (fun c7 => ?_) (fun c7 => ?_)
   ·
    refine Gs (Ga rfl (Gn (.t1 2) (Ac (AD (AP (AD (AD ?_)))))))
    refine AP (AD ?_)
    refine AY rfl (.tmp rfl .n) ?_
    intro w1 hS; refine ⟨congrArg Value.bool ?_, hS.Am⟩; rw [hI13, Bc.E1 (d := []) hI11 hk, Bc.Fb, c7]; rfl
   have c7p := kz c7
   refine Aa ?_
   refine AB (.t4 4 45 46 47) ?_
   refine AA (Gs (Gm rfl (Gt (BI rfl Tryz.underlying9 rfl) (Gm rfl (Gn (.t6 4 45 46 47 55 56) (Ae ?_))))))
   refine Bf (.t6 56 4 45 46 47 55) ?_
   refine CJ (fun (i : Int) => 0 ≤ i ∧ i ≤ (((qs ++ [l.now]).getD k.toNat []).length : Int) ∧ Bc.Fb ((qs ++ [l.now]).getD k.toNat []) = (((qs ++ [l.now]).getD k.toNat []).drop i.toNat).all Bc.FU) (fun (i : Int) => ((((qs ++ [l.now]).getD k.toNat []).length : Int) - i).toNat) (fun (i : Int) => [(56, .int .i64 i)]) (fun (i : Int) => []) (0) ?_ rfl rfl (fun i hI2 => ?_)
   · exact ⟨by omega, by omega, by rw [Bc.Fb, c7]; rfl⟩
   obtain ⟨hI21, hI22, hI23⟩ := hI2
   refine Gs (Gt (A5 rfl rfl) (AM (AA (Ao ?_))))
   refine Gc (fun c8 => ?_) (fun c8 => ?_)
   ·
    have c8p := kz c8
    refine Aa ?_
    refine AB (.t6 4 45 46 47 55 56) ?_
    refine AA (Ao (Ae (Gs (Gm rfl (Ga rfl (Gn (.t7 4 5 45 46 47 55 56) (Gs ?_)))))))
    refine Gm rfl (Gm rfl ?_)
    refine Gt (Bi Tryz.underlying9 rfl rfl (by omega) (by omega)) ?_
    refine A8 rfl YP (.c rfl .n) (fun w hS => GI _ w) ?_
    refine Gt (BQ rfl) (Gn (.t7 4 45 46 47 55 56 63) ?_)
    refine Gc (fun c9 => ?_) (fun c9 => ?_)
    ·
     have c9p := kz c9
     refine Gs (Ga rfl (Gn (.t1 2) (Ac (AP (AD (AD (AP ?_)))))))
     refine AP (AD (AD (AP (AD ?_))))
     refine AY rfl (.tmp rfl .n) ?_
     intro w1 hS; refine ⟨congrArg Value.bool ?_, hS.Am⟩; rw [hI13, Bc.E1 (d := []) hI11 hk, hI23, Bc.E1 (d := 0) hI21 (by omega), show Bc.FU _ = false from by simpa using c9]; rfl
    have c9p := kz c9
    refine Aa ?_
    refine AB (.t6 4 45 46 47 55 56) ?_
    refine AU (AA (AJ ?_))
    refine Gt (Aw rfl rfl (IntWalk.i64_in _ (by omega))) ?_
    refine Gm rfl ?_
    refine AM (AB (.t6 4 45 46 47 55 56) ?_)
    refine Bx (i + 1) ?_ ?_ (.t6 56 4 45 46 47 55) (.refl _)
    · exact ⟨by omega, by omega, by rw [hI23, Bc.E1 (d := 0) hI21 (by omega), show Bc.FU _ = true from by simpa using c9]; rfl⟩
    · omega
   have c8p := kz c8
   refine BV (AT (AT (Af ?_)))
   refine AB (.t3 45 46 47) ?_
   refine AU (AA (AJ ?_))
   refine Gt (Aw rfl rfl (IntWalk.i64_in _ (by omega))) ?_
   refine Gm rfl ?_
   refine AM (AB (.t3 45 46 47) ?_)
   refine Bx (k + 1) ?_ ?_ (.t3 47 45 46) (.refl _)
   · exact ⟨by omega, by omega, by rw [hI13, Bc.E1 (d := []) hI11 hk, hI23, show i.toNat = ((qs ++ [l.now]).getD k.toNat []).length from by omega, List.drop_length]; rfl⟩
   · omega
  have c6p := kz c6
  have hk : ¬ k < ((qs ++ [l.now]).length : Int) := by simp only [List.length_append, List.length_cons, List.length_nil] at *; omega
  refine BV (AT (AT (Af ?_)))
  refine AB (.nil _) ?_
  refine AA (Gs (Ga rfl (AM (AA (Ac ?_)))))
  refine AY rfl (.tmp rfl .n) ?_
  intro w1 hS; refine ⟨congrArg Value.bool ?_, hS.Am⟩; rw [hI13, show k.toNat = (qs ++ [l.now]).length from by omega, List.drop_length]; rfl
theorem Nb {t0 : Nat} (l : A9) (qs : List Au) (u : Au) (hu : u.length ≤ 9000000000000000000) : Ev Tryz.prog 63 #[.agg l.enc.toArray, BO u] [] (fun w => Rd w l.queue t0 1 (qs.flatMap A4)) (fun v B => (Bc.Br l qs = false ∧ v = .tuple #[.agg l.enc.toArray, .int .i64 0, .int .i64 2] ∧ B = []) ∨ (Bc.Br l qs = true ∧ ∃ h' : Hd, v = .tuple #[.agg (A9.enc ⟨(Bc.feed (Bc.start l qs) u).now, (Bc.feed (Bc.start l qs) u).Cd, (Bc.feed (Bc.start l qs) u).ret, h'⟩).toArray, .int .i64 (Bc.feed (Bc.start l qs) u).lost, .int .i64 0] ∧ h'.len = (Bc.feed (Bc.start l qs) u).queue.length ∧ B = [Ab.own h' 9 1 ((Bc.feed (Bc.start l qs) u).queue.flatMap A4)])) := by
 intro w hS0 hH
 have r0 := hH
 have hl0 := r0.KV DB (by decide)
 refine Ai _ _ Tryz.func63 rfl rfl rfl (hS0) ?_
 refine Gs ?_
 refine Bw rfl rfl rfl (fun b1 => ?_)
 refine BB rfl WQ rfl (fun b2 => ?_)
 refine Ga rfl (Ga rfl (Gn (.t3 1 2 4) (CB (Gt (AZ rfl HV .m1 (AS.id A9.fl.len A9.fl.one) rfl) ?_))))
 refine A8 rfl cH (.c rfl .n) (fun w hS => NL _ _ w ((Kn.Gx r0) w hS)) ?_
 refine Gt (BQ rfl) (Gn (.t4 1 2 4 14) ?_)
 refine Gc (fun c1 => ?_) (fun c1 => ?_)
 ·
  refine Gs (Gt (AZ rfl HV .m1 (AS.id A9.fl.len A9.fl.one) rfl) ?_)
  refine AQ (AK (AS.id A9.fl.len A9.fl.one) rfl rfl rfl Ko rfl .h) ?_
  refine Ga rfl (Ga rfl (Gn (.t3 4 5 6) (Ac (AD ?_))))
  refine AY rfl (.cell rfl .m0 (.inl ⟨(by rw [A9.fl.len]; exact HV), rfl⟩) (.tmp rfl (.tmp rfl .n))) ?_
  intro w1 hS
  have hS := (hS.perm (Av.perm .n)).Ay
  exact ⟨_, .inl ⟨by simpa using c1, rfl, rfl⟩, hS⟩
 have c1p := kz c1
 have hgd : Bc.Br l qs = true := by simpa using c1
 have hh := Bc.Uo hgd
 have hq6 : qs.length ≤ 17592186044416 := by omega
 refine Aa ?_
 refine AB (.t3 1 2 4) ?_
 refine AA (Gs (Gt (Ah D6 rfl) (Gt (AF rfl Du .m1 A9.l3 rfl rfl) ?_)))
 refine BF rfl UE (.c rfl .n) .n (Bv _ _ (by first | assumption | omega)) (fun w hS => (Kn.Gx r0) w hS) (fun v1 B hv => ?_)
 obtain ⟨y2, rfl, y3, rfl⟩ := hv
 refine Gt (Ah D6 rfl) ?_
 refine AQ (AK A9.l3 rfl rfl rfl Lj rfl (.t (.t .h))) ?_
 refine Gn (.t3 1 2 4) (Gs (Ga rfl (AM (AA (Gs (Gt (Ah Hn rfl) (Gt (AF rfl CC .m2 A9.l0 rfl rfl) ?_)))))))
 refine N2 rfl Tryz.underlying9 Tryz.underlying105 Tryz.underlying5 rfl (fun h5 h5l => ?_)
 refine Ga rfl (Gn (.t5 1 2 4 7 8) (CB (Gm rfl (Gt (BI rfl Tryz.underlying9 rfl) (Gm rfl (Gn (.t7 1 2 4 7 8 24 25) (Ae ?_)))))))
 refine Bf (.t7 7 8 25 1 2 4 24) ?_
 refine BU (.t (.t (.t .h))) ?_
 refine BU (.t (.t .h)) ?_
 refine BU (.t (.t .h)) ?_
 refine Q8 (fun (k : Int) (now : Au) (Cd : Bool) (ret : Bool) (queue : List Au) (lost : Int) (h : Hd) (g : Hd) => Bc.I (Bc.start l qs) u k ⟨now, Cd, ret, queue, lost⟩ ∧ h.len = now.length ∧ g.len = queue.length) (fun (k : Int) (now : Au) (Cd : Bool) (ret : Bool) (queue : List Au) (lost : Int) (h : Hd) (g : Hd) => ((u.length : Int) - k).toNat) (fun (k : Int) (now : Au) (Cd : Bool) (ret : Bool) (queue : List Au) (lost : Int) (h : Hd) (g : Hd) => [(7, .int .i64 lost), (8, h.val), (25, .int .i64 k)]) (fun (k : Int) (now : Au) (Cd : Bool) (ret : Bool) (queue : List Au) (lost : Int) (h : Hd) (g : Hd) => [Ab.own h 5 1 (now.flatMap DH), Ab.own g 9 1 (queue.flatMap A4), Ab.box b1 75 (A9.enc ⟨l.now, Cd, ret, g⟩)]) (0) (l.now) (l.Cd) (l.ret) (qs) (0) (_) (_) ?_ rfl rfl (fun k now Cd ret queue lost h g hI1 => ?_)
 · exact ⟨Bc.I.start hh.1 (show qs.length ≤ 6 by omega) rfl, by assumption, by assumption⟩
 obtain ⟨hI11, hl, hg⟩ := hI1; have hk0 := hI11.k0; have hk1 := hI11.k1; have hn : now.length ≤ 60 := hI11.now; have hq : queue.length ≤ 6 := hI11.queue; have hlo : 0 ≤ lost ∧ lost ≤ k := hI11.lost
 refine Gs (Gt (A5 rfl rfl) (AM (AA (Ao ?_))))
 refine Gc (fun c2 => ?_) (fun c2 => ?_)
 ·
  have c2p := kz c2
  refine Aa ?_
  refine AB (.t7 1 2 4 7 8 24 25) ?_
  refine AA (Ao (Ae (Gs (Gm rfl (Ga rfl (Gn (.t8 1 2 4 7 8 9 24 25) (Gs ?_)))))))
  refine Gm rfl (Gm rfl ?_)
  refine Gt (Bi Tryz.underlying9 rfl rfl (by omega) (by omega)) ?_
  refine Ga rfl (Gn (.t8 1 2 4 7 8 10 24 25) (Gs (Gt (Ah KA rfl) (Gt (AF rfl Ct .m2 A9.l2 rfl rfl) (Ga rfl (Gn (.t9 1 2 4 7 8 10 11 24 25) (Gs ?_)))))))
  refine Gt (Ah KA rfl) ?_
  refine AQ (AK A9.l2 rfl rfl rfl Jt rfl (.t (.t .h))) ?_
  refine Gn (.t9 1 2 4 7 8 10 11 24 25) (Ae (Gs (Gm rfl (Gm rfl (Ba 40 rfl rfl (fun q => AE rfl) (Ba 40 rfl rfl (fun q => Aj (BX rfl q) rfl) (Ba 40 rfl rfl (fun q => AE (BX rfl q)) ?_)))))))
  refine Cw (t := 43) rfl rfl rfl (fun qc q => AE rfl) ?_
  refine Cw (t := 43) rfl rfl rfl (fun qc q => Aj (BX rfl (by rw [qc, q]; rfl)) rfl) ?_
  refine Ba 40 rfl rfl (fun q => BR (BX rfl q) rfl (fun h => by rw [q, h]; rfl)) ?_
  refine Gt (BH rfl rfl (fun h => h)) (Ga rfl (Gn (.t9 1 2 4 7 8 10 24 25 38) ?_))
  refine Gc (fun c3 => ?_) (fun c3 => ?_)
  ·
   have c3p := kz c3
   refine Aa ?_
   refine AB (.t7 1 2 4 7 8 24 25) ?_
   refine AU (AU (AA (AJ ?_)))
   refine Gt (Aw rfl rfl (IntWalk.i64_in _ (by omega))) ?_
   refine Gm rfl ?_
   refine AM (AB (.t7 1 2 4 7 8 24 25) ?_)
   refine CO (k + 1) _ _ _ _ _ _ _ ?_ ?_ (.t7 7 8 25 1 2 4 24) (.refl _)
   · exact ⟨hI11.next (by omega) (by simp only [Bc.step, hl, c1, c2, c3, ↓reduceIte, Bool.false_eq_true]), (by (try dsimp only at *) <;> (try simp only [List.length_append, List.length_take, List.length_cons, List.length_nil]) <;> omega), (by (try dsimp only at *) <;> (try simp only [List.length_append, List.length_cons, List.length_nil]) <;> omega)⟩
   · omega
  have c3p := kz c3
  refine Gs (Gm rfl (Gt (Aj rfl rfl) (Gm rfl (BZ 51 rfl rfl (fun q => AE rfl) (BZ 51 rfl rfl (fun q => Aj (cF rfl q) rfl) ?_)))))
  refine Gt (BR rfl rfl (fun h => by rw [h]; rfl)) ?_
  refine Ga rfl (Gn (.t9 1 2 4 7 8 10 24 25 48) ?_)
  refine Gc (fun c4 => ?_) (fun c4 => ?_)
  ·
   have c4p := kz c4
   refine CB (Gt (Ah D6 rfl) (Gt (AF rfl Du .m2 A9.l3 rfl rfl) (Gt (Aq rfl Tryz.underlying52 rfl) (Gt (A5 rfl rfl) (Gn (.t9 1 2 4 7 8 10 24 25 58) ?_)))))
   refine Gc (fun c5 => ?_) (fun c5 => ?_)
   ·
    have c5p := kz c5
    rw [hg] at c5
    refine AJ (Gt (Ah D6 rfl) (Gt (AF rfl Du .m2 A9.l3 rfl rfl) (Gm rfl (Gt (Jh Tryz.underlying105 Tryz.underlying9 Tryz.underlying5 rfl (Kn.own .m0)) ?_))))
    refine FP A4 DB rfl Tryz.underlying52 EM Qe rfl (by decide) (by decide) rfl rfl (fun b3 => ?_)
    refine CW DB rfl Tryz.underlying52 EM Qe rfl WS (by decide) (by decide) rfl rfl (fun w hS => Src.De Tryz.underlying52 ((Kn.own .m0) w hS)) (by (try dsimp only); omega) (fun _ => (.t (.t .h))) (fun h6 h6l h6z => ?_)
    refine Gt (Ah D6 rfl) ?_
    refine AQ (AK A9.l3 rfl rfl rfl Lj rfl (.t (.t (.t .h)))) ?_
    refine Gn (.t7 1 2 4 7 10 24 25) (AJ (Gm rfl (Gt (Aj rfl rfl) (Ga rfl (Gt (Ah J6 rfl) ?_)))))
    refine AQ (AK A9.l1 rfl rfl rfl Jt rfl (.t (.t (.t .h)))) ?_
    refine Gt (Ah KA rfl) ?_
    refine AQ (AK A9.l2 rfl rfl rfl Jt rfl (.t (.t (.t .h)))) ?_
    refine AM (AB (.t7 1 2 4 7 8 24 25) ?_)
    refine AU (AU (AA (AJ ?_)))
    refine Gt (Aw rfl rfl (IntWalk.i64_in _ (by omega))) ?_
    refine Gm rfl ?_
    refine AM (AB (.t7 1 2 4 7 8 24 25) ?_)
    refine TV DH 5 1 ?_
    refine CG (.c .h (.c (.t (.t .h)) (.c (.t (.t .h)) (.c (.t (.t .h)) .n)))) ?_
    refine CV ?_
    refine CO (k + 1) _ _ _ _ _ _ _ ?_ ?_ (.t7 7 8 25 1 2 4 24) (.refl _)
    · exact ⟨hI11.next (by omega) (by simp only [Bc.step, hl, c1, c2, c3, c4, c5, ↓reduceIte, Bool.false_eq_true]), (by (try dsimp only at *) <;> (try simp only [List.length_append, List.length_take, List.length_cons, List.length_nil]) <;> omega), (by (try dsimp only at *) <;> (try simp only [List.length_append, List.length_cons, List.length_nil]) <;> omega)⟩
    · omega
   have c5p := kz c5
   rw [hg] at c5
   refine AJ (Gm rfl ?_)
   refine Gt (Aw rfl rfl (IntWalk.i64_in _ (by omega))) ?_
   refine Ga rfl (Gn (.t7 1 2 4 7 10 24 25) (AJ (Gm rfl (Gt (Aj rfl rfl) (Ga rfl (Gt (Ah J6 rfl) ?_))))))
   refine AQ (AK A9.l1 rfl rfl rfl Jt rfl (.t (.t .h))) ?_
   refine Gt (Ah KA rfl) ?_
   refine AQ (AK A9.l2 rfl rfl rfl Jt rfl (.t (.t .h))) ?_
   refine AM (AB (.t7 1 2 4 7 8 24 25) ?_)
   refine AU (AU (AA (AJ ?_)))
   refine Gt (Aw rfl rfl (IntWalk.i64_in _ (by omega))) ?_
   refine Gm rfl ?_
   refine AM (AB (.t7 1 2 4 7 8 24 25) ?_)
   refine TV DH 5 1 ?_
   refine CG (.c .h (.c (.t .h) (.c (.t .h) (.c (.t .h) .n)))) ?_
   refine CV ?_
   refine CO (k + 1) _ _ _ _ _ _ _ ?_ ?_ (.t7 7 8 25 1 2 4 24) (.refl _)
   · exact ⟨hI11.next (by omega) (by simp only [Bc.step, hl, c1, c2, c3, c4, c5, ↓reduceIte, Bool.false_eq_true]), (by (try dsimp only at *) <;> (try simp only [List.length_append, List.length_take, List.length_cons, List.length_nil]) <;> omega), (by (try dsimp only at *) <;> (try simp only [List.length_append, List.length_cons, List.length_nil]) <;> omega)⟩
   · omega
  have c4p := kz c4
  refine Gs (Gm rfl (Gt (Aj rfl rfl) (Gm rfl (BZ 75 rfl rfl (fun q => AE rfl) (BZ 75 rfl rfl (fun q => Aj (cF rfl q) rfl) ?_)))))
  refine Gt (BR rfl rfl (fun h => by rw [h]; rfl)) ?_
  refine Ga rfl (Gn (.t9 1 2 4 7 8 10 24 25 72) ?_)
  refine Gc (fun c6 => ?_) (fun c6 => ?_)
  ·
   have c6p := kz c6
   refine Gs (Gm rfl (Gt (Aq rfl Tryz.underlying105 rfl) (Gt (Cf rfl rfl) (Gn (.t8 1 2 4 7 8 24 25 81) ?_))))
   refine Gc (fun c7 => ?_) (fun c7 => ?_)
   ·
    have c7p := kz c7
    rw [hl] at c7
    refine AJ (Gm rfl (Gm rfl (Gt (Aq rfl Tryz.underlying105 rfl) ?_)))
    refine Gt (E8 rfl rfl (IntWalk.i64_in _ (by omega))) ?_
    refine Ja U4 rfl Tryz.underlying105 Us rfl rfl (by omega) (by omega) (fun _ => .h) ?_
    refine Ga rfl ?_
    refine AM (AB (.t7 1 2 4 7 8 24 25) ?_)
    refine AU (AU (AA (AJ ?_)))
    refine Gt (Aw rfl rfl (IntWalk.i64_in _ (by omega))) ?_
    refine Gm rfl ?_
    refine AM (AB (.t7 1 2 4 7 8 24 25) ?_)
    refine CO (k + 1) _ _ _ _ _ _ _ ?_ ?_ (.t7 7 8 25 1 2 4 24) (.refl _)
    · exact ⟨hI11.next (by omega) (by simp only [Bc.step, hl, c1, c2, c3, c4, c6, c7, ↓reduceIte, Bool.false_eq_true]), (by (try dsimp only at *) <;> (try simp only [List.length_append, List.length_take, List.length_cons, List.length_nil]) <;> omega), (by (try dsimp only at *) <;> (try simp only [List.length_append, List.length_cons, List.length_nil]) <;> omega)⟩
    · omega
   have c7p := kz c7
   rw [hl] at c7
   refine Aa ?_
   refine AB (.t7 1 2 4 7 8 24 25) ?_
   refine AU (AU (AA (AJ ?_)))
   refine Gt (Aw rfl rfl (IntWalk.i64_in _ (by omega))) ?_
   refine Gm rfl ?_
   refine AM (AB (.t7 1 2 4 7 8 24 25) ?_)
   refine CO (k + 1) _ _ _ _ _ _ _ ?_ ?_ (.t7 7 8 25 1 2 4 24) (.refl _)
   · exact ⟨hI11.next (by omega) (by simp only [Bc.step, hl, c1, c2, c3, c4, c6, c7, ↓reduceIte, Bool.false_eq_true]), (by (try dsimp only at *) <;> (try simp only [List.length_append, List.length_take, List.length_cons, List.length_nil]) <;> omega), (by (try dsimp only at *) <;> (try simp only [List.length_append, List.length_cons, List.length_nil]) <;> omega)⟩
   · omega
  have c6p := kz c6
  refine Gs (Gm rfl ?_)
  refine A8 rfl YP (.c rfl .n) (fun w hS => GI _ w) ?_
  refine Gt (BQ rfl) (Ga rfl (Gn (.t9 1 2 4 7 8 10 24 25 87) ?_))
  refine Gc (fun c8 => ?_) (fun c8 => ?_)
  ·
   have c8p := kz c8
   refine Aa ?_
   refine AB (.t7 1 2 4 7 8 24 25) ?_
   refine AU (AU (AA (AJ ?_)))
   refine Gt (Aw rfl rfl (IntWalk.i64_in _ (by omega))) ?_
   refine Gm rfl ?_
   refine AM (AB (.t7 1 2 4 7 8 24 25) ?_)
   refine CO (k + 1) _ _ _ _ _ _ _ ?_ ?_ (.t7 7 8 25 1 2 4 24) (.refl _)
   · exact ⟨hI11.next (by omega) (by simp only [Bc.step, hl, c1, c2, c3, c4, c6, c8, ↓reduceIte, Bool.false_eq_true]), (by (try dsimp only at *) <;> (try simp only [List.length_append, List.length_take, List.length_cons, List.length_nil]) <;> omega), (by (try dsimp only at *) <;> (try simp only [List.length_append, List.length_cons, List.length_nil]) <;> omega)⟩
   · omega
  have c8p := kz c8
  refine Gs (Gm rfl (Gt (Aq rfl Tryz.underlying105 rfl) (Gt (CI rfl rfl) (Ga rfl (Gn (.t9 1 2 4 7 8 10 24 25 91) ?_)))))
  refine Gc (fun c9 => ?_) (fun c9 => ?_)
  ·
   have c9p := kz c9
   rw [hl] at c9
   refine AJ (Gt (Ah J6 rfl) ?_)
   refine AQ (AK A9.l1 rfl rfl rfl Jt rfl (.t (.t .h))) ?_
   refine AM (AB (.t7 1 2 4 7 8 24 25) ?_)
   refine AU (AU (AA (AJ ?_)))
   refine Gt (Aw rfl rfl (IntWalk.i64_in _ (by omega))) ?_
   refine Gm rfl ?_
   refine AM (AB (.t7 1 2 4 7 8 24 25) ?_)
   refine CO (k + 1) _ _ _ _ _ _ _ ?_ ?_ (.t7 7 8 25 1 2 4 24) (.refl _)
   · exact ⟨hI11.next (by omega) (by simp only [Bc.step, hl, c1, c2, c3, c4, c6, c8, c9, ↓reduceIte, Bool.false_eq_true]), (by (try dsimp only at *) <;> (try simp only [List.length_append, List.length_take, List.length_cons, List.length_nil]) <;> omega), (by (try dsimp only at *) <;> (try simp only [List.length_append, List.length_cons, List.length_nil]) <;> omega)⟩
   · omega
  have c9p := kz c9
  rw [hl] at c9
  refine AJ (Gm rfl (Gm rfl ?_))
  refine FP DH U4 rfl Tryz.underlying105 Us YT rfl (by decide) (by decide) rfl rfl (fun b4 => ?_)
  refine CW U4 rfl Tryz.underlying105 Us YT rfl bg (by decide) (by decide) rfl rfl (fun w hS => Src.De Tryz.underlying105 ((Kn.own .m0) w hS)) (by (try dsimp only); omega) (fun _ => (.t .h)) (fun h9 h9l h9z => ?_)
  refine Ga rfl ?_
  refine AM (AB (.t7 1 2 4 7 8 24 25) ?_)
  refine AU (AU (AA (AJ ?_)))
  refine Gt (Aw rfl rfl (IntWalk.i64_in _ (by omega))) ?_
  refine Gm rfl ?_
  refine AM (AB (.t7 1 2 4 7 8 24 25) ?_)
  refine CO (k + 1) _ _ _ _ _ _ _ ?_ ?_ (.t7 7 8 25 1 2 4 24) (.cons _ (.refl _))
  · exact ⟨hI11.next (by omega) (by simp only [Bc.step, hl, c1, c2, c3, c4, c6, c8, c9, ↓reduceIte, Bool.false_eq_true]), (by (try dsimp only at *) <;> (try simp only [List.length_append, List.length_take, List.length_cons, List.length_nil]) <;> omega), (by (try dsimp only at *) <;> (try simp only [List.length_append, List.length_cons, List.length_nil]) <;> omega)⟩
  · omega
 have c2p := kz c2
 refine BV (AT (AT (Af ?_)))
 refine AB (.t4 2 4 7 8) ?_
 refine AA (Gs (Gm rfl (Gt (Jh Tryz.underlying105 Tryz.underlying9 Tryz.underlying5 rfl (Kn.own .m0)) (Gt (Ah Hn rfl) ?_))))
 refine AQ (AK A9.l0 rfl rfl rfl EM rfl (.t (.t .h))) ?_
 refine Gn (.t3 2 4 7) (Gs (Gt (AZ rfl HV .m2 (AS.id A9.fl.len A9.fl.one) rfl) (Gm rfl ?_)))
 refine AQ (AK (AS.id A9.fl.len A9.fl.one) rfl rfl rfl Ko rfl (.t (.t (.t .h)))) ?_
 refine Ga rfl (Ga rfl (Gn (.t3 4 5 6) (Ac ?_)))
 refine AY rfl (.cell rfl .m3 (.inl ⟨(by rw [A9.fl.len]; exact HV), rfl⟩) (.tmp rfl (.tmp rfl .n))) ?_
 intro w1 hS
 have hS := (hS.perm (Av.perm (.c (.t .h) .n))).Ay
 have e := hI11.done (by omega)
 exact ⟨_, .inr ⟨hgd, _, by rw [e]; rfl, by rw [e]; exact hg, by rw [e]⟩, hS⟩
theorem MP (p : Ar) (n : Int) (w : World) : EG Tryz.prog 66 #[.agg p.enc.toArray, .int .i64 n] w fun v w' => v = .tuple #[.agg (Ar.enc ⟨p.wait, p.shown, p.B5, p.ring.drop (max 0 (min n (p.ring.length : Int))).toNat, p.cut⟩).toArray, BO (p.ring.take (max 0 (min n (p.ring.length : Int))).toNat)] ∧ B6 w w' := by
 refine Ai [] [] Tryz.func66 rfl rfl rfl (St.start w []) ?_
 refine Gs ?_
 refine Bw rfl rfl rfl (fun b1 => ?_)
 refine BB rfl Qf rfl (fun b2 => ?_)
 refine Ga rfl (Gn (.t3 1 2 4) (Gs (Gm rfl (Gt (Ah Hs rfl) (Gt (AF rfl CC .m1 Ar.l3 rfl rfl) (Gt (BI rfl Tryz.underlying9 rfl) (Gt (LF rfl rfl) ?_)))))))
 refine Gt (LN rfl rfl) (Ga rfl (Gn (.t3 1 2 4) (Gs (Gt (Ah Hs rfl) (Gt (AF rfl CC .m1 Ar.l3 rfl rfl) (Gm rfl ?_))))))
 refine Gt (IE Tryz.underlying9 rfl rfl (by omega) (by omega)) ?_
 refine Ga rfl (Gn (.t4 1 2 4 6) (Gs (Gt (Ah Hs rfl) (Gt (AF rfl CC .m1 Ar.l3 rfl rfl) (Gm rfl ?_)))))
 refine Gt (GG Tryz.underlying9 rfl rfl (by omega) (by omega)) ?_
 refine Gt (Ah Hs rfl) ?_
 refine AQ (AK Ar.l3 rfl rfl rfl EM rfl (.t .h)) ?_
 refine Gn (.t3 2 4 6) (Gs (Gt (AZ rfl Cm .m1 (AS.id Ar.fl.len Ar.fl.one) rfl) (Gm rfl ?_)))
 refine AQ (AK (AS.id Ar.fl.len Ar.fl.one) rfl rfl rfl Ez rfl .h) ?_
 refine Ga rfl (Gn (.t2 4 5) (Ac ?_))
 refine AY rfl (.cell rfl .m0 (.inl ⟨(by rw [Ar.fl.len]; exact Cm), rfl⟩) (.tmp rfl .n)) ?_
 intro w1 hS; refine ⟨?_, hS.Am⟩; rfl
theorem HD (b : Nat) (V : AH) (ls : Vector BG 4) (ev : List Ing.Event) (a : B4) (hL : AN.Live (A2 V ls ev)) (hu : a.bytes.length ≤ 140737488351232) : Ev Tryz.prog 38 #[.pointer (some ⟨b, 0, none⟩), .agg a.enc.toArray] [Ab.box b 101 (AH.enc V), Ab.C3 (Bt 9 (AH.Ap V) ls), Ab.own (AH.last V) 56 16 ((ev).flatMap Ing.Event.enc)] (fun w => (GV 2 E7 w ∧ 2 ∉ CR [Ab.box b 101 (AH.enc V), Ab.C3 (Bt 9 (AH.Ap V) ls), Ab.own (AH.last V) 56 16 ((ev).flatMap Ing.Event.enc)]) ∧ (GV 0 AI.C2 w ∧ 0 ∉ CR [Ab.box b 101 (AH.enc V), Ab.C3 (Bt 9 (AH.Ap V) ls), Ab.own (AH.last V) 56 16 ((ev).flatMap Ing.Event.enc)]) ∧ (F2 7 w ∧ 7 ∉ CR [Ab.box b 101 (AH.enc V), Ab.C3 (Bt 9 (AH.Ap V) ls), Ab.own (AH.last V) 56 16 ((ev).flatMap Ing.Event.enc)]) ∧ (F2 8 w ∧ 8 ∉ CR [Ab.box b 101 (AH.enc V), Ab.C3 (Bt 9 (AH.Ap V) ls), Ab.own (AH.last V) 56 16 ((ev).flatMap Ing.Event.enc)])) (fun v B => ∃ V' ls' ev', v = .agg (Be.enc (AN.act (A2 V ls ev) a).2).toArray ∧ A2 V' ls' ev' = (AN.act (A2 V ls ev) a).1 ∧ B = [Ab.box b 101 (AH.enc V'), Ab.C3 (Bt 9 (AH.Ap V') ls'), Ab.own (AH.last V') 56 16 ((ev').flatMap Ing.Event.enc)]) := by
 intro w hS0 hH
 obtain ⟨⟨gl0, gm0⟩, ⟨gl1, gm1⟩, ⟨gl2, gm2⟩, ⟨gl3, gm3⟩⟩ := hH
 obtain ⟨n, m, hF⟩ := hL.fits
 have hc : 0 ≤ V.Cx := hL.Cx
 refine Ai _ _ Tryz.func38 rfl rfl rfl (hS0) ?_
 refine Gs ?_
 refine Bw rfl rfl rfl (fun b1 => ?_)
 refine BB rfl Jo rfl (fun b2 => ?_)
 refine Gn (.t3 0 3 4) (Ao (Ae (Gs (Gm rfl (Gt (Dl Tryz.underlying37 rfl) (Ga rfl (Gn (.t4 0 3 4 11) ?_)))))))
 refine Da rfl rfl ?_
 refine Gs (Gm rfl (Gt (BS rfl) (Gt (Ah Pw rfl) (Gt (AF rfl A1 .m2 AH.l2 rfl rfl) (Gt (CI rfl rfl) (Ga rfl (Gn (.t4 0 3 4 15) ?_)))))))
 refine Gc (fun c1 => ?_) (fun c1 => ?_)
 ·
  refine Gs (Gt (BD MW Jo rfl (.cons Be.l0 rfl rfl rfl .nil)) ?_)
  refine AQ (AK (AS.id Be.fl.len Be.fl.one) rfl rfl rfl Ju rfl .h) ?_
  refine Gn (.t1 4) (Ac (AP (AD ?_)))
  refine AY rfl (.cell rfl .m0 (.inl ⟨(by rw [Be.fl.len]; exact G4), rfl⟩) .n) ?_
  intro w1 hS
  have hS := (hS.perm (Av.perm (.c (.t (.t .h)) (.c (.t (.t .h)) (.c (.t (.t .h)) .n))))).Ay
  have hq : (AN.act (A2 V ls ev) a) = ((A2 V ls ev), ⟨4, []⟩) := BC c1
  refine ⟨_, ⟨V, ls, ev, ?gv1, ?ga1, rfl⟩, hS⟩
  case gv1 => rw [hq]; rfl
  case ga1 => rw [hq]
 have c1p := kz c1
 refine Aa ?_
 refine AB (.t3 0 3 4) ?_
 refine AU (AA (Gs (Gm rfl (Gt (BS rfl) (Gt (Ah Pw rfl) (Gt (AF rfl A1 .m2 AH.l2 rfl rfl) ?_))))))
 refine Gt (Aw rfl rfl (IntWalk.i64_in _ (by first | omega | exact hi.1 | exact hi.2 | exact hs.1 | exact hs.2))) ?_
 refine Gt (BS rfl) (Gt (Ah Pw rfl) ?_)
 refine AQ (AK AH.l2 rfl rfl rfl C5 rfl (.t (.t .h))) ?_
 refine Gn (.t3 0 3 4) (Gs (Gm rfl (Gt (BS rfl) (Gt (Ah Mq rfl) ?_))))
 refine AQ (AK (Y := ⟨none, 0, 0⟩) AH.l3 rfl rfl rfl RS rfl (.t (.t .h))) ?_
 refine Gn (.t3 0 3 4) (Ao (Ao ?_))
 refine Et Ing.Event.enc 56 16 ?_
 refine D9 (.c (.t (.t (.t .h))) (.c (.t (.t (.t .h))) (.c .h .n))) ?_
 refine AJ (Gm rfl (AM (AA (Ae ?_))))
 refine Bf (.t4 32 0 3 4) ?_
 refine BU (.t (.t .h)) ?_
 refine BU (.t (.t .h)) ?_
 refine BU (.t (.t .h)) ?_
 refine IF (fun (i : Int) (V1 : AH) (ls1 : Vector BG 4) (ev1 : List Ing.Event) => 0 ≤ i ∧ i ≤ 4 ∧ (A2 V1 ls1 ev1) = AN.EK ({ (A2 V ls ev) with Cx := ((A2 V ls ev)).Cx + 1, last := [] } : AN) i.toNat) (fun (i : Int) (V1 : AH) (ls1 : Vector BG 4) (ev1 : List Ing.Event) => (4 - i).toNat) (fun (i : Int) (V1 : AH) (ls1 : Vector BG 4) (ev1 : List Ing.Event) => [(32, .int .i64 i)]) (fun (i : Int) (V1 : AH) (ls1 : Vector BG 4) (ev1 : List Ing.Event) => [Ab.box b 101 (AH.enc V1), Ab.C3 (Bt 9 (AH.Ap V1) ls1), Ab.own (AH.last V1) 56 16 (ev1.flatMap Ing.Event.enc)]) (0) (_) (ls) ([]) ?_ rfl rfl (fun i V1 ls1 ev1 hI1 => ?_)
 · exact ⟨by omega, by omega, rfl⟩
 obtain ⟨hI11, hI12, hI13⟩ := hI1
 refine Gs (Gt (A5 rfl rfl) (AM (AA (Ao ?_))))
 refine Gc (fun c2 => ?_) (fun c2 => ?_)
 ·
  have c2p := kz c2
  have hi : 0 ≤ i ∧ i < 4 := ⟨by omega, by omega⟩
  refine Aa ?_
  refine AB (.t4 0 3 4 32) ?_
  refine AA (Ao (Ae (Gs (Gm rfl (Ga rfl (Gn (.t5 0 3 4 5 32) ?_))))))
  refine Eu (k := i) hi.1 hi.2 (fun sv sl hsv hlv hln => ?_)
  refine AJ (Gm rfl (Gm rfl (Gt (BS rfl) (Gt (Ah FV rfl) ?_))))
  refine Gt (AR N4 rfl rfl (by first | omega | exact hi.1 | exact hi.2 | exact hs.1 | exact hs.2) (by first | omega | exact hi.1 | exact hi.2 | exact hs.1 | exact hs.2)) ?_
  refine Gt (Ah QO rfl) ?_
  refine AQ (AK (Y := ⟨none, 0, 0⟩) ((AS.BL V1 hi.1 hi.2).comp A0.l5) rfl rfl rfl Lj rfl (.t (.t (.t .h)))) ?_
  refine AM (AB (.t4 0 3 4 32) ?_)
  refine AU (AA ?_)
  refine Et A4 9 1 ?_
  refine D9 (.c (.t .h) (.c (.t .h) (.c .h (.c (.t .h) (.c (.t .h) .n))))) ?_
  refine GY hi.1 hi.2 (by rfl) (by rfl) (by rfl) ?_
  refine AJ ?_
  refine Gt (Aw rfl rfl (IntWalk.i64_in _ (by first | omega | exact hi.1 | exact hi.2 | exact hs.1 | exact hs.2))) ?_
  refine Gm rfl ?_
  refine AM (AB (.t4 0 3 4 32) ?_)
  refine CG (.c .h (.c .h (.c (.t .h) (.c (.t .h) (.c (.t .h) (.c (.t .h) .n)))))) ?_
  refine CV ?_
  refine Cz (i + 1) _ _ _ ?_ ?_ (.t4 32 0 3 4) (.refl _)
  · exact ⟨by omega, by omega, (EW hi.1 hi.2 hsv hlv (f := fun x => { x with told := [] }) rfl).trans (by rw [hI13]; exact (AN.QF hI11).symm)⟩
  · omega
 have c2p := kz c2
 obtain rfl : i = 4 := by omega
 have hX : (A2 V1 ls1 ev1) = (AN.begun (A2 V ls ev)) := hI13
 have hF0 : AN.Fit (A2 V1 ls1 ev1) 0 0 := by rw [hX]; exact hF.begun
 refine BV (AT (AT (Af ?_)))
 refine AB (.t3 0 3 4) ?_
 refine AA (CB (Gt (Ah NP rfl) (Gt (AF rfl A1 .m4 B4.l0 rfl rfl) (Gt (Aj rfl rfl) (Gn (.t4 0 3 4 44) ?_)))))
 refine Gc (fun c3 => ?_) (fun c3 => ?_)
 ·
  have c3p := kz c3
  refine Gs (Gm rfl (Gt (Ah Vx rfl) (Gt (AF rfl A1 .m4 B4.l2 rfl rfl) ?_)))
  refine BF rfl bX (.c rfl (.c rfl .n)) (.c .h (.c .h (.c .h .n))) (OU _ V1 ls1 ev1 a.n 0 0 hF0 (by omega) (by omega)) (fun w hS => ⟨gl0.pull gm0 hS (.c .h (.c .h (.c .h .n))), gl1.pull gm1 hS (.c .h (.c .h (.c .h .n))), gl2.pull gm2 hS (.c .h (.c .h (.c .h .n))), gl3.pull gm3 hS (.c .h (.c .h (.c .h .n)))⟩) (fun v2 B hv => ?_)
  obtain ⟨y3, y4, y5, rfl, y6, rfl⟩ := hv
  refine Gn (.t1 4) (Gs (Gt (BD MW Jo rfl .nil) ?_))
  refine AQ (AK (AS.id Be.fl.len Be.fl.one) rfl rfl rfl Ju rfl (.t (.t (.t .h)))) ?_
  refine Gn (.t1 4) (Ac (AD ?_))
  refine AY rfl (.cell rfl .m3 (.inl ⟨(by rw [Be.fl.len]; exact G4), rfl⟩) .n) ?_
  intro w1 hS
  have hS := (hS.perm (Av.perm (.c .h (.c .h (.c .h .n))))).Ay
  have hq0 : AN.El (A2 V1 ls1 ev1) a = _ := (BC c3)
  have hq : (AN.act (A2 V ls ev) a) = _ := (AN.GP c1 a).trans ((congrArg (fun X => AN.El X a) hX.symm).trans hq0)
  refine ⟨_, ⟨y3, y4, y5, ?gv2, ?ga2, rfl⟩, hS⟩
  case gv2 => rw [hq]; rfl
  case ga2 => rw [hq]; dsimp only; exact y6
 have c3p := kz c3
 refine Aa ?_
 refine AB (.t3 0 3 4) ?_
 refine AA (CB (Gt (Ah NP rfl) (Gt (AF rfl A1 .m4 B4.l0 rfl rfl) (Gt (A5 rfl rfl) (Gm rfl (BZ 53 rfl rfl (fun q => Ah NP rfl) (BZ 53 rfl rfl (fun q => AF (cF rfl q) A1 .m4 B4.l0 rfl rfl) ?_)))))))
 refine BZ 53 rfl rfl (fun q => Cf (cF rfl q) rfl) ?_
 refine Gt (BR rfl rfl (fun h => by rw [h]; rfl)) ?_
 refine Gn (.t4 0 3 4 57) ?_
 refine Gc (fun c4 => ?_) (fun c4 => ?_)
 ·
  refine Gs (Gt (BD MW Jo rfl (.cons Be.l0 rfl rfl rfl .nil)) ?_)
  refine AQ (AK (AS.id Be.fl.len Be.fl.one) rfl rfl rfl Ju rfl (.t (.t (.t .h)))) ?_
  refine Gn (.t1 4) (Ac (AD ?_))
  refine AY rfl (.cell rfl .m3 (.inl ⟨(by rw [Be.fl.len]; exact G4), rfl⟩) .n) ?_
  intro w1 hS
  have hS := (hS.perm (Av.perm (.c .h (.c .h (.c .h .n))))).Ay
  have hq0 : AN.El (A2 V1 ls1 ev1) a = _ := ((AV c3).trans (BC c4))
  have hq : (AN.act (A2 V ls ev) a) = _ := (AN.GP c1 a).trans ((congrArg (fun X => AN.El X a) hX.symm).trans hq0)
  refine ⟨_, ⟨V1, ls1, ev1, ?gv3, ?ga3, rfl⟩, hS⟩
  case gv3 => rw [hq]; rfl
  case ga3 => rw [hq]
 have c4p := kz c4
 refine Aa ?_
 refine AB (.t3 0 3 4) ?_
 refine AA (CB (Gt (Ah R3 rfl) (Gt (AF rfl A1 .m4 B4.l1 rfl rfl) (Gt (A5 rfl rfl) (Gm rfl (BZ 62 rfl rfl (fun q => Ah R3 rfl) (BZ 62 rfl rfl (fun q => AF (cF rfl q) A1 .m4 B4.l1 rfl rfl) ?_)))))))
 refine BZ 62 rfl rfl (fun q => CI (cF rfl q) rfl) ?_
 refine Gt (BR rfl rfl (fun h => by rw [h]; rfl)) ?_
 refine Gn (.t4 0 3 4 66) ?_
 refine Gc (fun c5 => ?_) (fun c5 => ?_)
 ·
  refine Gs (Gt (BD MW Jo rfl (.cons Be.l0 rfl rfl rfl .nil)) ?_)
  refine AQ (AK (AS.id Be.fl.len Be.fl.one) rfl rfl rfl Ju rfl (.t (.t (.t .h)))) ?_
  refine Gn (.t1 4) (Ac (AD ?_))
  refine AY rfl (.cell rfl .m3 (.inl ⟨(by rw [Be.fl.len]; exact G4), rfl⟩) .n) ?_
  intro w1 hS
  have hS := (hS.perm (Av.perm (.c .h (.c .h (.c .h .n))))).Ay
  have hq0 : AN.El (A2 V1 ls1 ev1) a = _ := ((AV c3).trans ((AV c4).trans (BC c5)))
  have hq : (AN.act (A2 V ls ev) a) = _ := (AN.GP c1 a).trans ((congrArg (fun X => AN.El X a) hX.symm).trans hq0)
  refine ⟨_, ⟨V1, ls1, ev1, ?gv4, ?ga4, rfl⟩, hS⟩
  case gv4 => rw [hq]; rfl
  case ga4 => rw [hq]
 have c5p := kz c5
 have hs : 0 ≤ a.BL ∧ a.BL < 4 := ⟨by omega, by omega⟩
 refine Aa ?_
 refine AB (.t3 0 3 4) ?_
 refine AA (Ao ?_)
 refine BE (N := 7) [0, 0, 2, 1, 9, 31, 63] mix (by kernel_rfl) rfl ?_
 refine Pf 0 rfl (AE rfl) (Pf 1 rfl (Ah R3 rfl) (Pf 2 rfl (AF rfl A1 .m4 B4.l1 rfl rfl) (Pf 3 rfl (BS rfl) (Pf 4 rfl (Ah FV rfl) ?_))))
 refine Pf 5 rfl (AR N4 rfl rfl (by first | omega | exact hi.1 | exact hi.2 | exact hs.1 | exact hs.2) (by first | omega | exact hi.1 | exact hi.2 | exact hs.1 | exact hs.2)) ?_
 refine Pf 6 rfl (Az rfl) ?_
 refine A3 (by kernel_rfl) ?_
 refine AB (.t4 0 3 4 6) ?_
 refine AA (Ao (Ao ?_))
 refine BE (N := 9) [0, 1, 3, 7, 15, 0, 32, 96, 255] mix (by kernel_rfl) rfl ?_
 refine Pf 0 rfl (AE rfl) (Pf 1 rfl (BS rfl) (Pf 2 rfl (Ah Ik rfl) ?_))
 refine Pf 3 rfl (AF rfl A1 .m0 ((AH.l1.comp (AS.ar (n := 4) A0.fl (by first | omega | exact hi | exact hs))).comp A0.l0) rfl rfl) ?_
 refine Pf 4 rfl (Aj rfl rfl) (Pf 5 rfl (Ah NP rfl) (Pf 6 rfl (AF rfl A1 .m4 B4.l0 rfl rfl) (Pf 7 rfl (Aj rfl rfl) (Pf 8 rfl (JR Tryz.underlying4 rfl rfl) ?_))))
 refine A3 (by kernel_rfl) ?_
 refine AB (.t5 0 3 4 6 82) ?_
 refine AA ?_
 refine Gc (fun c6 => ?_) (fun c6 => ?_)
 ·
  refine Gs (Gt (BD MW Jo rfl (.cons Be.l0 rfl rfl rfl .nil)) ?_)
  refine AQ (AK (AS.id Be.fl.len Be.fl.one) rfl rfl rfl Ju rfl (.t (.t (.t .h)))) ?_
  refine Gn (.t1 4) (Ac (AD ?_))
  refine AY rfl (.cell rfl .m3 (.inl ⟨(by rw [Be.fl.len]; exact G4), rfl⟩) .n) ?_
  intro w1 hS
  have hS := (hS.perm (Av.perm (.c .h (.c .h (.c .h .n))))).Ay
  have hq0 : AN.El (A2 V1 ls1 ev1) a = _ := ((AV c3).trans ((AV c4).trans ((AV c5).trans (BC (show (decide ((AN.at_ (A2 V1 ls1 ev1) a.BL).state = 0) != decide (a.kind = 1)) = true by rw [F7 V1 ls1 ev1 hs.1 hs.2]; exact c6)))))
  have hq : (AN.act (A2 V ls ev) a) = _ := (AN.GP c1 a).trans ((congrArg (fun X => AN.El X a) hX.symm).trans hq0)
  refine ⟨_, ⟨V1, ls1, ev1, ?gv5, ?ga5, rfl⟩, hS⟩
  case gv5 => rw [hq]; rfl
  case ga5 => rw [hq]
 have c6p := kz c6
 refine Aa ?_
 refine AB (.t4 0 3 4 6) ?_
 refine AA (CB (Gt (Ah NP rfl) (Gt (AF rfl A1 .m4 B4.l0 rfl rfl) (Gn (.t5 0 3 4 6 85) (Ae (Gs (Gt (Aj rfl rfl) ?_)))))))
 refine Ga rfl (Gn (.t6 0 3 4 6 85 86) ?_)
 refine Gc (fun c7 => ?_) (fun c7 => ?_)
 ·
  have c7p := kz c7
  refine AJ (Gm rfl (Gm rfl ?_))
  refine BF rfl bq (.c rfl (.c rfl .n)) (.c .h (.c .h (.c .h .n))) (P4 _ V1 ls1 ev1 a.BL 0 0 hs hF0 (by omega) (by omega)) (fun w hS => ⟨gl0.pull gm0 hS (.c .h (.c .h (.c .h .n))), gl1.pull gm1 hS (.c .h (.c .h (.c .h .n))), gl2.pull gm2 hS (.c .h (.c .h (.c .h .n))), gl3.pull gm3 hS (.c .h (.c .h (.c .h .n)))⟩) (fun v7 B hv => ?_)
  obtain ⟨y8, y9, y10, rfl, y11, rfl⟩ := hv
  refine AM (AB (.t1 4) ?_)
  refine AU (AA (Gs (Gt (BD MW Jo rfl .nil) ?_)))
  refine AQ (AK (AS.id Be.fl.len Be.fl.one) rfl rfl rfl Ju rfl (.t (.t (.t .h)))) ?_
  refine Gn (.t1 4) (Ac ?_)
  refine AY rfl (.cell rfl .m3 (.inl ⟨(by rw [Be.fl.len]; exact G4), rfl⟩) .n) ?_
  intro w1 hS
  have hS := (hS.perm (Av.perm (.c .h (.c .h (.c .h .n))))).Ay
  have hq0 : AN.El (A2 V1 ls1 ev1) a = _ := ((AV c3).trans ((AV c4).trans ((AV c5).trans ((AV (show (decide ((AN.at_ (A2 V1 ls1 ev1) a.BL).state = 0) != decide (a.kind = 1)) = false by rw [F7 V1 ls1 ev1 hs.1 hs.2]; exact c6)).trans (BC c7)))))
  have hq : (AN.act (A2 V ls ev) a) = _ := (AN.GP c1 a).trans ((congrArg (fun X => AN.El X a) hX.symm).trans hq0)
  refine ⟨_, ⟨y8, y9, y10, ?gv6, ?ga6, rfl⟩, hS⟩
  case gv6 => rw [hq]; rfl
  case ga6 => rw [hq]; dsimp only; exact y11
 have c7p := kz c7
 refine Gs (Gt (Aj rfl rfl) (Ga rfl (Gn (.t6 0 3 4 6 85 91) ?_)))
 refine Gc (fun c8 => ?_) (fun c8 => ?_)
 ·
  have c8p := kz c8
  refine Gs (Ga rfl (Ga rfl (Gn (.t4 0 3 4 6) (Ao ?_))))
  refine Eu (k := a.BL) hs.1 hs.2 (fun sv sl hsv hlv hln => ?_)
  refine BE (N := 18) [0, 0, 2, 6, 14, 0, 32, 126, 254, 510, 510, 510, 510, 1023, 9215, 25599, 59391, 126975] mix (by kernel_rfl) rfl ?_
  refine Pf 0 rfl (AE rfl) (Pf 1 rfl (AE rfl) (Pf 2 rfl (BS rfl) (Pf 3 rfl (Ah KZ rfl) (Pf 4 rfl (AZ rfl Dq .m3 ((AS.BL V1 hs.1 hs.2).comp A0.l2) rfl) (Pf 5 rfl (Ah Yh rfl) (Pf 6 rfl (AF rfl CC .m7 B4.l3 rfl rfl) ?_))))))
  refine BW 7 rfl rfl (by kernel_rfl) (LH (Ka (Dv bU (.c rfl (.c rfl .n)) (fun w hS => Lp _ _ (by omega) w)))) ?_
  refine Pf 8 rfl (AE rfl) (Pf 9 rfl (AL rfl rfl) (Pf 10 rfl (AL rfl rfl) (Pf 11 rfl (AL rfl rfl) (Pf 12 rfl (AL rfl rfl) (Pf 13 rfl (BS rfl) (Pf 14 rfl (Ah KZ rfl) ?_))))))
  refine An 15 rfl (by kernel_rfl) ?_
  refine AQ (AK ((AS.BL V1 hs.1 hs.2).comp A0.l2) rfl rfl rfl Jr rfl (.t (.t (.t .h)))) ?_
  refine BK rfl ⟨?_, ?_⟩
  · exact (Pk (Pk (Po rfl (AL rfl rfl) rfl rfl (Po rfl (AL rfl rfl) rfl rfl (Po rfl (AL rfl rfl) rfl rfl (Pk (Pk (Pk (Pk (Pk (Pk (Pk (Pk (Pk (Pk As)))))))))))))))
  refine Pf 16 rfl (Az rfl) (Pf 17 rfl (Az rfl) ?_)
  refine A3 (by kernel_rfl) ?_
  refine AB (.t5 0 4 6 7 8) ?_
  refine AA (Gs (Gm rfl (Gm rfl (Gt (BS rfl) (Gt (Ah Df rfl) (Gt (AZ rfl Cm .m3 ((AS.BL V1 hs.1 hs.2).comp A0.l4) rfl) (Gm rfl ?_)))))))
  refine A8 rfl WG (.c rfl (.c rfl .n)) (fun w hS => ED _ _ (by have h := AO.Tq sv.EI a.bytes; omega) w) ?_
  refine Gm rfl (Gt (AL rfl rfl) (Gt (AL rfl rfl) (Gt (BS rfl) (Gt (Ah Df rfl) ?_))))
  refine AQ (AK ((AS.BL V1 hs.1 hs.2).comp A0.l4) rfl rfl rfl Ez rfl (.t (.t (.t .h)))) ?_
  refine Gn (.t4 0 4 6 7) (Gs (Ga rfl (Gn (.t4 0 4 6 7) (CB (Gm rfl (Gm rfl (Gt (BS rfl) ?_)))))))
  refine Gt (Ah Kd rfl) (Gt (AZ rfl HV .m3 ((AS.BL V1 hs.1 hs.2).comp A0.l3) rfl) (Gm rfl ?_))
  refine BF rfl cC (.c rfl (.c rfl .n)) .n (Nb _ _ _ (by have h := UU sv.EI a.bytes; omega)) (fun w hS => (Kn.own .m0) w hS) (fun v12 B hv => ?_)
  rcases hv with ⟨y13, rfl, rfl⟩ | ⟨y14, y15, rfl, y16, rfl⟩
  ·
   refine Gm rfl (Gt (AL rfl rfl) (Gt (AL rfl rfl) (Gt (AL rfl rfl) (Gt (BS rfl) (Gt (Ah Kd rfl) ?_)))))
   refine AQ (AK ((AS.BL V1 hs.1 hs.2).comp A0.l3) rfl rfl rfl Ko rfl (.t (.t (.t .h)))) ?_
   refine Ga rfl (Gn (.t4 0 4 6 9) (Ao ?_))
   refine D9 (.c .h (.c .h (.c .h (.c .h (.c .h .n))))) ?_
   refine GY hs.1 hs.2 (by rfl) (by rfl) (by rfl) ?_
   refine AJ (Gm rfl (Gt (Cf rfl rfl) (Gn (.t4 0 4 6 134) ?_)))
   refine Gc (fun c9 => ?_) (fun c9 => ?_)
   ·
    have c9p := kz c9
    refine AJ (Gm rfl (Gm rfl ?_))
    refine Ag rfl SK (.c rfl (.c rfl (.c rfl .n))) (.c .h (.c .h (.c .h .n))) (D7 _ (AH.BL V1 a.BL (heard sv a.bytes)) (ls1.put a.BL ⟨sl.queue, sl.wait, sl.told⟩) ev1 a.BL _ hs (Nat.le_trans (GF (II hs.1 hs.2 (Ex (V := V1) (ls := ls1) (ev := ev1) hs.1 hs.2 hsv hlv (HA (u := a.bytes) hln.2.1 hln.1 y13)) hF0) a.BL hs.1 hs.2) (by omega))) (fun v18 B hv => ?_)
    obtain ⟨y19, y20, y21, rfl, y22, rfl⟩ := hv
    refine Gn (.t2 0 4) (AJ (Gm rfl ?_))
    refine BF rfl Qw (.c rfl .n) (.c .h (.c .h (.c .h .n))) (Dj _ y19 y20 y21 1 0 (by rw [y22]; exact (II hs.1 hs.2 (Ex (V := V1) (ls := ls1) (ev := ev1) hs.1 hs.2 hsv hlv (HA (u := a.bytes) hln.2.1 hln.1 y13)) hF0).tell hs.1 hs.2 (show AN.Qm.length ≤ _ by decide)) (by omega) (by omega)) (fun w hS => ⟨gl0.pull gm0 hS (.c .h (.c .h (.c .h .n))), gl1.pull gm1 hS (.c .h (.c .h (.c .h .n))), gl2.pull gm2 hS (.c .h (.c .h (.c .h .n))), gl3.pull gm3 hS (.c .h (.c .h (.c .h .n)))⟩) (fun v23 B hv => ?_)
    obtain ⟨y24, y25, y26, rfl, y27, rfl⟩ := hv
    refine AM (AB (.t1 4) ?_)
    refine AU (AA (Gs (Gt (BD MW Jo rfl .nil) ?_)))
    refine AQ (AK (AS.id Be.fl.len Be.fl.one) rfl rfl rfl Ju rfl (.t (.t (.t .h)))) ?_
    refine Gn (.t1 4) (Ac ?_)
    refine AY rfl (.cell rfl .m3 (.inl ⟨(by rw [Be.fl.len]; exact G4), rfl⟩) .n) ?_
    intro w1 hS
    have hS := (hS.perm (Av.perm (.c .h (.c .h (.c .h .n))))).Ay
    have hq0 : AN.El (A2 V1 ls1 ev1) a = _ := ((AV c3).trans ((AV c4).trans ((AV c5).trans ((AV (show (decide ((AN.at_ (A2 V1 ls1 ev1) a.BL).state = 0) != decide (a.kind = 1)) = false by rw [F7 V1 ls1 ev1 hs.1 hs.2]; exact c6)).trans ((AV c7).trans (BC c8))))))
    have hq : (AN.act (A2 V ls ev) a) = _ := (AN.GP c1 a).trans ((congrArg (fun X => AN.El X a) hX.symm).trans hq0)
    refine ⟨_, ⟨y24, y25, y26, ?gv7, ?ga7, rfl⟩, hS⟩
    case gv7 => rw [hq]; rfl
    case ga7 => rw [hq]; dsimp only; exact (LU hs.1 hs.2 (Ex (V := V1) (ls := ls1) (ev := ev1) hs.1 hs.2 hsv hlv (HA (u := a.bytes) hln.2.1 hln.1 y13)) (.inl ⟨c9, y22⟩) y27)
   have c9p := kz c9
   refine Aa ?_
   refine AB (.t2 0 4) ?_
   refine AA (AJ (Gm rfl ?_))
   refine BF rfl Qw (.c rfl .n) (.c .h (.c .h (.c .h .n))) (Dj _ (AH.BL V1 a.BL (heard sv a.bytes)) (ls1.put a.BL ⟨sl.queue, sl.wait, sl.told⟩) ev1 0 0 (II hs.1 hs.2 (Ex (V := V1) (ls := ls1) (ev := ev1) hs.1 hs.2 hsv hlv (HA (u := a.bytes) hln.2.1 hln.1 y13)) hF0) (by omega) (by omega)) (fun w hS => ⟨gl0.pull gm0 hS (.c .h (.c .h (.c .h .n))), gl1.pull gm1 hS (.c .h (.c .h (.c .h .n))), gl2.pull gm2 hS (.c .h (.c .h (.c .h .n))), gl3.pull gm3 hS (.c .h (.c .h (.c .h .n)))⟩) (fun v28 B hv => ?_)
   obtain ⟨y29, y30, y31, rfl, y32, rfl⟩ := hv
   refine AM (AB (.t1 4) ?_)
   refine AU (AA (Gs (Gt (BD MW Jo rfl .nil) ?_)))
   refine AQ (AK (AS.id Be.fl.len Be.fl.one) rfl rfl rfl Ju rfl (.t (.t (.t .h)))) ?_
   refine Gn (.t1 4) (Ac ?_)
   refine AY rfl (.cell rfl .m3 (.inl ⟨(by rw [Be.fl.len]; exact G4), rfl⟩) .n) ?_
   intro w1 hS
   have hS := (hS.perm (Av.perm (.c .h (.c .h (.c .h .n))))).Ay
   have hq0 : AN.El (A2 V1 ls1 ev1) a = _ := ((AV c3).trans ((AV c4).trans ((AV c5).trans ((AV (show (decide ((AN.at_ (A2 V1 ls1 ev1) a.BL).state = 0) != decide (a.kind = 1)) = false by rw [F7 V1 ls1 ev1 hs.1 hs.2]; exact c6)).trans ((AV c7).trans (BC c8))))))
   have hq : (AN.act (A2 V ls ev) a) = _ := (AN.GP c1 a).trans ((congrArg (fun X => AN.El X a) hX.symm).trans hq0)
   refine ⟨_, ⟨y29, y30, y31, ?gv8, ?ga8, rfl⟩, hS⟩
   case gv8 => rw [hq]; rfl
   case ga8 => rw [hq]; dsimp only; exact (LU hs.1 hs.2 (Ex (V := V1) (ls := ls1) (ev := ev1) hs.1 hs.2 hsv hlv (HA (u := a.bytes) hln.2.1 hln.1 y13)) (.inr ⟨c9, rfl⟩) y32)
  refine Gm rfl (Gt (AL rfl rfl) (Gt (AL rfl rfl) (Gt (AL rfl rfl) (Gt (BS rfl) (Gt (Ah Kd rfl) ?_)))))
  refine AQ (AK ((AS.BL V1 hs.1 hs.2).comp A0.l3) rfl rfl rfl Ko rfl (.t (.t (.t (.t .h))))) ?_
  refine Ga rfl (Gn (.t4 0 4 6 9) (Ao ?_))
  refine D9 (.c .h (.c (.t .h) (.c (.t .h) (.c (.t .h) (.c (.t .h) .n))))) ?_
  refine GY hs.1 hs.2 (by rfl) (by rfl) (by rfl) ?_
  refine AJ (Gm rfl (Gt (Cf rfl rfl) (Gn (.t4 0 4 6 134) ?_)))
  refine Gc (fun c10 => ?_) (fun c10 => ?_)
  ·
   have c10p := kz c10
   refine AJ (Gm rfl (Gm rfl ?_))
   refine Ag rfl SK (.c rfl (.c rfl (.c rfl .n))) (.c .h (.c .h (.c (.t .h) .n))) (D7 _ (AH.BL V1 a.BL { heard sv a.bytes with Dy := ⟨(Bc.feed (Bc.start sv.Dy sl.queue) (sv.EI.DQ a.bytes).2.1).now, (Bc.feed (Bc.start sv.Dy sl.queue) (sv.EI.DQ a.bytes).2.1).Cd, (Bc.feed (Bc.start sv.Dy sl.queue) (sv.EI.DQ a.bytes).2.1).ret, y15⟩ }) (ls1.put a.BL ⟨(Bc.feed (Bc.start sv.Dy sl.queue) (sv.EI.DQ a.bytes).2.1).queue, sl.wait, sl.told⟩) ev1 a.BL _ hs (Nat.le_trans (GF (II hs.1 hs.2 (Ex (V := V1) (ls := ls1) (ev := ev1) hs.1 hs.2 hsv hlv (IH (u := a.bytes) hln.2.1 hln.1 y14 y15)) hF0) a.BL hs.1 hs.2) (by omega))) (fun v33 B hv => ?_)
   obtain ⟨y34, y35, y36, rfl, y37, rfl⟩ := hv
   refine Gn (.t2 0 4) (AJ (Gm rfl ?_))
   refine BF rfl Qw (.c rfl .n) (.c .h (.c .h (.c .h .n))) (Dj _ y34 y35 y36 1 0 (by rw [y37]; exact (II hs.1 hs.2 (Ex (V := V1) (ls := ls1) (ev := ev1) hs.1 hs.2 hsv hlv (IH (u := a.bytes) hln.2.1 hln.1 y14 y15)) hF0).tell hs.1 hs.2 (show AN.Qm.length ≤ _ by decide)) (by omega) (by omega)) (fun w hS => ⟨gl0.pull gm0 hS (.c .h (.c .h (.c .h .n))), gl1.pull gm1 hS (.c .h (.c .h (.c .h .n))), gl2.pull gm2 hS (.c .h (.c .h (.c .h .n))), gl3.pull gm3 hS (.c .h (.c .h (.c .h .n)))⟩) (fun v38 B hv => ?_)
   obtain ⟨y39, y40, y41, rfl, y42, rfl⟩ := hv
   refine AM (AB (.t1 4) ?_)
   refine AU (AA (Gs (Gt (BD MW Jo rfl .nil) ?_)))
   refine AQ (AK (AS.id Be.fl.len Be.fl.one) rfl rfl rfl Ju rfl (.t (.t (.t (.t .h))))) ?_
   refine Gn (.t1 4) (Ac ?_)
   refine AY rfl (.cell rfl .m4 (.inl ⟨(by rw [Be.fl.len]; exact G4), rfl⟩) .n) ?_
   intro w1 hS
   have hS := (hS.perm (Av.perm (.c .h (.c .h (.c .h .n))))).Ay
   have hq0 : AN.El (A2 V1 ls1 ev1) a = _ := ((AV c3).trans ((AV c4).trans ((AV c5).trans ((AV (show (decide ((AN.at_ (A2 V1 ls1 ev1) a.BL).state = 0) != decide (a.kind = 1)) = false by rw [F7 V1 ls1 ev1 hs.1 hs.2]; exact c6)).trans ((AV c7).trans (BC c8))))))
   have hq : (AN.act (A2 V ls ev) a) = _ := (AN.GP c1 a).trans ((congrArg (fun X => AN.El X a) hX.symm).trans hq0)
   refine ⟨_, ⟨y39, y40, y41, ?gv9, ?ga9, rfl⟩, hS⟩
   case gv9 => rw [hq]; rfl
   case ga9 => rw [hq]; dsimp only; exact (LU hs.1 hs.2 (Ex (V := V1) (ls := ls1) (ev := ev1) hs.1 hs.2 hsv hlv (IH (u := a.bytes) hln.2.1 hln.1 y14 y15)) (.inl ⟨c10, y37⟩) y42)
  have c10p := kz c10
  refine Aa ?_
  refine AB (.t2 0 4) ?_
  refine AA (AJ (Gm rfl ?_))
  refine BF rfl Qw (.c rfl .n) (.c .h (.c .h (.c (.t .h) .n))) (Dj _ (AH.BL V1 a.BL { heard sv a.bytes with Dy := ⟨(Bc.feed (Bc.start sv.Dy sl.queue) (sv.EI.DQ a.bytes).2.1).now, (Bc.feed (Bc.start sv.Dy sl.queue) (sv.EI.DQ a.bytes).2.1).Cd, (Bc.feed (Bc.start sv.Dy sl.queue) (sv.EI.DQ a.bytes).2.1).ret, y15⟩ }) (ls1.put a.BL ⟨(Bc.feed (Bc.start sv.Dy sl.queue) (sv.EI.DQ a.bytes).2.1).queue, sl.wait, sl.told⟩) ev1 0 0 (II hs.1 hs.2 (Ex (V := V1) (ls := ls1) (ev := ev1) hs.1 hs.2 hsv hlv (IH (u := a.bytes) hln.2.1 hln.1 y14 y15)) hF0) (by omega) (by omega)) (fun w hS => ⟨gl0.pull gm0 hS (.c .h (.c .h (.c (.t .h) .n))), gl1.pull gm1 hS (.c .h (.c .h (.c (.t .h) .n))), gl2.pull gm2 hS (.c .h (.c .h (.c (.t .h) .n))), gl3.pull gm3 hS (.c .h (.c .h (.c (.t .h) .n)))⟩) (fun v43 B hv => ?_)
  obtain ⟨y44, y45, y46, rfl, y47, rfl⟩ := hv
  refine AM (AB (.t1 4) ?_)
  refine AU (AA (Gs (Gt (BD MW Jo rfl .nil) ?_)))
  refine AQ (AK (AS.id Be.fl.len Be.fl.one) rfl rfl rfl Ju rfl (.t (.t (.t (.t .h))))) ?_
  refine Gn (.t1 4) (Ac ?_)
  refine AY rfl (.cell rfl .m4 (.inl ⟨(by rw [Be.fl.len]; exact G4), rfl⟩) .n) ?_
  intro w1 hS
  have hS := (hS.perm (Av.perm (.c .h (.c .h (.c .h .n))))).Ay
  have hq0 : AN.El (A2 V1 ls1 ev1) a = _ := ((AV c3).trans ((AV c4).trans ((AV c5).trans ((AV (show (decide ((AN.at_ (A2 V1 ls1 ev1) a.BL).state = 0) != decide (a.kind = 1)) = false by rw [F7 V1 ls1 ev1 hs.1 hs.2]; exact c6)).trans ((AV c7).trans (BC c8))))))
  have hq : (AN.act (A2 V ls ev) a) = _ := (AN.GP c1 a).trans ((congrArg (fun X => AN.El X a) hX.symm).trans hq0)
  refine ⟨_, ⟨y44, y45, y46, ?gv10, ?ga10, rfl⟩, hS⟩
  case gv10 => rw [hq]; rfl
  case ga10 => rw [hq]; dsimp only; exact (LU hs.1 hs.2 (Ex (V := V1) (ls := ls1) (ev := ev1) hs.1 hs.2 hsv hlv (IH (u := a.bytes) hln.2.1 hln.1 y14 y15)) (.inr ⟨c10, rfl⟩) y47)
 have c8p := kz c8
 refine Gs (Gt (Aj rfl rfl) (Ga rfl (Gn (.t6 0 3 4 6 85 140) ?_)))
 refine Gc (fun c11 => ?_) (fun c11 => ?_)
 ·
  have c11p := kz c11
  refine Gs (Ga rfl (Gn (.t4 0 3 4 6) (Ao ?_)))
  refine Eu (k := a.BL) hs.1 hs.2 (fun sv sl hsv hlv hln => ?_)
  refine BE (N := 15) [0, 0, 2, 6, 14, 0, 32, 126, 254, 510, 510, 1023, 3071, 7167, 16383] mix (by kernel_rfl) rfl ?_
  refine Pf 0 rfl (AE rfl) (Pf 1 rfl (AE rfl) (Pf 2 rfl (BS rfl) (Pf 3 rfl (Ah Df rfl) (Pf 4 rfl (AZ rfl Cm .m3 ((AS.BL V1 hs.1 hs.2).comp A0.l4) rfl) (Pf 5 rfl (Ah Vx rfl) (Pf 6 rfl (AF rfl A1 .m7 B4.l2 rfl rfl) ?_))))))
  refine BW 7 rfl rfl (by kernel_rfl) (LH (Ka (Dv bB (.c rfl (.c rfl .n)) (fun w hS => MP _ _ w)))) ?_
  refine Pf 8 rfl (AE rfl) (Pf 9 rfl (AL rfl rfl) (Pf 10 rfl (AL rfl rfl) (Pf 11 rfl (BS rfl) (Pf 12 rfl (Ah Df rfl) ?_))))
  refine An 13 rfl (by kernel_rfl) ?_
  refine AQ (AK ((AS.BL V1 hs.1 hs.2).comp A0.l4) rfl rfl rfl Ez rfl (.t (.t (.t .h)))) ?_
  refine BK rfl ⟨?_, ?_⟩
  · exact (Pk (Pk (Po rfl (AL rfl rfl) rfl rfl (Pk (Pk (Pk (Pk (Pk (Pk (Pk (Pk (Pk (Pk As)))))))))))))
  refine Pf 14 rfl (Az rfl) ?_
  refine A3 (by kernel_rfl) ?_
  refine AB (.t3 0 4 10) ?_
  refine AA (Ao ?_)
  refine D9 (.c .h (.c .h (.c .h (.c .h (.c .h .n))))) ?_
  refine GY hs.1 hs.2 (by rfl) (by rfl) (by rfl) ?_
  refine AJ (Gm rfl ?_)
  refine BF rfl Qw (.c rfl .n) (.c .h (.c .h (.c .h .n))) (Dj _ (AH.BL V1 a.BL { sv with out := ⟨sv.out.wait, sv.out.shown, sv.out.B5, sv.out.ring.drop (max 0 (min a.n (sv.out.ring.length : Int))).toNat, sv.out.cut⟩ }) (ls1.put a.BL ⟨sl.queue, sl.wait, sl.told⟩) ev1 0 0 (by rw [(show A2 (AH.BL V1 a.BL { sv with out := ⟨sv.out.wait, sv.out.shown, sv.out.B5, sv.out.ring.drop (max 0 (min a.n (sv.out.ring.length : Int))).toNat, sv.out.cut⟩ }) (ls1.put a.BL ⟨sl.queue, sl.wait, sl.told⟩) ev1 = AN.set (A2 V1 ls1 ev1) a.BL ((AN.at_ (A2 V1 ls1 ev1) a.BL).LV a.n) from EW hs.1 hs.2 hsv hlv (f := fun x => x.LV a.n) rfl)]; exact hF0.LV hs.1 hs.2 a.n) (by omega) (by omega)) (fun w hS => ⟨gl0.pull gm0 hS (.c .h (.c .h (.c .h .n))), gl1.pull gm1 hS (.c .h (.c .h (.c .h .n))), gl2.pull gm2 hS (.c .h (.c .h (.c .h .n))), gl3.pull gm3 hS (.c .h (.c .h (.c .h .n)))⟩) (fun v48 B hv => ?_)
  obtain ⟨y49, y50, y51, rfl, y52, rfl⟩ := hv
  refine Gn (.t2 4 10) (Gs (Gm rfl (Gt (BD MW Jo rfl (.cons Be.l1 rfl rfl rfl .nil)) ?_)))
  refine AQ (AK (AS.id Be.fl.len Be.fl.one) rfl rfl rfl Ju rfl (.t (.t (.t .h)))) ?_
  refine Gn (.t1 4) (Ac (AP (AD ?_)))
  refine AY rfl (.cell rfl .m3 (.inl ⟨(by rw [Be.fl.len]; exact G4), rfl⟩) .n) ?_
  intro w1 hS
  have hS := (hS.perm (Av.perm (.c .h (.c .h (.c .h .n))))).Ay
  have hq0 : AN.El (A2 V1 ls1 ev1) a = _ := ((AV c3).trans ((AV c4).trans ((AV c5).trans ((AV (show (decide ((AN.at_ (A2 V1 ls1 ev1) a.BL).state = 0) != decide (a.kind = 1)) = false by rw [F7 V1 ls1 ev1 hs.1 hs.2]; exact c6)).trans ((AV c7).trans ((AV c8).trans (BC c11)))))))
  have hq : (AN.act (A2 V ls ev) a) = _ := (AN.GP c1 a).trans ((congrArg (fun X => AN.El X a) hX.symm).trans hq0)
  refine ⟨_, ⟨y49, y50, y51, ?gv11, ?ga11, rfl⟩, hS⟩
  case gv11 => rw [hq]; exact congrArg (fun x => Value.agg (Be.enc ⟨0, x⟩).toArray) (VC V1 ls1 ev1 hs.1 hs.2 hsv a.n)
  case ga11 => rw [hq]; dsimp only; exact y52.trans (congrArg AN.B3 (show A2 (AH.BL V1 a.BL { sv with out := ⟨sv.out.wait, sv.out.shown, sv.out.B5, sv.out.ring.drop (max 0 (min a.n (sv.out.ring.length : Int))).toNat, sv.out.cut⟩ }) (ls1.put a.BL ⟨sl.queue, sl.wait, sl.told⟩) ev1 = AN.set (A2 V1 ls1 ev1) a.BL ((AN.at_ (A2 V1 ls1 ev1) a.BL).LV a.n) from EW hs.1 hs.2 hsv hlv (f := fun x => x.LV a.n) rfl))
 have c11p := kz c11
 refine Gs (Gt (Aj rfl rfl) (Ga rfl (Gn (.t4 0 4 6 159) ?_)))
 refine FL rfl (decide_eq_true (by omega)) ?_
 refine Gs (Gm rfl (Gm rfl ?_))
 refine BF rfl Ys (.c rfl (.c rfl .n)) (.c .h (.c .h (.c .h .n))) (Hl _ V1 ls1 ev1 a.BL 0 0 hs hF0 (by omega) (by omega)) (fun w hS => ⟨gl0.pull gm0 hS (.c .h (.c .h (.c .h .n))), gl1.pull gm1 hS (.c .h (.c .h (.c .h .n))), gl2.pull gm2 hS (.c .h (.c .h (.c .h .n))), gl3.pull gm3 hS (.c .h (.c .h (.c .h .n)))⟩) (fun v53 B hv => ?_)
 obtain ⟨y54, y55, y56, rfl, y57, rfl⟩ := hv
 refine Gn (.t2 0 4) (AJ (Gm rfl ?_))
 refine BF rfl Qw (.c rfl .n) (.c .h (.c .h (.c .h .n))) (Dj _ y54 y55 y56 11 11 (by rw [y57]; exact hF0.leave hs.1 hs.2) (by omega) (by omega)) (fun w hS => ⟨gl0.pull gm0 hS (.c .h (.c .h (.c .h .n))), gl1.pull gm1 hS (.c .h (.c .h (.c .h .n))), gl2.pull gm2 hS (.c .h (.c .h (.c .h .n))), gl3.pull gm3 hS (.c .h (.c .h (.c .h .n)))⟩) (fun v58 B hv => ?_)
 obtain ⟨y59, y60, y61, rfl, y62, rfl⟩ := hv
 refine AM (AB (.t1 4) ?_)
 refine AU (AA (Gs (Gt (BD MW Jo rfl .nil) ?_)))
 refine AQ (AK (AS.id Be.fl.len Be.fl.one) rfl rfl rfl Ju rfl (.t (.t (.t .h)))) ?_
 refine Gn (.t1 4) (Ac ?_)
 refine AY rfl (.cell rfl .m3 (.inl ⟨(by rw [Be.fl.len]; exact G4), rfl⟩) .n) ?_
 intro w1 hS
 have hS := (hS.perm (Av.perm (.c .h (.c .h (.c .h .n))))).Ay
 have hq0 : AN.El (A2 V1 ls1 ev1) a = _ := ((AV c3).trans ((AV c4).trans ((AV c5).trans ((AV (show (decide ((AN.at_ (A2 V1 ls1 ev1) a.BL).state = 0) != decide (a.kind = 1)) = false by rw [F7 V1 ls1 ev1 hs.1 hs.2]; exact c6)).trans ((AV c7).trans ((AV c8).trans (AV c11)))))))
 have hq : (AN.act (A2 V ls ev) a) = _ := (AN.GP c1 a).trans ((congrArg (fun X => AN.El X a) hX.symm).trans hq0)
 refine ⟨_, ⟨y59, y60, y61, ?gv12, ?ga12, rfl⟩, hS⟩
 case gv12 => rw [hq]; rfl
 case ga12 => rw [hq]; dsimp only; exact y62.trans (congrArg AN.B3 y57)
theorem Hm (b : Nat) (V : AH) (i : Int) (hi : 0 ≤ i ∧ i < 4) : Ic Tryz.prog 21 #[.pointer (some ⟨b, 0, none⟩), .int .i64 i] [Ab.box b 101 (AH.enc V)] (fun v B => v = .tuple #[.int .i64 (Ei (V.Ap.at i)).1, .int .i64 (Ei (V.Ap.at i)).2] ∧ B = [Ab.box b 101 (AH.enc V)]) := by
 intro w hS0
 refine Ai _ _ Tryz.func21 rfl rfl rfl (hS0) ?_
 refine Gs (Ga rfl (Ga rfl (Gn (.t2 0 1) (CB (Gm rfl (Gt (Dl Tryz.underlying37 rfl) (Gm rfl ?_)))))))
 refine Cc (t := 8) rfl rfl rfl (AE rfl) ?_
 refine Cc (t := 8) rfl rfl rfl (A5 rfl rfl) ?_
 refine Gt (CX rfl rfl) (Gm rfl (BZ 12 rfl rfl (fun q => AE rfl) (BZ 12 rfl rfl (fun q => CI (cF rfl q) rfl) ?_)))
 refine Gt (BR rfl rfl (fun h => by rw [h]; rfl)) ?_
 refine Gm rfl (BZ 16 rfl rfl (fun q => AE rfl) (BZ 16 rfl rfl (fun q => AE rfl) (BZ 16 rfl rfl (fun q => BS (cF rfl q)) (BZ 16 rfl rfl (fun q => Ah FV (cF rfl q)) ?_))))
 refine BZ 16 rfl rfl (fun q => by have q1 := q; (try simp at q1); exact AR N4 (cF rfl q) (cF rfl q) (by first | omega | exact hi.1 | exact hi.2) (by first | omega | exact hi.1 | exact hi.2)) ?_
 refine BZ 16 rfl rfl (fun q => Ah Ik (cF rfl q)) ?_
 refine BZ 16 rfl rfl (fun q => by have q1 := q; (try simp at q1); exact AF (cF rfl q) A1 .m0 ((AH.l1.comp (AS.ar (n := 4) A0.fl (by first | omega | exact hi))).comp A0.l0) rfl rfl) ?_
 refine BZ 16 rfl rfl (fun q => CT (cF rfl q) rfl) ?_
 refine Gt (BR rfl rfl (fun h => by rw [h]; rfl)) ?_
 refine Gn (.t3 0 1 25) ?_
 refine Gc (fun c1 => ?_) (fun c1 => ?_)
 ·
  have c1p := kz c1
  refine CB (Gm rfl (Gt (Dl Tryz.underlying37 rfl) (Gm rfl ?_)))
  refine Cc (t := 28) rfl rfl rfl (AE rfl) ?_
  refine Cc (t := 28) rfl rfl rfl (A5 rfl rfl) ?_
  refine Gt (CX rfl rfl) (Gm rfl (BZ 32 rfl rfl (fun q => AE rfl) (BZ 32 rfl rfl (fun q => CI (cF rfl q) rfl) ?_)))
  refine Gt (BR rfl rfl (fun h => by rw [h]; rfl)) ?_
  refine Gn (.t3 0 1 35) ?_
  refine Da rfl (by rw [Bool.or_eq_false_iff, decide_eq_false_iff_not, decide_eq_false_iff_not]; omega) ?_
  refine Aa ?_
  refine AB (.t2 0 1) ?_
  refine AA (Gs (Gm rfl (Gm rfl (Gt (BS rfl) (Gt (Ah FV rfl) ?_)))))
  refine Gt (AR N4 rfl rfl (by first | omega | exact hi.1 | exact hi.2) (by first | omega | exact hi.1 | exact hi.2)) ?_
  refine Gt (Ah Ik rfl) ?_
  refine Gt (AF rfl A1 .m0 ((AH.l1.comp (AS.ar (n := 4) A0.fl (by first | omega | exact hi))).comp A0.l0) rfl rfl) ?_
  refine Ga rfl (Ga rfl (Gn (.t2 4 5) (Ac (AD ?_))))
  refine AY rfl (.tmp rfl (.tmp rfl .n)) ?_
  intro w1 hS
  have hS := (hS.perm (Av.perm (.c .h .n))).Ay
  have hq : Ei (V.Ap.at i) = _ := if_neg (by rw [decide_eq_true_eq]; rcases c1p with (h | h) | h <;> first | omega | exact h)
  refine ⟨_, ⟨?gv1, rfl⟩, hS⟩
  case gv1 => rw [hq]; rfl
 have c1p := kz c1
 refine Aa ?_
 refine AB (.t2 0 1) ?_
 refine AA (Ao ?_)
 refine BE (N := 9) [0, 0, 1, 5, 15, 31, 63, 0, 255] mix (by kernel_rfl) rfl ?_
 refine Pf 0 rfl (AE rfl) (Pf 1 rfl (AE rfl) (Pf 2 rfl (BS rfl) (Pf 3 rfl (Ah FV rfl) ?_)))
 refine Pf 4 rfl (AR N4 rfl rfl (by first | omega | exact hi.1 | exact hi.2) (by first | omega | exact hi.1 | exact hi.2)) ?_
 refine Pf 5 rfl (Ah Ho rfl) ?_
 refine Pf 6 rfl (AF rfl A1 .m0 ((AH.l1.comp (AS.ar (n := 4) A0.fl (by first | omega | exact hi))).comp A0.l1) rfl rfl) ?_
 refine Pf 7 rfl (Az rfl) (Pf 8 rfl (Az rfl) ?_)
 refine A3 (by kernel_rfl) ?_
 refine AB (.t2 4 5) ?_
 refine AA (Ac ?_)
 refine AY rfl (.tmp rfl (.tmp rfl .n)) ?_
 intro w1 hS
 have hS := (hS.perm (Av.perm (.c .h .n))).Ay
 have hq : Ei (V.Ap.at i) = _ := if_pos (decide_eq_true c1p.2)
 refine ⟨_, ⟨?gv2, rfl⟩, hS⟩
 case gv2 => rw [hq]; rfl
theorem IZ (b : Nat) (V : AH) (ls : Vector BG 4) (i : Int) (hi : 0 ≤ i ∧ i < 4) (hl : (ls.at i).wait.length ≤ 1000000) : Ic Tryz.prog 28 #[.pointer (some ⟨b, 0, none⟩), .int .i64 i] [Ab.box b 101 (AH.enc V), Ab.C3 (Bt 9 (AH.Ap V) ls)] (fun v B => ∃ h' : Hd, v = .agg (Ar.enc ⟨h', (V.Ap.at i).out.shown, (V.Ap.at i).out.B5, (V.Ap.at i).out.ring, (V.Ap.at i).out.cut⟩).toArray ∧ h'.len = (ls.at i).wait.length ∧ B = [Ab.box b 101 (AH.enc V), Ab.C3 (Bt 9 (AH.Ap V) ls), Ab.own h' 9 1 ((ls.at i).wait.flatMap A4)]) := by
 intro w hS0
 refine Ai _ _ Tryz.func28 rfl rfl rfl (hS0) ?_
 refine Gs ?_
 refine BB rfl Qf rfl (fun b1 => ?_)
 refine AM (AA (CB (Gm rfl (Gt (Dl Tryz.underlying37 rfl) (Gm rfl ?_)))))
 refine Cc (t := 8) rfl rfl rfl (AE rfl) ?_
 refine Cc (t := 8) rfl rfl rfl (A5 rfl rfl) ?_
 refine Gt (CX rfl rfl) (Gm rfl (BZ 12 rfl rfl (fun q => AE rfl) (BZ 12 rfl rfl (fun q => CI (cF rfl q) rfl) ?_)))
 refine Gt (BR rfl rfl (fun h => by rw [h]; rfl)) ?_
 refine Gn (.t4 0 1 4 15) ?_
 refine Da rfl (by rw [Bool.or_eq_false_iff, decide_eq_false_iff_not, decide_eq_false_iff_not]; omega) ?_
 refine Aa ?_
 refine AB (.t3 0 1 4) ?_
 refine AA (Ao ?_)
 refine D9 (.c (.t .h) (.c (.t .h) .n)) ?_
 refine Eu (k := i) hi.1 hi.2 (fun sv sl hsv hlv hln => ?_)
 have hl2 := hl
 rw [hlv] at hl2
 refine AJ (Gm rfl (Gm rfl (Gt (BS rfl) (Gt (Ah FV rfl) ?_))))
 refine Gt (AR N4 rfl rfl (by first | omega | exact hi.1 | exact hi.2) (by first | omega | exact hi.1 | exact hi.2)) ?_
 refine Gt (Ah Df rfl) (Gt (AZ rfl Cm .m3 ((AS.BL V hi.1 hi.2).comp A0.l4) rfl) ?_)
 refine BB rfl Qf rfl (fun b2 => ?_)
 refine AQ (AK (AS.id Ar.fl.len Ar.fl.one) rfl rfl rfl Ez rfl .h) ?_
 refine Gn (.t2 4 5) (Gs (Gt (Ah FO rfl) (Gt (AF rfl Du .m0 Ar.l0 rfl rfl) ?_)))
 refine DC A4 9 1 ?_
 refine G2 (e := A4) rfl Tryz.underlying52 EM Qe rfl WS (by decide) rfl rfl (fun w hS => Src.De Tryz.underlying52 ((Kn.own .m3) w hS)) rfl rfl (by omega) (fun _ => .h) (fun h1 h1l => ?_)
 refine Gt (Ah FO rfl) ?_
 refine AQ (AK Ar.l0 rfl rfl rfl Lj rfl (.t .h)) ?_
 refine Gn (.t2 4 5) (Gs (Gt (AZ rfl Cm .m1 (AS.id Ar.fl.len Ar.fl.one) rfl) ?_))
 refine AQ (AK (AS.id Ar.fl.len Ar.fl.one) rfl rfl rfl Ez rfl (.t (.t (.t (.t (.t (.t (.t .h)))))))) ?_
 refine Gn (.t1 4) (Ac ?_)
 refine AY rfl (.cell rfl .m7 (.inl ⟨(by rw [Ar.fl.len]; exact Cm), rfl⟩) .n) ?_
 intro w1 hS
 have hS := (hS.perm (Av.perm (.c (.t (.t .h)) (.c (.t (.t .h)) (.c (.t (.t .h)) (.c (.t (.t .h)) (.c (.t (.t .h)) (.c .h .n)))))))).Ay
 have e1 : V.BL i sv = V := by rw [← hsv]; exact V.Jb hi.1 hi.2
 have e2 : ls.put i ⟨sl.queue, sl.wait, sl.told⟩ = ls := by rw [← hlv]; exact Vector.LG ls hi.1 hi.2
 have hS := St.close' (s := sv) (qs := sl.queue) (ws := sl.wait) (ts := sl.told) hi.1 hi.2 rfl rfl rfl hS
 rw [e1, e2] at hS
 try rw [hsv]
 rw [hlv]
 refine ⟨_, ⟨_, rfl, ?gl, rfl⟩, hS⟩
 case gl => (try simp only [List.length_append, List.length_nil] at *); omega
theorem Gw {t0 t1 : Nat} (f g : Hd) (xs ys : List Au) (hx : xs.length ≤ 9223372036854775807) (w : World) (r0 : Rd w f t0 1 (xs.flatMap A4)) (r1 : Rd w g t1 1 (ys.flatMap A4)) : EG Tryz.prog 26 #[f.val, g.val] w fun v w' => v = .bool (decide (xs = ys)) ∧ B6 w w' := by
 have hf := r0.KV DB (by decide)
 have hg := r1.KV DB (by decide)
 refine Ai [] [] Tryz.func26 rfl rfl rfl (St.start w []) ?_
 refine Gs (Ga rfl (Gn (.t2 0 1) (CB (Gm rfl (Gt (Aq rfl Tryz.underlying52 rfl) (Gm rfl (Gt (Aq rfl Tryz.underlying52 rfl) ?_)))))))
 refine Gt (CT rfl rfl) (Gn (.t3 0 1 10) ?_)
 refine Gc (fun c1 => ?_) (fun c1 => ?_)
 ·
  have c1p := kz c1
  refine Gs (Ga rfl (Gn (.t1 4) (Ac (AD ?_))))
  refine AY rfl (.tmp rfl .n) ?_
  intro w1 hS; refine ⟨congrArg Value.bool ?_, hS.Am⟩; have : xs ≠ ys := fun e => by subst e; simp at c1; omega
  simp [this]
 have c1p := kz c1
 refine Aa ?_
 refine AB (.t2 0 1) ?_
 refine AA (CB (Ga rfl (AM (AA (Ae ?_)))))
 refine Bf (.t3 5 0 1) ?_
 refine CJ (fun (i : Int) => 0 ≤ i ∧ i ≤ xs.length ∧ xs.length = ys.length ∧ xs.take i.toNat = ys.take i.toNat) (fun (i : Int) => ((xs.length : Int) - i).toNat) (fun (i : Int) => [(5, .int .i64 i)]) (fun (i : Int) => []) (0) ?_ rfl rfl (fun i hI1 => ?_)
 · exact ⟨by omega, by omega, by simp at c1; omega, rfl⟩
 obtain ⟨hI11, hI12, hI13, hI14⟩ := hI1
 refine CB (Gm rfl (Gm rfl (Gt (Aq rfl Tryz.underlying52 rfl) (Gt (A5 rfl rfl) (Gn (.t4 0 1 5 14) ?_)))))
 refine Gc (fun c2 => ?_) (fun c2 => ?_)
 ·
  have c2p := kz c2
  refine Aa ?_
  refine AB (.t3 0 1 5) ?_
  refine AA (Ao (Ae (Ao ?_)))
  refine BE (N := 9) [0, 0, 3, 7, 0, 0, 48, 112, 255] mix (by kernel_rfl) rfl ?_
  refine Pf 0 rfl (AE rfl) (Pf 1 rfl (AE rfl) ?_)
  refine Pf 2 rfl (Bg Gu (by decide) (Kn.Gx r0) rfl rfl (by omega) (by omega)) ?_
  refine Pf 3 rfl (C9 rfl CC (Kn.Gx r0) (by omega)) ?_
  refine Pf 4 rfl (AE rfl) (Pf 5 rfl (AE rfl) ?_)
  refine Pf 6 rfl (Bg Gu (by decide) (Kn.Gx r1) rfl rfl (by omega) (by omega)) ?_
  refine Pf 7 rfl (C9 rfl CC (Kn.Gx r1) (by omega)) ?_
  refine Pf 8 rfl (DZ rfl rfl) ?_
  refine A3 (by kernel_rfl) ?_
  refine AB (.t4 0 1 5 25) ?_
  refine AA ?_
  refine Gc (fun c3 => ?_) (fun c3 => ?_)
  ·
   refine Gs (Ga rfl (Gn (.t1 4) (Ac (AP (AD (AD (AP ?_)))))))
   refine AD ?_
   refine AY rfl (.tmp rfl .n) ?_
   intro w1 hS; refine ⟨congrArg Value.bool ?_, hS.Am⟩; have := Bc.Sb (d := []) (xs := xs) (ys := ys) (i := i.toNat) (by simpa using c3)
   simp [this]
  have c3p := kz c3
  refine Aa ?_
  refine AB (.t3 0 1 5) ?_
  refine AU (AA (AJ (Gm rfl ?_)))
  refine Gt (Aw rfl rfl (IntWalk.i64_in _ (by omega))) ?_
  refine Ga rfl ?_
  refine AM (AB (.t3 0 1 5) ?_)
  refine Bx (i + 1) ?_ ?_ (.t3 5 0 1) (.refl _)
  · exact ⟨by omega, by omega, hI13, Bc.Jc (d := []) hI11 hI13 (by omega) hI14 (by simpa using c3)⟩
  · omega
 have c2p := kz c2
 refine BV (AT (AT (Af ?_)))
 refine AB (.nil _) ?_
 refine AA (Gs (Ga rfl (AM (AA (Ac ?_)))))
 refine AY rfl (.tmp rfl .n) ?_
 intro w1 hS; refine ⟨congrArg Value.bool ?_, hS.Am⟩; have := Bc.Z4 (xs := xs) (ys := ys) hI13 hI14 (by omega)
 simp [this]
theorem K8 {t0 t1 : Nat} (x y : Ar) (xs ys : List Au) (hx : xs.length ≤ 9223372036854775807) (w : World) (r0 : Rd w x.wait t0 1 (xs.flatMap A4)) (r1 : Rd w y.wait t1 1 (ys.flatMap A4)) : EG Tryz.prog 39 #[.agg x.enc.toArray, .agg y.enc.toArray] w fun v w' => v = .bool (decide (xs = ys) && decide (x.shown = y.shown) && (x.B5 == y.B5) && decide (x.ring = y.ring) && (x.cut == y.cut)) ∧ B6 w w' := by
 refine Ai [] [] Tryz.func39 rfl rfl rfl (St.start w []) ?_
 refine Gs ?_
 refine Bw rfl rfl rfl (fun b1 => ?_)
 refine Bw rfl rfl rfl (fun b2 => ?_)
 refine Ga rfl (Gn (.t2 2 3) (Gs (Gt (Ah FO rfl) (Gt (AF rfl Du .m1 Ar.l0 rfl rfl) (Gt (Ah FO rfl) (Gt (AF rfl Du .m0 Ar.l0 rfl rfl) ?_))))))
 refine A8 rfl ZZ (.c rfl (.c rfl .n)) (fun w hS => Gw _ _ _ _ (by first | assumption | omega) w ((Kn.Gx r0) w hS) ((Kn.Gx r1) w hS)) ?_
 refine Gm rfl (Ba 10 rfl rfl (fun q => Ah JJ rfl) (Ba 10 rfl rfl (fun q => AF (BX rfl q) A1 .m1 Ar.l1 rfl rfl) (Ba 10 rfl rfl (fun q => Ah JJ rfl) (Ba 10 rfl rfl (fun q => AF (BX rfl q) A1 .m0 Ar.l1 rfl rfl) (Ba 10 rfl rfl (fun q => Aj (BX rfl q) (BX rfl q)) (Gt (BH rfl rfl (fun h => h)) (Gm rfl ?_)))))))
 refine Ba 17 rfl rfl (fun q => Ah Lb rfl) (Ba 17 rfl rfl (fun q => AF (BX rfl q) Ct .m1 Ar.l2 rfl rfl) (Ba 17 rfl rfl (fun q => Ah Lb rfl) (Ba 17 rfl rfl (fun q => AF (BX rfl q) Ct .m0 Ar.l2 rfl rfl) (Ba 17 rfl rfl (fun q => EV Tryz.underlying4 (BX rfl q) (BX rfl q)) (Gt (BH rfl rfl (fun h => h)) (Gm rfl (Ba 24 rfl rfl (fun q => Ah Hs rfl) ?_)))))))
 refine Ba 24 rfl rfl (fun q => AF (BX rfl q) CC .m1 Ar.l3 rfl rfl) (Ba 24 rfl rfl (fun q => Ah Hs rfl) (Ba 24 rfl rfl (fun q => AF (BX rfl q) CC .m0 Ar.l3 rfl rfl) (Ba 24 rfl rfl (fun q => Bo (BX rfl q) (BX rfl q)) (Gt (BH rfl rfl (fun h => h)) (Gm rfl (Ba 31 rfl rfl (fun q => Ah Ih rfl) (Ba 31 rfl rfl (fun q => AF (BX rfl q) Ct .m1 Ar.l4 rfl rfl) ?_)))))))
 refine Ba 31 rfl rfl (fun q => Ah Ih rfl) (Ba 31 rfl rfl (fun q => AF (BX rfl q) Ct .m0 Ar.l4 rfl rfl) (Ba 31 rfl rfl (fun q => EV Tryz.underlying4 (BX rfl q) (BX rfl q)) (Gt (BH rfl rfl (fun h => h)) (Ga rfl (Gn (.t1 4) (Ac ?_))))))
 refine AY rfl (.tmp rfl .n) ?_
 intro w1 hS; refine ⟨?_, hS.Am⟩; rfl
theorem Ig (b : Nat) (V : AH) (ls : Vector BG 4) (i : Int) (hi : 0 ≤ i ∧ i < 4) (hl : (ls.at i).queue.length ≤ 1000000) : Ic Tryz.prog 32 #[.pointer (some ⟨b, 0, none⟩), .int .i64 i] [Ab.box b 101 (AH.enc V), Ab.C3 (Bt 9 (AH.Ap V) ls)] (fun v B => ∃ h' : Hd, v = .agg (A9.enc ⟨(V.Ap.at i).Dy.now, (V.Ap.at i).Dy.Cd, (V.Ap.at i).Dy.ret, h'⟩).toArray ∧ h'.len = (ls.at i).queue.length ∧ B = [Ab.box b 101 (AH.enc V), Ab.C3 (Bt 9 (AH.Ap V) ls), Ab.own h' 9 1 ((ls.at i).queue.flatMap A4)]) := by
 intro w hS0
 refine Ai _ _ Tryz.func32 rfl rfl rfl (hS0) ?_
 refine Gs ?_
 refine BB rfl WQ rfl (fun b1 => ?_)
 refine AM (AA (CB (Gm rfl (Gt (Dl Tryz.underlying37 rfl) (Gm rfl ?_)))))
 refine Cc (t := 8) rfl rfl rfl (AE rfl) ?_
 refine Cc (t := 8) rfl rfl rfl (A5 rfl rfl) ?_
 refine Gt (CX rfl rfl) (Gm rfl (BZ 12 rfl rfl (fun q => AE rfl) (BZ 12 rfl rfl (fun q => CI (cF rfl q) rfl) ?_)))
 refine Gt (BR rfl rfl (fun h => by rw [h]; rfl)) ?_
 refine Gn (.t4 0 1 4 15) ?_
 refine Da rfl (by rw [Bool.or_eq_false_iff, decide_eq_false_iff_not, decide_eq_false_iff_not]; omega) ?_
 refine Aa ?_
 refine AB (.t3 0 1 4) ?_
 refine AA (Ao ?_)
 refine D9 (.c (.t .h) (.c (.t .h) .n)) ?_
 refine Eu (k := i) hi.1 hi.2 (fun sv sl hsv hlv hln => ?_)
 have hl2 := hl
 rw [hlv] at hl2
 refine AJ (Gm rfl (Gm rfl (Gt (BS rfl) (Gt (Ah FV rfl) ?_))))
 refine Gt (AR N4 rfl rfl (by first | omega | exact hi.1 | exact hi.2) (by first | omega | exact hi.1 | exact hi.2)) ?_
 refine Gt (Ah Kd rfl) (Gt (AZ rfl HV .m3 ((AS.BL V hi.1 hi.2).comp A0.l3) rfl) ?_)
 refine BB rfl WQ rfl (fun b2 => ?_)
 refine AQ (AK (AS.id A9.fl.len A9.fl.one) rfl rfl rfl Ko rfl .h) ?_
 refine Gn (.t2 4 5) (Gs (Gt (Ah D6 rfl) (Gt (AF rfl Du .m0 A9.l3 rfl rfl) ?_)))
 refine DC A4 9 1 ?_
 refine G2 (e := A4) rfl Tryz.underlying52 EM Qe rfl WS (by decide) rfl rfl (fun w hS => Src.De Tryz.underlying52 ((Kn.own .m2) w hS)) rfl rfl (by omega) (fun _ => .h) (fun h1 h1l => ?_)
 refine Gt (Ah D6 rfl) ?_
 refine AQ (AK A9.l3 rfl rfl rfl Lj rfl (.t .h)) ?_
 refine Gn (.t2 4 5) (Gs (Gt (AZ rfl HV .m1 (AS.id A9.fl.len A9.fl.one) rfl) ?_))
 refine AQ (AK (AS.id A9.fl.len A9.fl.one) rfl rfl rfl Ko rfl (.t (.t (.t (.t (.t (.t (.t .h)))))))) ?_
 refine Gn (.t1 4) (Ac ?_)
 refine AY rfl (.cell rfl .m7 (.inl ⟨(by rw [A9.fl.len]; exact HV), rfl⟩) .n) ?_
 intro w1 hS
 have hS := (hS.perm (Av.perm (.c (.t (.t .h)) (.c (.t (.t .h)) (.c (.t (.t .h)) (.c (.t (.t .h)) (.c (.t (.t .h)) (.c .h .n)))))))).Ay
 have e1 : V.BL i sv = V := by rw [← hsv]; exact V.Jb hi.1 hi.2
 have e2 : ls.put i ⟨sl.queue, sl.wait, sl.told⟩ = ls := by rw [← hlv]; exact Vector.LG ls hi.1 hi.2
 have hS := St.close' (s := sv) (qs := sl.queue) (ws := sl.wait) (ts := sl.told) hi.1 hi.2 rfl rfl rfl hS
 rw [e1, e2] at hS
 try rw [hsv]
 rw [hlv]
 refine ⟨_, ⟨_, rfl, ?gl, rfl⟩, hS⟩
 case gl => (try simp only [List.length_append, List.length_nil] at *); omega
theorem Kw {t0 t1 : Nat} (x y : A9) (xs ys : List Au) (hx : xs.length ≤ 9223372036854775807) (w : World) (r0 : Rd w x.queue t0 1 (xs.flatMap A4)) (r1 : Rd w y.queue t1 1 (ys.flatMap A4)) : EG Tryz.prog 40 #[.agg x.enc.toArray, .agg y.enc.toArray] w fun v w' => v = .bool (decide (x.now = y.now) && (x.Cd == y.Cd) && (x.ret == y.ret) && decide (xs = ys)) ∧ B6 w w' := by
 refine Ai [] [] Tryz.func40 rfl rfl rfl (St.start w []) ?_
 refine Gs ?_
 refine Bw rfl rfl rfl (fun b1 => ?_)
 refine Bw rfl rfl rfl (fun b2 => ?_)
 refine Ga rfl (Gn (.t2 2 3) (Gs (Gt (Ah Hn rfl) (Gt (AF rfl CC .m1 A9.l0 rfl rfl) (Gt (Ah Hn rfl) (Gt (AF rfl CC .m0 A9.l0 rfl rfl) (Gt (Bo rfl rfl) ?_)))))))
 refine Gm rfl (Ba 10 rfl rfl (fun q => Ah J6 rfl) (Ba 10 rfl rfl (fun q => AF (BX rfl q) Ct .m1 A9.l1 rfl rfl) (Ba 10 rfl rfl (fun q => Ah J6 rfl) (Ba 10 rfl rfl (fun q => AF (BX rfl q) Ct .m0 A9.l1 rfl rfl) (Ba 10 rfl rfl (fun q => EV Tryz.underlying4 (BX rfl q) (BX rfl q)) (Gt (BH rfl rfl (fun h => h)) (Gm rfl ?_)))))))
 refine Ba 17 rfl rfl (fun q => Ah KA rfl) (Ba 17 rfl rfl (fun q => AF (BX rfl q) Ct .m1 A9.l2 rfl rfl) (Ba 17 rfl rfl (fun q => Ah KA rfl) (Ba 17 rfl rfl (fun q => AF (BX rfl q) Ct .m0 A9.l2 rfl rfl) (Ba 17 rfl rfl (fun q => EV Tryz.underlying4 (BX rfl q) (BX rfl q)) (Gt (BH rfl rfl (fun h => h)) (Gm rfl (Ba 24 rfl rfl (fun q => Ah D6 rfl) ?_)))))))
 refine Ba 24 rfl rfl (fun q => AF (BX rfl q) Du .m1 A9.l3 rfl rfl) (Ba 24 rfl rfl (fun q => Ah D6 rfl) (Ba 24 rfl rfl (fun q => AF (BX rfl q) Du .m0 A9.l3 rfl rfl) ?_))
 refine KE (t := 24) rfl rfl rfl (fun q => by have q1 := q; (try simp at q1); exact Dv ZZ (.c (BX rfl q) (.c (BX rfl q) .n)) (fun w hS => Gw _ _ _ _ (by first | assumption | omega) w ((Kn.Gx r0) w hS) ((Kn.Gx r1) w hS))) ?_
 refine Gt (BH rfl rfl (fun h => h)) (Ga rfl (Gn (.t1 4) (Ac ?_)))
 refine AY rfl (.tmp rfl .n) ?_
 intro w1 hS; refine ⟨?_, hS.Am⟩; rfl
theorem K9 (b : Nat) (V : AH) : Ic Tryz.prog 18 #[.pointer (some ⟨b, 0, none⟩)] [Ab.box b 101 (AH.enc V)] (fun v B => v = .agg (AI.enc V.w).toArray ∧ B = [Ab.box b 101 (AH.enc V)]) := by
 intro w hS0
 refine Ai _ _ Tryz.func18 rfl rfl rfl (hS0) ?_
 refine Gs ?_
 refine BB rfl LX rfl (fun b1 => ?_)
 refine AM (AA (CB (Gm rfl (Gt (Dl Tryz.underlying37 rfl) (Gn (.t3 0 2 4) ?_)))))
 refine Da rfl rfl ?_
 refine Aa ?_
 refine AB (.t2 0 2) ?_
 refine AA (Gs (Gm rfl (Gt (BS rfl) (Gt (Ah Dx rfl) (Gt (AZ rfl BT .m1 AH.l0 rfl) ?_)))))
 refine AQ (AK (AS.id AI.fl.len AI.fl.one) rfl rfl rfl Dw rfl .h) ?_
 refine Gn (.t1 2) (Ac ?_)
 refine AY rfl (.cell rfl .m0 (.inl ⟨(by rw [AI.fl.len]; exact BT), rfl⟩) .n) ?_
 intro w1 hS
 have hS := (hS.perm (Av.perm (.c (.t .h) .n))).Ay
 exact ⟨_, ⟨rfl, rfl⟩, hS⟩
theorem OR (b : Nat) (V : AH) (ls : Vector BG 4) (ev : List Ing.Event) (c : Nat) (W : AH) (ms : Vector BG 4) (fv : List Ing.Event) (hA : (A2 V ls ev).Live) (hB : (A2 W ms fv).Live) : Ic Tryz.prog 47 #[.pointer (some ⟨b, 0, none⟩), .pointer (some ⟨c, 0, none⟩)] [Ab.box b 101 (AH.enc V), Ab.C3 (Bt 9 (AH.Ap V) ls), Ab.box c 101 (AH.enc W), Ab.C3 (Bt 9 (AH.Ap W) ms)] (fun v B => v = .bool (AN.same (A2 V ls ev) (A2 W ms fv)) ∧ B = [Ab.box b 101 (AH.enc V), Ab.C3 (Bt 9 (AH.Ap V) ls), Ab.box c 101 (AH.enc W), Ab.C3 (Bt 9 (AH.Ap W) ms)]) := by
 intro w hS0
 refine Ai _ _ Tryz.func47 rfl rfl rfl (hS0) ?_
 refine Gs (Ga rfl (Gn (.t2 0 1) (CB (Gm rfl (AM (AA (Ae ?_)))))))
 refine Bf (.t3 10 0 1) ?_
 refine CJ (fun (i : Int) => 0 ≤ i ∧ i ≤ 4 ∧ AN.same (A2 V ls ev) (A2 W ms fv) = (CA 4 (AN.sameAt (A2 V ls ev) (A2 W ms fv)) (4 - i).toNat && decide (V.w = W.w))) (fun (i : Int) => (4 - i).toNat) (fun (i : Int) => [(10, .int .i64 i)]) (fun (i : Int) => []) (0) ?_ rfl rfl (fun i hI1 => ?_)
 · exact ⟨by omega, by omega, rfl⟩
 obtain ⟨hI11, hI12, hI13⟩ := hI1
 refine Gs (Gt (A5 rfl rfl) (AM (AA (Ao ?_))))
 refine Gc (fun c1 => ?_) (fun c1 => ?_)
 ·
  have c1p := kz c1
  have hi : 0 ≤ i ∧ i < 4 := ⟨by omega, by omega⟩
  rw [C6 _ (by omega)] at hI13
  refine Aa ?_
  refine AB (.t3 0 1 10) ?_
  refine AA (Ao (Ae (Gs (Gm rfl (Ga rfl (Gn (.t4 0 1 5 10) (Gs ?_)))))))
  refine Gm rfl (Gm rfl ?_)
  refine Ag rfl Y9 (.c rfl (.c rfl .n)) (.c .h .n) (Hm b V i hi) (fun v1 B hv => ?_)
  obtain ⟨rfl, rfl⟩ := hv
  refine Gm rfl (Gt (AL rfl rfl) (Gt (AL rfl rfl) (Ga rfl (Ga rfl (Gn (.t6 0 1 5 6 7 10) (Gs (Gm rfl ?_)))))))
  refine Gm rfl ?_
  refine Ag rfl Y9 (.c rfl (.c rfl .n)) (.c (.t (.t .h)) .n) (Hm c W i hi) (fun v2 B hv => ?_)
  obtain ⟨rfl, rfl⟩ := hv
  refine Gm rfl (Gt (AL rfl rfl) (Gt (AL rfl rfl) (Ga rfl (Ga rfl (Gn (.t8 0 1 5 6 7 8 9 10) (Gs (Gm rfl ?_)))))))
  refine Gm rfl (Gt (CT rfl rfl) (Gm rfl (BZ 28 rfl rfl (fun q => AE rfl) (BZ 28 rfl rfl (fun q => AE rfl) (BZ 28 rfl rfl (fun q => CT (cF rfl q) (cF rfl q)) ?_)))))
  refine Gt (BR rfl rfl (fun h => by rw [h]; rfl)) ?_
  refine Gm rfl (BZ 33 rfl rfl (fun q => AE rfl) (BZ 33 rfl rfl (fun q => AE rfl) ?_))
  refine Mj 33 rfl (fun c2 => ?_) (fun c2 => ?_)
  ·
   refine Bs (t := 33) rfl rfl rfl rfl ?_
   refine Bs (t := 33) rfl rfl rfl rfl ?_
   refine Bs (t := 33) rfl rfl rfl rfl ?_
   refine Bs (t := 33) rfl rfl rfl rfl ?_
   refine Bs (t := 33) rfl rfl rfl rfl ?_
   refine Bs (t := 33) rfl rfl rfl rfl ?_
   refine Gt (Ck rfl rfl) (Gm rfl ?_)
   refine Bs (t := 43) rfl rfl rfl rfl ?_
   refine Bs (t := 43) rfl rfl rfl rfl ?_
   refine Bs (t := 43) rfl rfl rfl rfl ?_
   refine Bs (t := 43) rfl rfl rfl rfl ?_
   refine Bs (t := 43) rfl rfl rfl rfl ?_
   refine Bs (t := 43) rfl rfl rfl rfl ?_
   refine Bs (t := 43) rfl rfl rfl rfl ?_
   refine Bs (t := 43) rfl rfl rfl rfl ?_
   refine Gt (Ck rfl rfl) (Gn (.t4 0 1 10 52) ?_)
   refine FL rfl rfl ?_
   refine Gs (Ga rfl (Gn (.t1 4) (Ac (AP (AD (AD (AP ?_)))))))
   refine AD ?_
   refine AY rfl (.tmp rfl .n) ?_
   intro w1 hS
   have hS := (hS.perm (Av.perm (.c (.t .h) (.c (.t .h) (.c .h (.c .h .n)))))).Ay
   refine ⟨_, ⟨?gv1, rfl⟩, hS⟩
   case gv1 => exact congrArg Value.bool (by rw [hI13]; simp only [Jj hi.1 hi.2, c1, c2, ↓reduceIte, Bool.false_eq_true, Bool.true_or, Bool.or_true, Bool.false_or, Bool.or_false, Bool.not_true, Bool.not_false, Bool.false_and])
  have c2p := kz c2
  refine Fe (t := 33) rfl (by first | rfl | exact X3 rfl c2) rfl YS (.c (BX rfl (by rw [c2]; rfl)) (.c (BX rfl (by rw [c2]; rfl)) .n)) (.c (.t .h) (.c (.t .h) .n)) (IZ b V ls i hi (hA.wait hi.1 hi.2)) (fun v3 B hv => ?_)
  obtain ⟨y4, rfl, y5, rfl⟩ := hv
  refine Cc (t := 33) rfl rfl rfl (AE rfl) ?_
  refine Cc (t := 33) rfl rfl rfl (AE rfl) ?_
  refine Fe (t := 33) rfl (by first | rfl | exact X3 rfl c2) rfl YS (.c rfl (.c rfl .n)) (.c (.t (.t (.t .h))) (.c (.t (.t (.t .h))) .n)) (IZ c W ms i hi (hB.wait hi.1 hi.2)) (fun v7 B hv => ?_)
  obtain ⟨y8, rfl, y9, rfl⟩ := hv
  refine Om (t := 33) rfl rfl rfl bj (.c rfl (.c rfl .n)) (fun w hS => K8 _ _ _ _ (Nat.le_trans (hA.wait hi.1 hi.2) (by decide)) w ((Kn.own .m5) w hS) ((Kn.own .m2) w hS)) ?_
  refine Cc (t := 33) rfl rfl rfl (BQ rfl) ?_
  refine Gt (CX rfl rfl) (Gm rfl (BZ 43 rfl rfl (fun q => AE rfl) (BZ 43 rfl rfl (fun q => AE rfl) ?_)))
  refine Mj 43 rfl (fun c3 => ?_) (fun c3 => ?_)
  ·
   refine Bs (t := 43) rfl rfl rfl rfl ?_
   refine Bs (t := 43) rfl rfl rfl rfl ?_
   refine Bs (t := 43) rfl rfl rfl rfl ?_
   refine Bs (t := 43) rfl rfl rfl rfl ?_
   refine Bs (t := 43) rfl rfl rfl rfl ?_
   refine Bs (t := 43) rfl rfl rfl rfl ?_
   refine Gt (Ck rfl rfl) (Gn (.t4 0 1 10 52) ?_)
   refine FL rfl rfl ?_
   refine Gs (Ga rfl (Gn (.t1 4) (Ac (AP (AD (AD (AP ?_)))))))
   refine AD ?_
   refine AY rfl (.tmp rfl .n) ?_
   intro w1 hS
   have hS := (hS.perm (Av.perm (.c (.t (.t (.t .h))) (.c (.t (.t (.t .h))) (.c .h (.c .h .n)))))).Ay
   refine ⟨_, ⟨?gv2, rfl⟩, hS⟩
   case gv2 => exact congrArg Value.bool (by rw [hI13]; simp only [Jj hi.1 hi.2, c1, c2, c3, ↓reduceIte, Bool.false_eq_true, Bool.true_or, Bool.or_true, Bool.false_or, Bool.or_false, Bool.not_true, Bool.not_false, Bool.false_and])
  have c3p := kz c3
  refine Fe (t := 43) rfl (by first | rfl | exact X3 rfl c3) rfl Yr (.c (BX rfl (by rw [c3]; rfl)) (.c (BX rfl (by rw [c3]; rfl)) .n)) (.c (.t (.t (.t .h))) (.c (.t (.t (.t .h))) .n)) (Ig b V ls i hi (hA.queue hi.1 hi.2)) (fun v11 B hv => ?_)
  obtain ⟨y12, rfl, y13, rfl⟩ := hv
  refine Cc (t := 43) rfl rfl rfl (AE rfl) ?_
  refine Cc (t := 43) rfl rfl rfl (AE rfl) ?_
  refine Fe (t := 43) rfl (by first | rfl | exact X3 rfl c3) rfl Yr (.c rfl (.c rfl .n)) (.c (.t (.t (.t .h))) (.c (.t (.t (.t .h))) .n)) (Ig c W ms i hi (hB.queue hi.1 hi.2)) (fun v15 B hv => ?_)
  obtain ⟨y16, rfl, y17, rfl⟩ := hv
  refine Om (t := 43) rfl rfl rfl bk (.c rfl (.c rfl .n)) (fun w hS => Kw _ _ _ _ (Nat.le_trans (hA.queue hi.1 hi.2) (by decide)) w ((Kn.own .m5) w hS) ((Kn.own .m2) w hS)) ?_
  refine Cc (t := 43) rfl rfl rfl (BQ rfl) ?_
  refine Gt (CX rfl rfl) (Gn (.t4 0 1 10 52) ?_)
  refine Gc (fun c4 => ?_) (fun c4 => ?_)
  ·
   refine Gs (Ga rfl (Gn (.t1 4) (Ac (AP (AD (AD (AP ?_)))))))
   refine AD ?_
   refine AY rfl (.tmp rfl .n) ?_
   intro w1 hS
   have hS := (hS.perm (Av.perm (.c (.t (.t (.t .h))) (.c (.t (.t (.t .h))) (.c .h (.c .h .n)))))).Ay
   refine ⟨_, ⟨?gv3, rfl⟩, hS⟩
   case gv3 => exact congrArg Value.bool (by rw [hI13]; simp only [Jj hi.1 hi.2, c1, c2, c3, c4, ↓reduceIte, Bool.false_eq_true, Bool.true_or, Bool.or_true, Bool.false_or, Bool.or_false, Bool.not_true, Bool.not_false, Bool.false_and])
  have c4p := kz c4
  refine Aa ?_
  refine AB (.t3 0 1 10) ?_
  refine AU (AA (AJ ?_))
  refine Gt (Aw rfl rfl (IntWalk.i64_in _ (by first | omega | exact hi.1 | exact hi.2))) ?_
  refine Gm rfl ?_
  refine AM (AB (.t3 0 1 10) ?_)
  refine CG (.c (.t (.t (.t .h))) (.c (.t (.t (.t .h))) (.c .h (.c .h .n)))) ?_
  refine CV ?_
  refine Bx (i + 1) ?_ ?_ (.t3 10 0 1) (.refl _)
  · exact ⟨by omega, by omega, by rw [hI13]; simp only [Jj hi.1 hi.2, c1, c2, c3, c4, ↓reduceIte, Bool.false_eq_true, Bool.or_self, Bool.not_false, Bool.true_and, Bool.or_false, Bool.false_or]⟩
  · omega
 have c1p := kz c1
 obtain rfl : i = 4 := by omega
 refine BV (AT (AT (Af ?_)))
 refine AB (.t2 0 1) ?_
 refine AA (Gs (Gm rfl ?_))
 refine Ag rfl ZP (.c rfl .n) (.c .h .n) (K9 _ _) (fun v19 B hv => ?_)
 obtain ⟨rfl, rfl⟩ := hv
 refine Gm rfl ?_
 refine Ag rfl ZP (.c rfl .n) (.c (.t (.t .h)) .n) (K9 _ _) (fun v20 B hv => ?_)
 obtain ⟨rfl, rfl⟩ := hv
 refine Gt (R4 bS (by decide) (by kernel_rfl) rfl rfl) ?_
 refine Ga rfl (Gn (.t1 4) (Ac ?_))
 refine AY rfl (.tmp rfl .n) ?_
 intro w1 hS
 have hS := (hS.perm (Av.perm (.c (.t .h) (.c (.t .h) (.c .h (.c .h .n)))))).Ay
 refine ⟨_, ⟨?gv4, rfl⟩, hS⟩
 case gv4 => exact congrArg Value.bool (by rw [hI13]; rfl)
theorem Pp (b : Nat) (V : AH) (ev : List Ing.Event) (hl : ev.length ≤ 1000000) : Ic Tryz.prog 22 #[.pointer (some ⟨b, 0, none⟩)] [Ab.box b 101 (AH.enc V), Ab.own (AH.last V) 56 16 (ev.flatMap Ing.Event.enc)] (fun v B => ∃ h' : Hd, v = h'.val ∧ h'.len = ev.length ∧ B = [Ab.box b 101 (AH.enc V), Ab.own (AH.last V) 56 16 (ev.flatMap Ing.Event.enc), Ab.own h' 56 16 (ev.flatMap Ing.Event.enc)]) := by
 intro w hS0
 refine Ai _ _ Tryz.func22 rfl rfl rfl (hS0) ?_
 refine Gs (Ga rfl (Gn (.t1 0) (Ao (Ao ?_))))
 refine Vv (fun w hS => (Kn.own .m1 w hS).KV Ing.Event.fl (by decide)) (fun hLl => ?_)
 refine AJ (Gm rfl (Gt (Dl Tryz.underlying37 rfl) (Gn (.t2 0 4) ?_)))
 refine Da rfl rfl ?_
 refine Aa ?_
 refine AB (.t1 0) ?_
 refine AA (Gs (Gm rfl (Gt (BS rfl) (Gt (Ah Mq rfl) (Gt (AF rfl DU .m0 AH.l3 rfl rfl) ?_)))))
 refine DC Ing.Event.enc 56 16 ?_
 refine G2 (e := Ing.Event.enc) rfl Tryz.underlying53 MN Hj rfl Tp (by decide) rfl rfl (fun w hS => Src.De Tryz.underlying53 ((Kn.own .m2) w hS)) rfl rfl (by omega) (fun _ => .h) (fun h1 h1l => ?_)
 refine Ga rfl (Gn (.t1 2) (Ac ?_))
 refine AY rfl (.tmp rfl .n) ?_
 intro w1 hS
 have hS := (hS.perm (Av.perm (.c (.t .h) (.c (.t .h) (.c .h .n))))).Ay
 exact ⟨_, ⟨_, rfl, by (try simp only [List.length_append, List.length_nil] at *); omega, rfl⟩, hS⟩
theorem Kv (b : Nat) (V : AH) (ls : Vector BG 4) (i : Int) (hi : 0 ≤ i ∧ i < 4) (hl : (ls.at i).told.length ≤ 1000000) : Ic Tryz.prog 24 #[.pointer (some ⟨b, 0, none⟩), .int .i64 i] [Ab.box b 101 (AH.enc V), Ab.C3 (Bt 9 (AH.Ap V) ls)] (fun v B => ∃ h' : Hd, v = h'.val ∧ h'.len = (ls.at i).told.length ∧ B = [Ab.box b 101 (AH.enc V), Ab.C3 (Bt 9 (AH.Ap V) ls), Ab.own h' 9 1 ((ls.at i).told.flatMap A4)]) := by
 intro w hS0
 refine Ai _ _ Tryz.func24 rfl rfl rfl (hS0) ?_
 refine Gs (Ga rfl (Gn (.t2 0 1) (CB (Gm rfl (Gt (Dl Tryz.underlying37 rfl) (Gm rfl ?_))))))
 refine Cc (t := 7) rfl rfl rfl (AE rfl) ?_
 refine Cc (t := 7) rfl rfl rfl (A5 rfl rfl) ?_
 refine Gt (CX rfl rfl) (Gm rfl (BZ 11 rfl rfl (fun q => AE rfl) (BZ 11 rfl rfl (fun q => CI (cF rfl q) rfl) ?_)))
 refine Gt (BR rfl rfl (fun h => by rw [h]; rfl)) ?_
 refine Gn (.t3 0 1 14) ?_
 refine Da rfl (by rw [Bool.or_eq_false_iff, decide_eq_false_iff_not, decide_eq_false_iff_not]; omega) ?_
 refine Aa ?_
 refine AB (.t2 0 1) ?_
 refine AA (Ao ?_)
 refine Eu (k := i) hi.1 hi.2 (fun sv sl hsv hlv hln => ?_)
 have hl2 := hl
 rw [hlv] at hl2
 refine AJ (Gm rfl (Gm rfl (Gt (BS rfl) (Gt (Ah FV rfl) ?_))))
 refine Gt (AR N4 rfl rfl (by first | omega | exact hi.1 | exact hi.2) (by first | omega | exact hi.1 | exact hi.2)) ?_
 refine Gt (Ah QO rfl) (Gt (AF rfl Du .m3 ((AS.BL V hi.1 hi.2).comp A0.l5) rfl rfl) ?_)
 refine DC A4 9 1 ?_
 refine G2 (e := A4) rfl Tryz.underlying52 EM Qe rfl WS (by decide) rfl rfl (fun w hS => Src.De Tryz.underlying52 ((Kn.own .m3) w hS)) rfl rfl (by omega) (fun _ => .h) (fun h1 h1l => ?_)
 refine Ga rfl (Gn (.t1 4) (Ac ?_))
 refine AY rfl (.tmp rfl .n) ?_
 intro w1 hS
 have hS := (hS.perm (Av.perm (.c (.t .h) (.c (.t .h) (.c (.t .h) (.c (.t .h) (.c (.t .h) (.c .h .n)))))))).Ay
 have e1 : V.BL i sv = V := by rw [← hsv]; exact V.Jb hi.1 hi.2
 have e2 : ls.put i ⟨sl.queue, sl.wait, sl.told⟩ = ls := by rw [← hlv]; exact Vector.LG ls hi.1 hi.2
 have hS := St.close' (s := sv) (qs := sl.queue) (ws := sl.wait) (ts := sl.told) hi.1 hi.2 rfl rfl rfl hS
 rw [e1, e2] at hS
 try rw [hsv]
 rw [hlv]
 refine ⟨_, ⟨_, rfl, ?gl, rfl⟩, hS⟩
 case gl => (try simp only [List.length_append, List.length_nil] at *); omega
theorem I7 (b : Nat) (V : AH) (ls : Vector BG 4) (ev : List Ing.Event) (o : Nat) (W : AH) (ms : Vector BG 4) (fv : List Ing.Event) (c : Nat) (a : B4) (r : Be) (hW : (A2 W ms fv).Live) (hu : a.bytes.length ≤ 140737488351232) (hE : (A2 V ls ev) = ((A2 W ms fv).act a).1) (hr : r = ((A2 W ms fv).act a).2) : Ev Tryz.prog 48 #[.pointer (some ⟨b, 0, none⟩), .agg a.enc.toArray, .agg r.enc.toArray, .pointer (some ⟨c, 0, none⟩)] [Ab.box b 101 (AH.enc V), Ab.C3 (Bt 9 (AH.Ap V) ls), Ab.own (AH.last V) 56 16 ((ev).flatMap Ing.Event.enc), Ab.box c 37 (I2 (some ⟨o, 0, none⟩)), Ab.box o 101 (AH.enc W), Ab.C3 (Bt 9 (AH.Ap W) ms), Ab.own (AH.last W) 56 16 ((fv).flatMap Ing.Event.enc)] (fun w => (GV 2 E7 w ∧ 2 ∉ CR [Ab.box b 101 (AH.enc V), Ab.C3 (Bt 9 (AH.Ap V) ls), Ab.own (AH.last V) 56 16 ((ev).flatMap Ing.Event.enc), Ab.box c 37 (I2 (some ⟨o, 0, none⟩)), Ab.box o 101 (AH.enc W), Ab.C3 (Bt 9 (AH.Ap W) ms), Ab.own (AH.last W) 56 16 ((fv).flatMap Ing.Event.enc)]) ∧ (GV 0 AI.C2 w ∧ 0 ∉ CR [Ab.box b 101 (AH.enc V), Ab.C3 (Bt 9 (AH.Ap V) ls), Ab.own (AH.last V) 56 16 ((ev).flatMap Ing.Event.enc), Ab.box c 37 (I2 (some ⟨o, 0, none⟩)), Ab.box o 101 (AH.enc W), Ab.C3 (Bt 9 (AH.Ap W) ms), Ab.own (AH.last W) 56 16 ((fv).flatMap Ing.Event.enc)]) ∧ (F2 7 w ∧ 7 ∉ CR [Ab.box b 101 (AH.enc V), Ab.C3 (Bt 9 (AH.Ap V) ls), Ab.own (AH.last V) 56 16 ((ev).flatMap Ing.Event.enc), Ab.box c 37 (I2 (some ⟨o, 0, none⟩)), Ab.box o 101 (AH.enc W), Ab.C3 (Bt 9 (AH.Ap W) ms), Ab.own (AH.last W) 56 16 ((fv).flatMap Ing.Event.enc)]) ∧ (F2 8 w ∧ 8 ∉ CR [Ab.box b 101 (AH.enc V), Ab.C3 (Bt 9 (AH.Ap V) ls), Ab.own (AH.last V) 56 16 ((ev).flatMap Ing.Event.enc), Ab.box c 37 (I2 (some ⟨o, 0, none⟩)), Ab.box o 101 (AH.enc W), Ab.C3 (Bt 9 (AH.Ap W) ms), Ab.own (AH.last W) 56 16 ((fv).flatMap Ing.Event.enc)])) (fun v B => ∃ W' ms' fv', v = .bool true ∧ A2 W' ms' fv' = ((A2 W ms fv).act a).1 ∧ B = [Ab.box b 101 (AH.enc V), Ab.C3 (Bt 9 (AH.Ap V) ls), Ab.own (AH.last V) 56 16 ((ev).flatMap Ing.Event.enc), Ab.box c 37 (I2 (some ⟨o, 0, none⟩)), Ab.box o 101 (AH.enc W'), Ab.C3 (Bt 9 (AH.Ap W') ms'), Ab.own (AH.last W') 56 16 ((fv').flatMap Ing.Event.enc)]) := by
 intro w hS0 hH
 obtain ⟨⟨gl0, gm0⟩, ⟨gl1, gm1⟩, ⟨gl2, gm2⟩, ⟨gl3, gm3⟩⟩ := hH
 have hV : (A2 V ls ev).Live := by rw [hE]; exact hW.act a
 have hvl := hV.last
 refine Ai _ _ Tryz.func48 rfl rfl rfl (hS0) ?_
 refine Gs ?_
 refine Bw rfl rfl rfl (fun b1 => ?_)
 refine Bw rfl rfl rfl (fun b2 => ?_)
 refine Ga rfl (Gn (.t4 0 3 5 6) (Ao (Ao ?_)))
 refine BE (N := 11) [0, 0, 3, 0, 15, 31, 63, 63, 255, 511, 1023] mix (by kernel_rfl) rfl ?_
 refine Pf 0 rfl (Qb rfl YH .m5) (Pf 1 rfl (AZ rfl VK .m1 (AS.id B4.fl.len B4.fl.one) rfl) (Pf 3 rfl (AZ rfl G4 .m0 (AS.id Be.fl.len Be.fl.one) rfl) ?_))
 refine An 2 rfl (by kernel_rfl) ?_
 refine BF rfl Vy (.c rfl (.c rfl .n)) (.c (.t (.t (.t (.t (.t (.t .h)))))) (.c (.t (.t (.t (.t (.t (.t .h)))))) (.c (.t (.t (.t (.t (.t (.t .h)))))) .n))) (HD o W ms fv a hW hu) (fun w hS => ⟨gl0.pull gm0 hS (.c (.t (.t (.t (.t (.t (.t .h)))))) (.c (.t (.t (.t (.t (.t (.t .h)))))) (.c (.t (.t (.t (.t (.t (.t .h)))))) .n))), gl1.pull gm1 hS (.c (.t (.t (.t (.t (.t (.t .h)))))) (.c (.t (.t (.t (.t (.t (.t .h)))))) (.c (.t (.t (.t (.t (.t (.t .h)))))) .n))), gl2.pull gm2 hS (.c (.t (.t (.t (.t (.t (.t .h)))))) (.c (.t (.t (.t (.t (.t (.t .h)))))) (.c (.t (.t (.t (.t (.t (.t .h)))))) .n))), gl3.pull gm3 hS (.c (.t (.t (.t (.t (.t (.t .h)))))) (.c (.t (.t (.t (.t (.t (.t .h)))))) (.c (.t (.t (.t (.t (.t (.t .h)))))) .n)))⟩) (fun v1 B hv => ?_)
 obtain ⟨y2, y3, y4, rfl, y5, rfl⟩ := hv
 refine Bm rfl ⟨?_, ?_⟩
 · exact (Po rfl (AZ rfl G4 .m3 (AS.id Be.fl.len Be.fl.one) rfl) rfl rfl (Pk (Pk As)))
 refine Pf 4 rfl (So bK (by decide) (by kernel_rfl) rfl rfl) ?_
 refine Pf 5 rfl (AE rfl) (Gp 6 22 rfl rfl rfl (fun q => AE rfl) (Gp 7 22 rfl rfl rfl (fun q => Qb rfl YH .m8) ?_))
 refine An 8 rfl (by kernel_rfl) ?_
 refine Mj 22 rfl (fun c1 => ?_) (fun c1 => ?_)
 · exact absurd c1 (by rw [hr]; simp)
 have c1p := kz c1
 try dsimp only at c1p
 refine Fe (t := 22) rfl (by first | rfl | exact X3 rfl c1) rfl cO (.c (BX rfl (by rw [c1]; rfl)) (.c (BX rfl (by rw [c1]; rfl)) .n)) (.c (.t (.t (.t (.t (.t .h))))) (.c (.t (.t (.t (.t (.t .h))))) (.c .h (.c .h .n)))) (OR b V ls ev o y2 y3 y4 (by rw [hE]; exact hW.act a) (by rw [y5]; exact hW.act a)) (fun v6 B hv => ?_)
 obtain ⟨rfl, rfl⟩ := hv
 refine Bm rfl ⟨?_, ?_⟩
 · exact (Pk (Pk (Pk (Pk (Pk (Pk (Pk As)))))))
 refine BW 9 rfl rfl (by kernel_rfl) (aE (t := 22) rfl (X3 rfl c1) (Hw (BQ rfl))) ?_
 refine Pf 10 rfl (CX (X3 rfl c1) rfl) ?_
 refine A3 (by kernel_rfl) ?_
 refine AB (.t2 0 27) ?_
 refine AA ?_
 refine Da rfl (by rw [hE, y5, AN.Ur]; rfl) ?_
 refine Aa ?_
 refine AB (.t1 0) ?_
 refine AA (Gs (Gm rfl ?_))
 refine Ag rfl bt (.c rfl .n) (.c .h (.c (.t (.t (.t (.t (.t (.t .h)))))) .n)) (Pp b V ev hV.last) (fun v7 B hv => ?_)
 obtain ⟨y8, rfl, y9, rfl⟩ := hv
 refine Ga rfl (Gn (.t2 0 8) (CB (Gm rfl (Gt (Aq rfl Tryz.underlying53 rfl) (Gm rfl (Gn (.t4 0 8 31 32) (Ae ?_)))))))
 refine Bf (.t4 32 0 8 31) ?_
 refine BU (.t (.t .h)) ?_
 refine ET (fun (m : Int) (cs : List Value) => 0 ≤ m ∧ cs.length = y8.len * 16) (fun (m : Int) (cs : List Value) => ((y8.len : Int) - m).toNat) (fun (m : Int) (cs : List Value) => [(32, .int .i64 m)]) (fun (m : Int) (cs : List Value) => [Ab.own y8 56 16 cs]) (0) (_) ?_ rfl rfl (fun m cs hI1 => ?_)
 · exact ⟨by omega, by (try simp only [B1 Ing.Event.fl.len, B1 DB.len]); omega⟩
 obtain ⟨hI11, hI12⟩ := hI1
 refine Gs (Gt (A5 rfl rfl) (AM (AA (Ao ?_))))
 refine Gc (fun c2 => ?_) (fun c2 => ?_)
 ·
  have c2p := kz c2
  try dsimp only at c2p
  refine Aa ?_
  refine AB (.t4 0 8 31 32) ?_
  refine AA (Ao (Ae (Gs (Gm rfl (Ga rfl (Gn (.t5 0 8 9 31 32) (AJ ?_)))))))
  refine Gm rfl (Gm rfl ?_)
  refine Gt (Bg aX (by decide) (Kn.own .m0) rfl rfl (by omega) (by omega)) ?_
  refine Gt (XJ WU rfl) ?_
  refine AQ (PT (v := BO [115, 112, 111, 105, 108, 116]) rfl rfl rfl rfl EM (by omega) .h) ?_
  refine AM (AB (.t4 0 8 31 32) ?_)
  refine AU (AA (AJ ?_))
  refine Gt (Aw rfl rfl (IntWalk.i64_in _ (by first | omega | exact hk.1 | exact hk.2))) ?_
  refine Gm rfl ?_
  refine AM (AB (.t4 0 8 31 32) ?_)
  refine Cn (m + 1) _ ?_ ?_ (.t4 32 0 8 31) (.refl _)
  · exact ⟨by omega, by rw [List.length_set]; omega⟩
  · (try dsimp only at *); omega
 have c2p := kz c2
 try dsimp only at c2p
 refine BV (AT (AT (Af ?_)))
 refine AB (.t1 0) ?_
 refine AA (CB (Gm rfl (AM (AA (Ae ?_)))))
 refine Bf (.t2 40 0) ?_
 refine CJ (fun (k : Int) => 0 ≤ k ∧ k ≤ 4) (fun (k : Int) => (4 - k).toNat) (fun (k : Int) => [(40, .int .i64 k)]) (fun (k : Int) => []) (0) ?_ rfl rfl (fun k hI2 => ?_)
 · exact ⟨by omega, by omega⟩
 obtain ⟨hI21, hI22⟩ := hI2
 refine Gs (Gt (A5 rfl rfl) (AM (AA (Ao ?_))))
 refine Gc (fun c3 => ?_) (fun c3 => ?_)
 ·
  have c3p := kz c3
  try dsimp only at c3p
  have hk : 0 ≤ k ∧ k < 4 := ⟨by omega, by omega⟩
  have hvw := hV.wait hk.1 hk.2
  have hvq := hV.queue hk.1 hk.2
  have hvt := hV.told hk.1 hk.2
  refine Aa ?_
  refine AB (.t2 0 40) ?_
  refine AA (Ao (Ae (Gs (Gm rfl (Ga rfl (Gn (.t3 0 10 40) (Gs ?_)))))))
  refine Gm rfl (Gm rfl ?_)
  refine Ag rfl YS (.c rfl (.c rfl .n)) (.c (.t .h) (.c (.t (.t .h)) .n)) (IZ b V ls k hk (hV.wait hk.1 hk.2)) (fun v11 B hv => ?_)
  obtain ⟨y12, rfl, y13, rfl⟩ := hv
  refine Gm rfl (Gm rfl ?_)
  refine Ag rfl Yr (.c rfl (.c rfl .n)) (.c .h (.c .h .n)) (Ig b V ls k hk (hV.queue hk.1 hk.2)) (fun v15 B hv => ?_)
  obtain ⟨y16, rfl, y17, rfl⟩ := hv
  refine Gm rfl (Gm rfl ?_)
  refine Ag rfl aO (.c rfl (.c rfl .n)) (.c .h (.c .h .n)) (Kv b V ls k hk (hV.told hk.1 hk.2)) (fun v19 B hv => ?_)
  obtain ⟨y20, rfl, y21, rfl⟩ := hv
  refine BB rfl Qf rfl (fun b3 => ?_)
  refine BB rfl WQ rfl (fun b4 => ?_)
  refine AQ (AK (AS.id Ar.fl.len Ar.fl.one) rfl rfl rfl Ez rfl (.t .h)) ?_
  refine AQ (AK (AS.id A9.fl.len A9.fl.one) rfl rfl rfl Ko rfl .h) ?_
  refine Ga rfl (Gn (.t5 0 11 12 13 40) (CB (Gt (Ah FO rfl) (Gt (AF rfl Du .m1 Ar.l0 rfl rfl) (Gt (Aq rfl Tryz.underlying52 rfl) (Gm rfl (Gn (.t7 0 11 12 13 40 54 55) ?_)))))))
  refine Ae ?_
  refine Bf (.t7 55 0 11 12 13 40 54) ?_
  refine BU (.t (.t (.t (.t (.t (.t .h)))))) ?_
  refine ET (fun (m : Int) (cs : List Value) => 0 ≤ m ∧ cs.length = y12.len * 1) (fun (m : Int) (cs : List Value) => ((y12.len : Int) - m).toNat) (fun (m : Int) (cs : List Value) => [(55, .int .i64 m)]) (fun (m : Int) (cs : List Value) => [Ab.own y12 9 1 cs]) (0) (_) ?_ rfl rfl (fun m cs hI3 => ?_)
  · exact ⟨by omega, by (try simp only [B1 Ing.Event.fl.len, B1 DB.len]); omega⟩
  obtain ⟨hI31, hI32⟩ := hI3
  refine Gs (Gt (A5 rfl rfl) (AM (AA (Ao ?_))))
  refine Gc (fun c4 => ?_) (fun c4 => ?_)
  ·
   have c4p := kz c4
   try dsimp only at c4p
   refine Aa ?_
   refine AB (.t7 0 11 12 13 40 54 55) ?_
   refine AA (Ao (Ae (Gs (Gm rfl (Ga rfl (Gn (.t8 0 11 12 13 14 40 54 55) (AJ ?_)))))))
   refine Gt (Ah FO rfl) (Gt (AF rfl Du .m2 Ar.l0 rfl rfl) (Gm rfl ?_))
   refine Gt (Bg Gu (by decide) (Kn.own .m0) rfl rfl (by omega) (by omega)) ?_
   refine AQ (PT (v := BO [115, 112, 111, 105, 108, 116]) rfl rfl rfl rfl EM (by omega) .h) ?_
   refine AM (AB (.t7 0 11 12 13 40 54 55) ?_)
   refine AU (AA (AJ ?_))
   refine Gt (Aw rfl rfl (IntWalk.i64_in _ (by first | omega | exact hk.1 | exact hk.2))) ?_
   refine Gm rfl ?_
   refine AM (AB (.t7 0 11 12 13 40 54 55) ?_)
   refine Cn (m + 1) _ ?_ ?_ (.t7 55 0 11 12 13 40 54) (.refl _)
   · exact ⟨by omega, by rw [List.length_set]; omega⟩
   · (try dsimp only at *); omega
  have c4p := kz c4
  try dsimp only at c4p
  refine BV (AT (AT (Af ?_)))
  refine AB (.t4 0 12 13 40) ?_
  refine AA (CB (Gt (Ah D6 rfl) (Gt (AF rfl Du .m1 A9.l3 rfl rfl) (Gt (Aq rfl Tryz.underlying52 rfl) (Gm rfl (Gn (.t6 0 12 13 40 65 66) (Ae ?_)))))))
  refine Bf (.t6 66 0 12 13 40 65) ?_
  refine BU (.t (.t (.t (.t (.t (.t .h)))))) ?_
  refine ET (fun (m : Int) (cs : List Value) => 0 ≤ m ∧ cs.length = y16.len * 1) (fun (m : Int) (cs : List Value) => ((y16.len : Int) - m).toNat) (fun (m : Int) (cs : List Value) => [(66, .int .i64 m)]) (fun (m : Int) (cs : List Value) => [Ab.own y16 9 1 cs]) (0) (_) ?_ rfl rfl (fun m cs hI4 => ?_)
  · exact ⟨by omega, by (try simp only [B1 Ing.Event.fl.len, B1 DB.len]); omega⟩
  obtain ⟨hI41, hI42⟩ := hI4
  refine Gs (Gt (A5 rfl rfl) (AM (AA (Ao ?_))))
  refine Gc (fun c5 => ?_) (fun c5 => ?_)
  ·
   have c5p := kz c5
   try dsimp only at c5p
   refine Aa ?_
   refine AB (.t6 0 12 13 40 65 66) ?_
   refine AA (Ao (Ae (Gs (Gm rfl (Ga rfl (Gn (.t7 0 12 13 15 40 65 66) (AJ ?_)))))))
   refine Gt (Ah D6 rfl) (Gt (AF rfl Du .m2 A9.l3 rfl rfl) (Gm rfl ?_))
   refine Gt (Bg Gu (by decide) (Kn.own .m0) rfl rfl (by omega) (by omega)) ?_
   refine AQ (PT (v := BO [115, 112, 111, 105, 108, 116]) rfl rfl rfl rfl EM (by omega) .h) ?_
   refine AM (AB (.t6 0 12 13 40 65 66) ?_)
   refine AU (AA (AJ ?_))
   refine Gt (Aw rfl rfl (IntWalk.i64_in _ (by first | omega | exact hk.1 | exact hk.2))) ?_
   refine Gm rfl ?_
   refine AM (AB (.t6 0 12 13 40 65 66) ?_)
   refine Cn (m + 1) _ ?_ ?_ (.t6 66 0 12 13 40 65) (.refl _)
   · exact ⟨by omega, by rw [List.length_set]; omega⟩
   · (try dsimp only at *); omega
  have c5p := kz c5
  try dsimp only at c5p
  refine BV (AT (AT (Af ?_)))
  refine AB (.t3 0 13 40) ?_
  refine AA (Gs (Gm rfl (Gt (Aq rfl Tryz.underlying52 rfl) (Gm rfl (Gn (.t5 0 13 40 75 76) (Ae ?_))))))
  refine Bf (.t5 76 0 13 40 75) ?_
  refine BU (.t (.t (.t (.t (.t (.t .h)))))) ?_
  refine ET (fun (m : Int) (cs : List Value) => 0 ≤ m ∧ cs.length = y20.len * 1) (fun (m : Int) (cs : List Value) => ((y20.len : Int) - m).toNat) (fun (m : Int) (cs : List Value) => [(76, .int .i64 m)]) (fun (m : Int) (cs : List Value) => [Ab.own y20 9 1 cs]) (0) (_) ?_ rfl rfl (fun m cs hI5 => ?_)
  · exact ⟨by omega, by (try simp only [B1 Ing.Event.fl.len, B1 DB.len]); omega⟩
  obtain ⟨hI51, hI52⟩ := hI5
  refine Gs (Gt (A5 rfl rfl) (AM (AA (Ao ?_))))
  refine Gc (fun c6 => ?_) (fun c6 => ?_)
  ·
   have c6p := kz c6
   try dsimp only at c6p
   refine Aa ?_
   refine AB (.t5 0 13 40 75 76) ?_
   refine AA (Ao (Ae (Gs (Gm rfl (Ga rfl (Gn (.t6 0 13 16 40 75 76) (AJ ?_)))))))
   refine Gm rfl (Gm rfl ?_)
   refine Gt (Bg Gu (by decide) (Kn.own .m0) rfl rfl (by omega) (by omega)) ?_
   refine AQ (PT (v := BO [115, 112, 111, 105, 108, 116]) rfl rfl rfl rfl EM (by omega) .h) ?_
   refine AM (AB (.t5 0 13 40 75 76) ?_)
   refine AU (AA (AJ ?_))
   refine Gt (Aw rfl rfl (IntWalk.i64_in _ (by first | omega | exact hk.1 | exact hk.2))) ?_
   refine Gm rfl ?_
   refine AM (AB (.t5 0 13 40 75 76) ?_)
   refine Cn (m + 1) _ ?_ ?_ (.t5 76 0 13 40 75) (.refl _)
   · exact ⟨by omega, by rw [List.length_set]; omega⟩
   · (try dsimp only at *); omega
  have c6p := kz c6
  try dsimp only at c6p
  refine BV (AT (AT (Af ?_)))
  refine AB (.t2 0 40) ?_
  refine AU (AA (AJ ?_))
  refine Gt (Aw rfl rfl (IntWalk.i64_in _ (by first | omega | exact hk.1 | exact hk.2))) ?_
  refine Gm rfl ?_
  refine AM (AB (.t2 0 40) ?_)
  refine CG (.c (.t (.t (.t (.t (.t (.t (.t .h))))))) (.c (.t (.t (.t (.t (.t .h))))) (.c (.t (.t (.t (.t (.t (.t .h)))))) (.c (.t (.t (.t (.t (.t .h))))) (.c (.t (.t (.t (.t (.t .h))))) (.c (.t (.t (.t (.t (.t .h))))) (.c (.t (.t (.t (.t (.t .h))))) (.c (.t (.t (.t (.t (.t .h))))) (.c (.t (.t (.t (.t (.t .h))))) (.c (.t (.t (.t (.t (.t .h))))) .n)))))))))) ?_
  refine CV ?_
  refine Bx (k + 1) ?_ ?_ (.t2 40 0) (.refl _)
  · exact ⟨by omega, by omega⟩
  · omega
 have c3p := kz c3
 try dsimp only at c3p
 refine BV (AT (AT (Af ?_)))
 refine AB (.nil _) ?_
 refine AA (Gs (Ga rfl (AM (AA (Ac ?_)))))
 refine AY rfl (.tmp rfl .n) ?_
 intro w1 hS
 have hS := (hS.perm (Av.perm (.c (.t .h) (.c (.t (.t .h)) (.c (.t .h) (.c (.t (.t (.t (.t (.t (.t .h)))))) (.c (.t .h) (.c (.t .h) (.c (.t .h) .n))))))))).Ay
 exact ⟨_, ⟨_, _, _, rfl, y5, rfl⟩, hS⟩
theorem M9  (w : World) (gl0 : GV 2 E7 w) (gl1 : GV 0 AI.C2 w) (gl2 : F2 7 w) (gl3 : F2 8 w) : EG Tryz.prog 33 #[] w fun v w' => v = .bool true ∧ B6 w w' := by
 refine Ai [] [] Tryz.func33 rfl rfl rfl (St.start w []) ?_
 refine Gs (Ga rfl (Gn (.nil _) (Gs ?_)))
 refine Ag rfl YV .n .n (G5 ) (fun v1 B hv => ?_)
 obtain ⟨y2, y3, y4, y5, rfl, y6, rfl⟩ := hv
 refine Ga rfl (Gn (.t1 1) (CB (Gm rfl (Gt (Dl Tryz.underlying37 rfl) (Gn (.t2 1 8) ?_)))))
 refine Da rfl rfl ?_
 refine Aa ?_
 refine AB (.t1 1) ?_
 refine AA (Gs (Gm rfl (Gt (BD YQ YU rfl (.cons B4.l0 rfl rfl rfl (.cons B4.l1 rfl rfl rfl .nil))) ?_)))
 refine BF rfl Vy (.c rfl (.c rfl .n)) (.c .h (.c .h (.c .h .n))) (HD y2 y3 y4 y5 AN.Ox (by rw [y6]; exact AN.cU) (by decide)) (fun w hS => ⟨gl0.pull (by simp) hS (.c .h (.c .h (.c .h .n))), gl1.pull (by simp) hS (.c .h (.c .h (.c .h .n))), gl2.pull (by simp) hS (.c .h (.c .h (.c .h .n))), gl3.pull (by simp) hS (.c .h (.c .h (.c .h .n)))⟩) (fun v8 B hv => ?_)
 obtain ⟨y9, y10, y11, rfl, y12, rfl⟩ := hv
 refine BB rfl Jo rfl (fun b1 => ?_)
 refine AQ (AK (AS.id Be.fl.len Be.fl.one) rfl rfl rfl Ju rfl .h) ?_
 refine Gn (.t2 1 2) (Gs (Gm rfl (Gt (BD YQ YU rfl (.cons B4.l0 rfl rfl rfl (.cons B4.l1 rfl rfl rfl (.cons B4.l3 rfl rfl rfl .nil)))) ?_)))
 refine BF rfl Vy (.c rfl (.c rfl .n)) (.c (.t .h) (.c (.t .h) (.c (.t .h) .n))) (HD y2 y9 y10 y11 AN.type2 (by rw [y12, y6]; exact AN.cV) (by decide)) (fun w hS => ⟨gl0.pull (by simp) hS (.c (.t .h) (.c (.t .h) (.c (.t .h) .n))), gl1.pull (by simp) hS (.c (.t .h) (.c (.t .h) (.c (.t .h) .n))), gl2.pull (by simp) hS (.c (.t .h) (.c (.t .h) (.c (.t .h) .n))), gl3.pull (by simp) hS (.c (.t .h) (.c (.t .h) (.c (.t .h) .n)))⟩) (fun v13 B hv => ?_)
 obtain ⟨y14, y15, y16, rfl, y17, rfl⟩ := hv
 refine Gn (.t2 1 2) (Gs (Gm rfl (Gt (BD YQ YU rfl (.cons B4.l0 rfl rfl rfl .nil)) ?_)))
 refine BF rfl Vy (.c rfl (.c rfl .n)) (.c .h (.c .h (.c .h .n))) (HD y2 y14 y15 y16 AN.Ry (by rw [y17, y12, y6]; exact AN.cY) (by decide)) (fun w hS => ⟨gl0.pull (by simp) hS (.c .h (.c .h (.c .h .n))), gl1.pull (by simp) hS (.c .h (.c .h (.c .h .n))), gl2.pull (by simp) hS (.c .h (.c .h (.c .h .n))), gl3.pull (by simp) hS (.c .h (.c .h (.c .h .n)))⟩) (fun v18 B hv => ?_)
 obtain ⟨y19, y20, y21, rfl, y22, rfl⟩ := hv
 refine BB rfl Jo rfl (fun b2 => ?_)
 refine AQ (AK (AS.id Be.fl.len Be.fl.one) rfl rfl rfl Ju rfl .h) ?_
 refine Gn (.t3 1 2 3) (Ao ?_)
 have hA : A2 y19 y20 y21 = AN.ai := by rw [y22, y17, y12, y6]; rfl
 have hA3 : (A2 y19 y20 y21).Live := by rw [hA]; exact AN.WO
 refine AJ (Gm rfl ?_)
 refine Ag rfl Y9 (.c rfl (.c rfl .n)) (.c (.t .h) .n) (Hm y2 y19 2 (by decide)) (fun v23 B hv => ?_)
 obtain ⟨rfl, rfl⟩ := hv
 refine Gm rfl (Gt (AL rfl rfl) (Gt (AL rfl rfl) (Ga rfl (Ga rfl (Gn (.t5 1 2 3 4 5) (Gs (Gt (Ah Wn rfl) ?_)))))))
 refine Gt (AF rfl Wr .m4 Be.l0 rfl rfl) (Gt (Aj rfl rfl) (Gm rfl (Ba 26 rfl rfl (fun q => Ah Wn rfl) (Ba 26 rfl rfl (fun q => AF (BX rfl q) Wr .m1 Be.l0 rfl rfl) (Ba 26 rfl rfl (fun q => Aj (BX rfl q) rfl) (Gt (BH rfl rfl (fun h => h)) (Gm rfl ?_)))))))
 refine Ba 31 rfl rfl (fun q => AE rfl) (Ba 31 rfl rfl (fun q => Aj (BX rfl q) rfl) (Gt (BH rfl rfl (fun h => h)) (Gm rfl (Ba 35 rfl rfl (fun q => AE rfl) (Ba 35 rfl rfl (fun q => Aj (BX rfl q) rfl) (Gt (BH rfl rfl (fun h => h)) (Gm rfl ?_)))))))
 refine Ba 39 rfl rfl (fun q => AE rfl) ?_
 refine Mj 39 rfl (fun c1 => ?_) (fun c1 => ?_)
 ·
  refine Fe (t := 39) rfl (by first | rfl | exact X3 rfl c1) rfl aO (.c (BX rfl c1) (.c rfl .n)) (.c .h (.c (.t .h) .n)) (Kv y2 y19 y20 2 (by decide) (hA3.told (by decide) (by decide))) (fun v24 B hv => ?_)
  obtain ⟨y25, rfl, y26, rfl⟩ := hv
  refine Cc (t := 39) rfl rfl rfl (Aq rfl Tryz.underlying52 rfl) ?_
  refine Cc (t := 39) rfl rfl rfl (Cf rfl rfl) ?_
  refine Gt (Ck rfl rfl) (Ga rfl (Gn (.t1 0) (Ac ?_)))
  refine AY rfl (.tmp rfl .n) ?_
  intro w1 hS; refine ⟨?_, hS.Am⟩; have hd := AN.cR
  rw [← hA, CY _ _ _ (by decide) (by decide)] at hd
  exact congrArg Value.bool (by rw [y26]; exact hd)
 refine Bs (t := 39) rfl rfl rfl rfl ?_
 refine Bs (t := 39) rfl rfl rfl rfl ?_
 refine Bs (t := 39) rfl rfl rfl rfl ?_
 refine Gt (CX rfl rfl) (Ga rfl (Gn (.t1 0) (Ac ?_)))
 refine AY rfl (.tmp rfl .n) ?_
 intro w1 hS; refine ⟨?_, hS.Am⟩; have hs := Ii y19 y20 y21 (show (0 : Int) ≤ 2 by decide) (by decide)
 rw [hA, AN.bx] at hs
 have hc := c1
 rw [hs, y6, AN.bb, y17, y12, y6, AN.bG] at hc
 cases hc
theorem OS {t0 : Nat} (c o : Nat) (W : AH) (ms : Vector BG 4) (fv : List Ing.Event) (f : Hd) (l : List B4) (hu : ∀ a ∈ l, a.bytes.length ≤ 140737488351232) (hN : (A2 W ms fv) = AN.new) : Ev Tryz.prog 16 #[f.val, .func (.func 48) #[] #[.pointer (some ⟨c, 0, none⟩)]] [Ab.box c 37 (I2 (some ⟨o, 0, none⟩)), Ab.box o 101 (AH.enc W), Ab.C3 (Bt 9 (AH.Ap W) ms), Ab.own (AH.last W) 56 16 ((fv).flatMap Ing.Event.enc)] (fun w => cK w (CR [Ab.box c 37 (I2 (some ⟨o, 0, none⟩)), Ab.box o 101 (AH.enc W), Ab.C3 (Bt 9 (AH.Ap W) ms), Ab.own (AH.last W) 56 16 ((fv).flatMap Ing.Event.enc)]) f t0 4 (l.flatMap B4.enc) ∧ (GV 2 E7 w ∧ 2 ∉ CR [Ab.box c 37 (I2 (some ⟨o, 0, none⟩)), Ab.box o 101 (AH.enc W), Ab.C3 (Bt 9 (AH.Ap W) ms), Ab.own (AH.last W) 56 16 ((fv).flatMap Ing.Event.enc)]) ∧ (GV 0 AI.C2 w ∧ 0 ∉ CR [Ab.box c 37 (I2 (some ⟨o, 0, none⟩)), Ab.box o 101 (AH.enc W), Ab.C3 (Bt 9 (AH.Ap W) ms), Ab.own (AH.last W) 56 16 ((fv).flatMap Ing.Event.enc)]) ∧ (F2 7 w ∧ 7 ∉ CR [Ab.box c 37 (I2 (some ⟨o, 0, none⟩)), Ab.box o 101 (AH.enc W), Ab.C3 (Bt 9 (AH.Ap W) ms), Ab.own (AH.last W) 56 16 ((fv).flatMap Ing.Event.enc)]) ∧ (F2 8 w ∧ 8 ∉ CR [Ab.box c 37 (I2 (some ⟨o, 0, none⟩)), Ab.box o 101 (AH.enc W), Ab.C3 (Bt 9 (AH.Ap W) ms), Ab.own (AH.last W) 56 16 ((fv).flatMap Ing.Event.enc)])) (fun v B => ∃ p : Option Addr, v = .tuple #[.pointer p, .bool true] ∧ B = []) := by
 intro w hS0 hH
 obtain ⟨r0, ⟨gl0, gm0⟩, ⟨gl1, gm1⟩, ⟨gl2, gm2⟩, ⟨gl3, gm3⟩⟩ := hH
 have hfl := r0.1.KV B4.fl (by decide)
 refine Ai _ _ Tryz.func16 rfl rfl rfl (hS0) ?_
 refine Gs (Ga rfl (Ga rfl (Gn (.t2 0 1) (CB ?_))))
 refine A8 rfl cD .n (fun w hS => M9 w (gl0.stM gm0 hS) (gl1.stM gm1 hS) (gl2.stM gm2 hS) (gl3.stM gm3 hS)) ?_
 refine Gt (BQ rfl) (Gn (.t3 0 1 10) ?_)
 refine Da rfl rfl ?_
 refine Aa ?_
 refine AB (.t2 0 1) ?_
 refine AA (Gs ?_)
 refine Ag rfl YV .n .n (G5 ) (fun v1 B hv => ?_)
 obtain ⟨y2, y3, y4, y5, rfl, y6, rfl⟩ := hv
 refine Ga rfl (Gn (.t3 0 1 6) (CB (Ga rfl (AM (AA (Ae ?_))))))
 refine Bf (.t4 7 0 1 6) ?_
 refine BU (.t (.t (.t (.t (.t (.t .h)))))) ?_
 refine BU (.t (.t (.t (.t (.t (.t .h)))))) ?_
 refine BU (.t (.t (.t (.t (.t (.t .h)))))) ?_
 refine BU (.t (.t (.t (.t (.t .h))))) ?_
 refine BU (.t (.t (.t (.t (.t .h))))) ?_
 refine BU (.t (.t (.t (.t (.t .h))))) ?_
 refine Vd (fun (k : Int) (V1 : AH) (ls1 : Vector BG 4) (ev1 : List Ing.Event) (W1 : AH) (ms1 : Vector BG 4) (fv1 : List Ing.Event) => 0 ≤ k ∧ k ≤ 150 ∧ k ≤ (l.length : Int) ∧ A2 V1 ls1 ev1 = (AN.new.run (l.take k.toNat)).1 ∧ A2 W1 ms1 fv1 = (AN.new.run (l.take k.toNat)).1) (fun (k : Int) (V1 : AH) (ls1 : Vector BG 4) (ev1 : List Ing.Event) (W1 : AH) (ms1 : Vector BG 4) (fv1 : List Ing.Event) => (150 - k).toNat) (fun (k : Int) (V1 : AH) (ls1 : Vector BG 4) (ev1 : List Ing.Event) (W1 : AH) (ms1 : Vector BG 4) (fv1 : List Ing.Event) => [(7, .int .i64 k)]) (fun (k : Int) (V1 : AH) (ls1 : Vector BG 4) (ev1 : List Ing.Event) (W1 : AH) (ms1 : Vector BG 4) (fv1 : List Ing.Event) => [Ab.box y2 101 (AH.enc V1), Ab.C3 (Bt 9 (AH.Ap V1) ls1), Ab.own (AH.last V1) 56 16 (ev1.flatMap Ing.Event.enc), Ab.box o 101 (AH.enc W1), Ab.C3 (Bt 9 (AH.Ap W1) ms1), Ab.own (AH.last W1) 56 16 (fv1.flatMap Ing.Event.enc)]) (0) (y3) (y4) (y5) (W) (ms) (fv) ?_ rfl rfl (fun k V1 ls1 ev1 W1 ms1 fv1 hI1 => ?_)
 · exact ⟨by omega, by omega, by omega, y6, hN⟩
 obtain ⟨hI11, hI12, hI13, hI14, hI15⟩ := hI1
 refine CB (Gm rfl (Gm rfl (Gt (Aq rfl Tryz.underlying22 rfl) (Gt (A5 rfl rfl) (Gm rfl (Ba 16 rfl rfl (fun q => AE rfl) (Ba 16 rfl rfl (fun q => A5 (BX rfl q) rfl) ?_)))))))
 refine Gt (BH rfl rfl (fun h => h)) (Gn (.t5 0 1 6 7 19) ?_)
 refine Gc (fun c1 => ?_) (fun c1 => ?_)
 ·
  have c1p := kz c1
  refine Aa ?_
  refine AB (.t4 0 1 6 7) ?_
  refine AA (Ao (Ae (Gs (Gm rfl (Gm rfl (Gm rfl ?_))))))
  refine Gt (Bg aG (by decide) (Kn.W9 r0) rfl rfl (by omega) (by omega)) ?_
  refine Gt (Nd rfl VK (by decide) B4.fl (Kn.W9 r0) (by omega)) ?_
  refine BF rfl Vy (.c rfl (.c rfl .n)) (.c .h (.c .h (.c .h .n))) (HD y2 V1 ls1 ev1 (l.getD k.toNat default) (by rw [hI14]; exact AN.Live.run _ AN.Nt) (hu _ (Lk (d := default) (xs := l) (i := k.toNat) (by omega)))) (fun w hS => ⟨gl0.pull gm0 hS (.c .h (.c .h (.c .h .n))), gl1.pull gm1 hS (.c .h (.c .h (.c .h .n))), gl2.pull gm2 hS (.c .h (.c .h (.c .h .n))), gl3.pull gm3 hS (.c .h (.c .h (.c .h .n)))⟩) (fun v8 B hv => ?_)
  obtain ⟨y9, y10, y11, rfl, y12, rfl⟩ := hv
  refine BB rfl Jo rfl (fun b1 => ?_)
  refine AQ (AK (AS.id Be.fl.len Be.fl.one) rfl rfl rfl Ju rfl .h) ?_
  refine Gn (.t5 0 1 6 7 8) (Ao ?_)
  refine BE (N := 9) [0, 0, 0, 0, 12, 28, 0, 127, 255] mix (by kernel_rfl) rfl ?_
  refine Pf 0 rfl (AE rfl) (Pf 1 rfl (AE rfl) (Pf 2 rfl (AE rfl) (Pf 3 rfl (AE rfl) ?_)))
  refine Pf 4 rfl (Bg aG (by decide) (Kn.W9 r0) rfl rfl (by omega) (by omega)) ?_
  refine Pf 5 rfl (Nd rfl VK (by decide) B4.fl (Kn.W9 r0) (by omega)) ?_
  refine Pf 6 rfl (AZ rfl G4 .m0 (AS.id Be.fl.len Be.fl.one) rfl) ?_
  refine An 7 rfl (by kernel_rfl) ?_
  refine Tl rfl av rfl (.c rfl (.c rfl (.c rfl .n))) (.c (.t .h) (.c (.t .h) (.c (.t .h) (.c (.t (.t (.t (.t .h)))) (.c (.t .h) (.c (.t .h) (.c (.t .h) .n))))))) (I7 y2 y9 y10 y11 o W1 ms1 fv1 c (l.getD k.toNat default) _ (by rw [hI15]; exact AN.Live.run _ AN.Nt) (hu _ (Lk (d := default) (xs := l) (i := k.toNat) (by omega))) (by rw [y12, hI14, hI15]) (by rw [hI14, hI15])) (fun w hS => ⟨gl0.pull gm0 hS (.c (.t .h) (.c (.t .h) (.c (.t .h) (.c (.t (.t (.t (.t .h)))) (.c (.t .h) (.c (.t .h) (.c (.t .h) .n))))))), gl1.pull gm1 hS (.c (.t .h) (.c (.t .h) (.c (.t .h) (.c (.t (.t (.t (.t .h)))) (.c (.t .h) (.c (.t .h) (.c (.t .h) .n))))))), gl2.pull gm2 hS (.c (.t .h) (.c (.t .h) (.c (.t .h) (.c (.t (.t (.t (.t .h)))) (.c (.t .h) (.c (.t .h) (.c (.t .h) .n))))))), gl3.pull gm3 hS (.c (.t .h) (.c (.t .h) (.c (.t .h) (.c (.t (.t (.t (.t .h)))) (.c (.t .h) (.c (.t .h) (.c (.t .h) .n)))))))⟩) (fun v13 B hv => ?_)
  obtain ⟨y14, y15, y16, rfl, y17, rfl⟩ := hv
  refine Bm rfl ⟨?_, ?_⟩
  · exact (Pk (Pk (Pk (Pk (Pk (Pk (Pk As)))))))
  refine Pf 8 rfl (BQ rfl) ?_
  refine A3 (by kernel_rfl) ?_
  refine AB (.t5 0 1 6 7 36) ?_
  refine AA ?_
  refine Da rfl rfl ?_
  refine Aa ?_
  refine AB (.t4 0 1 6 7) ?_
  refine AU (AA (AJ (Gm rfl ?_)))
  refine Gt (Aw rfl rfl (IntWalk.i64_in _ (by omega))) ?_
  refine Ga rfl ?_
  refine AM (AB (.t4 0 1 6 7) ?_)
  refine CG (.c .h (.c .h (.c .h (.c (.t .h) (.c (.t .h) (.c (.t .h) (.c .h .n))))))) ?_
  refine CV ?_
  refine Th (k + 1) _ _ _ _ _ _ ?_ ?_ (.t4 7 0 1 6) (.refl _)
  · exact ⟨by omega, by omega, by omega, by rw [AN.RM hI11 (by omega), ← hI14]; exact y12, by rw [AN.RM hI11 (by omega), ← hI15]; exact y17⟩
  · omega
 refine BV (AT (AT (Af ?_)))
 refine AB (.t1 6) ?_
 refine AA (Gs (Gm rfl (Ga rfl (Ga rfl (Gn (.t2 4 5) (Ac ?_))))))
 refine AY rfl (.tmp rfl (.tmp rfl .n)) ?_
 intro w1 hS
 have hS := (hS.perm (Av.perm .n)).Ay
 exact ⟨_, ⟨_, rfl, rfl⟩, hS⟩
end Go.Proofs.YtoidpggbbfncpaaGreatDoor
