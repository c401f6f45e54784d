/- What the functions that the law TopEnds reaches compute: walks, part 6. No condition. -/
import Derived.Test.YtoidpggbbfncpaaGreatDoorCards
import Derived.Test.YtoidpggbbfncpaaGreatDoorTie
import Derived.Deep.DeepHandedRow
import Derived.Test.YtoidpggbbfncpaaGreatDoorRows
import Derived.Test.YtoidpggbbfncpaaGreatDoorTopEndsEc3
import Derived.Test.YtoidpggbbfncpaaGreatDoorTopEndsRa1
import Derived.Test.YtoidpggbbfncpaaGreatDoorTopEndsRb1
import Derived.Test.YtoidpggbbfncpaaGreatDoorTopEndsRc1
import Derived.Test.YtoidpggbbfncpaaGreatDoorTopEndsWalks
import Derived.Test.YtoidpggbbfncpaaGreatDoorTopEndsWalks2
import Derived.Test.YtoidpggbbfncpaaGreatDoorTopEndsWalks3
import Derived.Test.YtoidpggbbfncpaaGreatDoorTopEndsWalks4
import Derived.Test.YtoidpggbbfncpaaGreatDoorTopEndsWalks5
set_option linter.unusedSimpArgs false
set_option linter.unusedVariables false
set_option maxRecDepth 100000
set_option maxHeartbeats 1000000
namespace Go.Proofs.YtoidpggbbfncpaaGreatDoor
open Go Go.Ing Go.RowKit Go.ChangeShapes Go.WideShapes Go.ChangeAt
theorem M7 {t0 : Nat} (l : BC) (qs : List As) (w : World) (r0 : Rd w l.queue t0 1 (qs.flatMap A4)) : EF Tryz.prog 45 #[.agg l.enc.toArray] w fun v w' => v = .bool (Bc.Bs l qs) ∧ B3 w w' := by
 have hl := r0.J1 DD (by decide)
 refine Aj [] [] Tryz.func45 rfl rfl rfl (St.start w []) ?_
 refine Gs ?_
 refine Bu rfl rfl rfl (fun b1 => ?_)
 refine Ga rfl (Gn (.t1 1) (CA (Gt (Af Hi rfl) (Gt (AF rfl CB .m0 BC.l0 rfl rfl) (Gt (BI rfl Tryz.underlying9 rfl) (Gt (Cd rfl rfl) (Gm rfl ?_)))))))
 refine BW 10 rfl rfl (fun q => Af EU rfl) (BW 10 rfl rfl (fun q => AF (cF rfl q) EI .m0 BC.l3 rfl rfl) (BW 10 rfl rfl (fun q => Aq rfl Tryz.underlying52 (cF rfl q)) (BW 10 rfl rfl (fun q => Cd (cF rfl q) rfl) ?_)))
 refine Gt (BR rfl rfl (fun h => by rw [h]; rfl)) ?_
 refine Gm rfl (BW 16 rfl rfl (fun q => Af KJ rfl) (BW 16 rfl rfl (fun q => AF (cF rfl q) Ct .m0 BC.l1 rfl rfl) (BW 16 rfl rfl (fun q => AE (cF rfl q)) ?_)))
 refine DA (t := 19) rfl rfl rfl (fun qc q => Af Hi rfl) ?_
 refine DA (t := 19) rfl rfl rfl (fun qc q => AF (BV rfl (by rw [qc, q]; rfl)) CB .m0 BC.l0 rfl rfl) ?_
 refine DA (t := 19) rfl rfl rfl (fun qc q => BI rfl Tryz.underlying9 (BV rfl (by rw [qc, q]; rfl))) ?_
 refine DA (t := 19) rfl rfl rfl (fun qc q => Cd (BV rfl (by rw [qc, q]; rfl)) rfl) ?_
 refine BW 16 rfl rfl (fun q => BH (cF rfl q) rfl (fun h => by rw [q, h]; rfl)) ?_
 refine Gt (BR rfl rfl (fun h => by rw [h]; rfl)) ?_
 refine Gm rfl (BW 26 rfl rfl (fun q => Af KP rfl) (BW 26 rfl rfl (fun q => AF (cF rfl q) Ct .m0 BC.l2 rfl rfl) (BW 26 rfl rfl (fun q => AE (cF rfl q)) ?_)))
 refine DA (t := 29) rfl rfl rfl (fun qc q => Af Hi rfl) ?_
 refine DA (t := 29) rfl rfl rfl (fun qc q => AF (BV rfl (by rw [qc, q]; rfl)) CB .m0 BC.l0 rfl rfl) ?_
 refine DA (t := 29) rfl rfl rfl (fun qc q => DW (BV rfl (by rw [qc, q]; rfl)) rfl) ?_
 refine DA (t := 29) rfl rfl rfl (fun qc q => AE (BV rfl (by rw [qc, q]; rfl))) ?_
 refine Cw (t := 33) rfl rfl rfl (fun qc q => Af KJ rfl) ?_
 refine Cw (t := 33) rfl rfl rfl (fun qc q => AF (BV rfl (by rw [qc, q]; rfl)) Ct .m0 BC.l1 rfl rfl) ?_
 refine DA (t := 29) rfl rfl rfl (fun qc q => BR (BV rfl (by rw [qc, q]; rfl)) rfl (fun h => by rw [qc, q, h]; rfl)) ?_
 refine BW 26 rfl rfl (fun q => BH (cF rfl q) rfl (fun h => by rw [q, h]; rfl)) ?_
 refine Gt (BR rfl rfl (fun h => by rw [h]; rfl)) ?_
 refine Gn (.t2 1 38) ?_
 refine Gc (fun c1 => ?_) (fun c1 => ?_)
 ·
  refine Gs (Ga rfl (Gn (.t1 2) (Ab (AD ?_))))
  refine AY rfl (.tmp rfl .n) ?_
  intro w1 hS; refine ⟨congrArg Value.bool ?_, hS.Am⟩; rw [Bc.Bs, show Bc.Ii l = true from c1]; rfl
 have c1p := kz c1
 have hq : (l.queue.len : Int) ≤ 6 := by omega
 refine Aa ?_
 refine AB (.t1 1) ?_
 refine AA (Ao (Ao ?_))
 refine BF (N := 9) [0, 1, 3, 0, 8, 24, 63, 127, 0] mix (by kernel_rfl) rfl ?_
 refine Pf 0 rfl (Af EU rfl) (Pf 1 rfl (AF rfl EI .m0 BC.l3 rfl rfl) (Pf 3 rfl (Af Hi rfl) (Pf 4 rfl (AF rfl CB .m0 BC.l0 rfl rfl) (Pf 8 rfl (AE rfl) ?_))))
 refine Iv 2 5 rfl rfl (by kernel_rfl) ?_ ?_
 ·
  refine BD rfl U4 (.c rfl .n) .n (Bv _ _ (by first | assumption | omega)) (fun w hS => (Kn.Gv r0) w hS) (fun v1 B hv => ?_)
  obtain ⟨y2, rfl, y3, rfl⟩ := hv
  refine Bn rfl ⟨?_, ?_⟩
  · exact (Po rfl (AE rfl) rfl rfl (Po rfl (AF rfl CB .m1 BC.l0 rfl rfl) rfl rfl (Po rfl (Af Hi rfl) rfl rfl (Pk (Pk Au)))))
  refine An 5 rfl (by kernel_rfl) ?_
  refine FP A4 DD rfl Tryz.underlying52 EW RM rfl (by decide) (by decide) rfl rfl (fun b2 => ?_)
  refine Bn rfl ⟨?_, ?_⟩
  · exact (Po rfl (AE rfl) rfl rfl (Pk (Pk (Po rfl (AF rfl EI .m2 BC.l3 rfl rfl) rfl rfl (Po rfl (Af EU rfl) rfl rfl Au)))))
  refine An 6 rfl (by kernel_rfl) ?_
  refine CT DD rfl Tryz.underlying52 EW RM rfl VY (by decide) (by decide) rfl rfl (fun w hS => Src.Dj Tryz.underlying52 ((Kn.own .m0) w hS)) (by (try dsimp only); omega) (fun _ => (.t .h)) (fun h5 h5l h5z => ?_)
  refine Bn rfl ⟨?_, ?_⟩
  · exact (Po rfl (AE rfl) rfl rfl (Pk (Pk (Pk (Pk Au)))))
  refine Pf 7 rfl (Aq rfl Tryz.underlying52 rfl) ?_
  refine A2 (by kernel_rfl) ?_
  refine AB (.t3 45 46 47) ?_
  refine AA (Ae ?_)
  refine Bj (.t3 47 45 46) ?_
  refine CR (fun (k : Int) => 0 ≤ k ∧ k ≤ ((qs ++ [l.now]).length : Int) ∧ Bc.Bs l qs = ((qs ++ [l.now]).drop k.toNat).all Bc.FZ) (fun (k : Int) => (((qs ++ [l.now]).length : Int) - k).toNat) (fun (k : Int) => [(47, .int .i64 k)]) (fun (k : Int) => []) (0) ?_ rfl rfl (fun k hI1 => ?_)
  · exact ⟨by omega, by omega, by rw [Bc.Bs, show Bc.Ii l = false from c1]; rfl⟩
  obtain ⟨hI11, hI12, hI13⟩ := hI1
  refine Gs (Gt (A5 rfl rfl) (AP (AA (Ao ?_))))
  refine Gc (fun c2 => ?_) (fun c2 => ?_)
  ·
   have c2p := kz c2
   have hk : k < ((qs ++ [l.now]).length : Int) := by simp only [List.length_append, List.length_cons, List.length_nil] at *; omega
   have hk7 : ((qs ++ [l.now]).length : Int) ≤ 7 := by simp only [List.length_append, List.length_cons, List.length_nil] at *; omega
   refine Aa ?_
   refine AB (.t3 45 46 47) ?_
   refine AA (Ao (Ae (Gs ?_)))
   refine Gt (Bm H9 (by decide) (Kn.own .m1) rfl rfl (by omega) (by simp only [List.length_append, List.length_cons, List.length_nil] at *; omega)) ?_
   refine Gt (C7 rfl CB (Kn.own .m1) (by omega)) ?_
   refine Ga rfl (Gn (.t4 4 45 46 47) (CA (Gm rfl (Gt (BI rfl Tryz.underlying9 rfl) (Gt (Cd rfl rfl) (Gn (.t5 4 45 46 47 53) ?_))))))
   refine Gc (fun c3 => ?_) (fun c3 => ?_)
   ·
    refine Gs (Ga rfl (Gn (.t1 2) (Ab (AD (AO (AD (AD ?_)))))))
    refine AO (AD ?_)
    refine AY rfl (.tmp rfl .n) ?_
    intro w1 hS; refine ⟨congrArg Value.bool ?_, hS.Am⟩; rw [hI13, Bc.Ez (d := []) hI11 hk, Bc.FZ, c3]; rfl
   have c3p := kz c3
   refine Aa ?_
   refine AB (.t4 4 45 46 47) ?_
   refine AA (Gs (Gm rfl (Gt (BI rfl Tryz.underlying9 rfl) (Gm rfl (Gn (.t6 4 45 46 47 55 56) (Ae ?_))))))
   refine Bj (.t6 56 4 45 46 47 55) ?_
   refine CR (fun (i : Int) => 0 ≤ i ∧ i ≤ (((qs ++ [l.now]).getD k.toNat []).length : Int) ∧ Bc.FZ ((qs ++ [l.now]).getD k.toNat []) = (((qs ++ [l.now]).getD k.toNat []).drop i.toNat).all Bc.FK) (fun (i : Int) => ((((qs ++ [l.now]).getD k.toNat []).length : Int) - i).toNat) (fun (i : Int) => [(56, .int .i64 i)]) (fun (i : Int) => []) (0) ?_ rfl rfl (fun i hI2 => ?_)
   · exact ⟨by omega, by omega, by rw [Bc.FZ, c3]; rfl⟩
   obtain ⟨hI21, hI22, hI23⟩ := hI2
   refine Gs (Gt (A5 rfl rfl) (AP (AA (Ao ?_))))
   refine Gc (fun c4 => ?_) (fun c4 => ?_)
   ·
    have c4p := kz c4
    refine Aa ?_
    refine AB (.t6 4 45 46 47 55 56) ?_
    refine AA (Ao (Ae (Gs (Gm rfl (Ga rfl (Gn (.t7 4 5 45 46 47 55 56) (Gs ?_)))))))
    refine Gm rfl (Gm rfl ?_)
    refine Gt (Bh Tryz.underlying9 rfl rfl (by omega) (by omega)) ?_
    refine A8 rfl Y5 (.c rfl .n) (fun w hS => GJ _ w) ?_
    refine Gt (BO rfl) (Gn (.t7 4 45 46 47 55 56 63) ?_)
    refine Gc (fun c5 => ?_) (fun c5 => ?_)
    ·
     have c5p := kz c5
     refine Gs (Ga rfl (Gn (.t1 2) (Ab (AO (AD (AD (AO ?_)))))))
     refine AO (AD (AD (AO (AD ?_))))
     refine AY rfl (.tmp rfl .n) ?_
     intro w1 hS; refine ⟨congrArg Value.bool ?_, hS.Am⟩; rw [hI13, Bc.Ez (d := []) hI11 hk, hI23, Bc.Ez (d := 0) hI21 (by omega), show Bc.FK _ = false from by simpa using c5]; rfl
    have c5p := kz c5
    refine Aa ?_
    refine AB (.t6 4 45 46 47 55 56) ?_
    refine AT (AA (AI ?_))
    refine Gt (Aw rfl rfl (IntWalk.i64_in _ (by omega))) ?_
    refine Gm rfl ?_
    refine AP (AB (.t6 4 45 46 47 55 56) ?_)
    refine B0 (i + 1) ?_ ?_ (.t6 56 4 45 46 47 55) (.refl _)
    · exact ⟨by omega, by omega, by rw [hI23, Bc.Ez (d := 0) hI21 (by omega), show Bc.FK _ = true from by simpa using c5]; rfl⟩
    · omega
   have c4p := kz c4
   refine Ba (AV (AV (Ah ?_)))
   refine AB (.t3 45 46 47) ?_
   refine AT (AA (AI ?_))
   refine Gt (Aw rfl rfl (IntWalk.i64_in _ (by omega))) ?_
   refine Gm rfl ?_
   refine AP (AB (.t3 45 46 47) ?_)
   refine B0 (k + 1) ?_ ?_ (.t3 47 45 46) (.refl _)
   · exact ⟨by omega, by omega, by rw [hI13, Bc.Ez (d := []) hI11 hk, hI23, show i.toNat = ((qs ++ [l.now]).getD k.toNat []).length from by omega, List.drop_length]; rfl⟩
   · omega
  have c2p := kz c2
  have hk : ¬ k < ((qs ++ [l.now]).length : Int) := by simp only [List.length_append, List.length_cons, List.length_nil] at *; omega
  refine Ba (AV (AV (Ah ?_)))
  refine AB (.nil _) ?_
  refine AA (Gs (Ga rfl (AP (AA (Ab ?_)))))
  refine AY rfl (.tmp rfl .n) ?_
  intro w1 hS; refine ⟨congrArg Value.bool ?_, hS.Am⟩; rw [hI13, show k.toNat = (qs ++ [l.now]).length from by omega, List.drop_length]; rfl
 ·
  refine FP A4 DD rfl Tryz.underlying52 EW RM rfl (by decide) (by decide) rfl rfl (fun b3 => ?_)
  refine Bn rfl ⟨?_, ?_⟩
  · exact (Po rfl (AE rfl) rfl rfl (Pk (Pk (Po rfl (AF rfl EI .m1 BC.l3 rfl rfl) rfl rfl (Po rfl (Af EU rfl) rfl rfl Au)))))
  refine An 2 rfl (by kernel_rfl) ?_
  refine BD rfl U4 (.c rfl .n) .n (Bv _ _ (by first | assumption | omega)) (fun w hS => (Kn.Gv r0) w hS) (fun v6 B hv => ?_)
  obtain ⟨y7, rfl, y8, rfl⟩ := hv
  refine Bn rfl ⟨?_, ?_⟩
  · exact (Po rfl (AE rfl) rfl rfl (Po rfl (AF rfl CB .m2 BC.l0 rfl rfl) rfl rfl (Po rfl (Af Hi rfl) rfl rfl (Pk (Pk Au)))))
  refine An 6 rfl (by kernel_rfl) ?_
  refine CT DD rfl Tryz.underlying52 EW RM rfl VY (by decide) (by decide) rfl rfl (fun w hS => Src.Dj Tryz.underlying52 ((Kn.own .m1) w hS)) (by (try dsimp only); omega) (fun _ => .h) (fun h10 h10l h10z => ?_)
  refine Bn rfl ⟨?_, ?_⟩
  · exact (Po rfl (AE rfl) rfl rfl (Pk (Pk (Pk (Pk Au)))))
  refine Pf 7 rfl (Aq rfl Tryz.underlying52 rfl) ?_
  refine A2 (by kernel_rfl) ?_
  refine AB (.t3 45 46 47) ?_
  refine AA (Ae ?_)
  refine Bj (.t3 47 45 46) ?_
  refine CR (fun (k : Int) => 0 ≤ k ∧ k ≤ ((qs ++ [l.now]).length : Int) ∧ Bc.Bs l qs = ((qs ++ [l.now]).drop k.toNat).all Bc.FZ) (fun (k : Int) => (((qs ++ [l.now]).length : Int) - k).toNat) (fun (k : Int) => [(47, .int .i64 k)]) (fun (k : Int) => []) (0) ?_ rfl rfl (fun k hI1 => ?_)
  · exact ⟨by omega, by omega, by rw [Bc.Bs, show Bc.Ii l = false from c1]; rfl⟩
  obtain ⟨hI11, hI12, hI13⟩ := hI1
  refine Gs (Gt (A5 rfl rfl) (AP (AA (Ao ?_))))
  refine Gc (fun c6 => ?_) (fun c6 => ?_)
  ·
   have c6p := kz c6
   have hk : k < ((qs ++ [l.now]).length : Int) := by simp only [List.length_append, List.length_cons, List.length_nil] at *; omega
   have hk7 : ((qs ++ [l.now]).length : Int) ≤ 7 := by simp only [List.length_append, List.length_cons, List.length_nil] at *; omega
   refine Aa ?_
   refine AB (.t3 45 46 47) ?_
   refine AA (Ao (Ae (Gs ?_)))
   refine Gt (Bm H9 (by decide) (Kn.own .m0) rfl rfl (by omega) (by simp only [List.length_append, List.length_cons, List.length_nil] at *; omega)) ?_
   refine Gt (C7 rfl CB (Kn.own .m0) (by omega)) ?_
   refine Ga rfl (Gn (.t4 4 45 46 47) (CA (Gm rfl (Gt (BI rfl Tryz.underlying9 rfl) (Gt (Cd rfl rfl) (Gn (.t5 4 45 46 47 53) ?_))))))
   refine Gc (fun c7 => ?_) (fun c7 => ?_)
   ·
    refine Gs (Ga rfl (Gn (.t1 2) (Ab (AD (AO (AD (AD ?_)))))))
    refine AO (AD ?_)
    refine AY rfl (.tmp rfl .n) ?_
    intro w1 hS; refine ⟨congrArg Value.bool ?_, hS.Am⟩; rw [hI13, Bc.Ez (d := []) hI11 hk, Bc.FZ, c7]; rfl
   have c7p := kz c7
   refine Aa ?_
   refine AB (.t4 4 45 46 47) ?_
   refine AA (Gs (Gm rfl (Gt (BI rfl Tryz.underlying9 rfl) (Gm rfl (Gn (.t6 4 45 46 47 55 56) (Ae ?_))))))
   refine Bj (.t6 56 4 45 46 47 55) ?_
   refine CR (fun (i : Int) => 0 ≤ i ∧ i ≤ (((qs ++ [l.now]).getD k.toNat []).length : Int) ∧ Bc.FZ ((qs ++ [l.now]).getD k.toNat []) = (((qs ++ [l.now]).getD k.toNat []).drop i.toNat).all Bc.FK) (fun (i : Int) => ((((qs ++ [l.now]).getD k.toNat []).length : Int) - i).toNat) (fun (i : Int) => [(56, .int .i64 i)]) (fun (i : Int) => []) (0) ?_ rfl rfl (fun i hI2 => ?_)
   · exact ⟨by omega, by omega, by rw [Bc.FZ, c7]; rfl⟩
   obtain ⟨hI21, hI22, hI23⟩ := hI2
   refine Gs (Gt (A5 rfl rfl) (AP (AA (Ao ?_))))
   refine Gc (fun c8 => ?_) (fun c8 => ?_)
   ·
    have c8p := kz c8
    refine Aa ?_
    refine AB (.t6 4 45 46 47 55 56) ?_
    refine AA (Ao (Ae (Gs (Gm rfl (Ga rfl (Gn (.t7 4 5 45 46 47 55 56) (Gs ?_)))))))
    refine Gm rfl (Gm rfl ?_)
    refine Gt (Bh Tryz.underlying9 rfl rfl (by omega) (by omega)) ?_
    refine A8 rfl Y5 (.c rfl .n) (fun w hS => GJ _ w) ?_
    refine Gt (BO rfl) (Gn (.t7 4 45 46 47 55 56 63) ?_)
    refine Gc (fun c9 => ?_) (fun c9 => ?_)
    ·
     have c9p := kz c9
     refine Gs (Ga rfl (Gn (.t1 2) (Ab (AO (AD (AD (AO ?_)))))))
     refine AO (AD (AD (AO (AD ?_))))
     refine AY rfl (.tmp rfl .n) ?_
     intro w1 hS; refine ⟨congrArg Value.bool ?_, hS.Am⟩; rw [hI13, Bc.Ez (d := []) hI11 hk, hI23, Bc.Ez (d := 0) hI21 (by omega), show Bc.FK _ = false from by simpa using c9]; rfl
    have c9p := kz c9
    refine Aa ?_
    refine AB (.t6 4 45 46 47 55 56) ?_
    refine AT (AA (AI ?_))
    refine Gt (Aw rfl rfl (IntWalk.i64_in _ (by omega))) ?_
    refine Gm rfl ?_
    refine AP (AB (.t6 4 45 46 47 55 56) ?_)
    refine B0 (i + 1) ?_ ?_ (.t6 56 4 45 46 47 55) (.refl _)
    · exact ⟨by omega, by omega, by rw [hI23, Bc.Ez (d := 0) hI21 (by omega), show Bc.FK _ = true from by simpa using c9]; rfl⟩
    · omega
   have c8p := kz c8
   refine Ba (AV (AV (Ah ?_)))
   refine AB (.t3 45 46 47) ?_
   refine AT (AA (AI ?_))
   refine Gt (Aw rfl rfl (IntWalk.i64_in _ (by omega))) ?_
   refine Gm rfl ?_
   refine AP (AB (.t3 45 46 47) ?_)
   refine B0 (k + 1) ?_ ?_ (.t3 47 45 46) (.refl _)
   · exact ⟨by omega, by omega, by rw [hI13, Bc.Ez (d := []) hI11 hk, hI23, show i.toNat = ((qs ++ [l.now]).getD k.toNat []).length from by omega, List.drop_length]; rfl⟩
   · omega
  have c6p := kz c6
  have hk : ¬ k < ((qs ++ [l.now]).length : Int) := by simp only [List.length_append, List.length_cons, List.length_nil] at *; omega
  refine Ba (AV (AV (Ah ?_)))
  refine AB (.nil _) ?_
  refine AA (Gs (Ga rfl (AP (AA (Ab ?_)))))
  refine AY rfl (.tmp rfl .n) ?_
  intro w1 hS; refine ⟨congrArg Value.bool ?_, hS.Am⟩; rw [hI13, show k.toNat = (qs ++ [l.now]).length from by omega, List.drop_length]; rfl
theorem Ni {t0 : Nat} (l : BC) (qs : List As) (u : As) (hu : u.length ≤ 9000000000000000000) : Eu Tryz.prog 63 #[.agg l.enc.toArray, BP u] [] (fun w => Rd w l.queue t0 1 (qs.flatMap A4)) (fun v B => (Bc.Bs l qs = false ∧ v = .tuple #[.agg l.enc.toArray, .int .i64 0, .int .i64 2] ∧ B = []) ∨ (Bc.Bs l qs = true ∧ ∃ h' : Hd, v = .tuple #[.agg (BC.enc ⟨(Bc.feed (Bc.start l qs) u).now, (Bc.feed (Bc.start l qs) u).Cc, (Bc.feed (Bc.start l qs) u).ret, h'⟩).toArray, .int .i64 (Bc.feed (Bc.start l qs) u).lost, .int .i64 0] ∧ h'.len = (Bc.feed (Bc.start l qs) u).queue.length ∧ B = [Ac.own h' 9 1 ((Bc.feed (Bc.start l qs) u).queue.flatMap A4)])) := by
 intro w hS0 hH
 have r0 := hH
 have hl0 := r0.J1 DD (by decide)
 refine Aj _ _ Tryz.func63 rfl rfl rfl (hS0) ?_
 refine Gs ?_
 refine Bu rfl rfl rfl (fun b1 => ?_)
 refine BG rfl Xt rfl (fun b2 => ?_)
 refine Ga rfl (Ga rfl (Gn (.t3 1 2 4) (CA (Gt (AZ rfl HL .m1 (AS.id BC.fl.len BC.fl.one) rfl) ?_))))
 refine A8 rfl bj (.c rfl .n) (fun w hS => M7 _ _ w ((Kn.Gv r0) w hS)) ?_
 refine Gt (BO rfl) (Gn (.t4 1 2 4 14) ?_)
 refine Gc (fun c1 => ?_) (fun c1 => ?_)
 ·
  refine Gs (Gt (AZ rfl HL .m1 (AS.id BC.fl.len BC.fl.one) rfl) ?_)
  refine AR (AK (AS.id BC.fl.len BC.fl.one) rfl rfl rfl LU rfl .h) ?_
  refine Ga rfl (Ga rfl (Gn (.t3 4 5 6) (Ab (AD ?_))))
  refine AY rfl (.cell rfl .m0 (.inl ⟨(by rw [BC.fl.len]; exact HL), rfl⟩) (.tmp rfl (.tmp rfl .n))) ?_
  intro w1 hS
  have hS := (hS.perm (Av.perm .n)).Ay
  exact ⟨_, .inl ⟨by simpa using c1, rfl, rfl⟩, hS⟩
 have c1p := kz c1
 have hgd : Bc.Bs l qs = true := by simpa using c1
 have hh := Bc.Tm hgd
 have hq6 : qs.length ≤ 17592186044416 := by omega
 refine Aa ?_
 refine AB (.t3 1 2 4) ?_
 refine AA (Gs (Gt (Af EU rfl) (Gt (AF rfl EI .m1 BC.l3 rfl rfl) ?_)))
 refine BD rfl U4 (.c rfl .n) .n (Bv _ _ (by first | assumption | omega)) (fun w hS => (Kn.Gv r0) w hS) (fun v1 B hv => ?_)
 obtain ⟨y2, rfl, y3, rfl⟩ := hv
 refine Gt (Af EU rfl) ?_
 refine AR (AK BC.l3 rfl rfl rfl LV rfl (.t (.t .h))) ?_
 refine Gn (.t3 1 2 4) (Gs (Ga rfl (AP (AA (Gs (Gt (Af Hi rfl) (Gt (AF rfl CB .m2 BC.l0 rfl rfl) ?_)))))))
 refine NJ rfl Tryz.underlying9 Tryz.underlying105 Tryz.underlying5 rfl (fun h5 h5l => ?_)
 refine Ga rfl (Gn (.t5 1 2 4 7 8) (CA (Gm rfl (Gt (BI rfl Tryz.underlying9 rfl) (Gm rfl (Gn (.t7 1 2 4 7 8 24 25) (Ae ?_)))))))
 refine Bj (.t7 7 8 25 1 2 4 24) ?_
 refine BU (.t (.t (.t .h))) ?_
 refine BU (.t (.t .h)) ?_
 refine BU (.t (.t .h)) ?_
 refine M3 (fun (k : Int) (now : As) (Cc : Bool) (ret : Bool) (queue : List As) (lost : Int) (h : Hd) (g : Hd) => Bc.I (Bc.start l qs) u k ⟨now, Cc, ret, queue, lost⟩ ∧ h.len = now.length ∧ g.len = queue.length) (fun (k : Int) (now : As) (Cc : Bool) (ret : Bool) (queue : List As) (lost : Int) (h : Hd) (g : Hd) => ((u.length : Int) - k).toNat) (fun (k : Int) (now : As) (Cc : Bool) (ret : Bool) (queue : List As) (lost : Int) (h : Hd) (g : Hd) => [(7, .int .i64 lost), (8, h.val), (25, .int .i64 k)]) (fun (k : Int) (now : As) (Cc : Bool) (ret : Bool) (queue : List As) (lost : Int) (h : Hd) (g : Hd) => [Ac.own h 5 1 (now.flatMap DE), Ac.own g 9 1 (queue.flatMap A4), Ac.box b1 75 (BC.enc ⟨l.now, Cc, ret, g⟩)]) (0) (l.now) (l.Cc) (l.ret) (qs) (0) (_) (_) ?_ rfl rfl (fun k now Cc ret queue lost h g hI1 => ?_)
 · exact ⟨Bc.I.start hh.1 (show qs.length ≤ 6 by omega) rfl, by assumption, by assumption⟩
 obtain ⟨hI11, hl, hg⟩ := hI1; have hk0 := hI11.k0; have hk1 := hI11.k1; have hn : now.length ≤ 60 := hI11.now; have hq : queue.length ≤ 6 := hI11.queue; have hlo : 0 ≤ lost ∧ lost ≤ k := hI11.lost
 refine Gs (Gt (A5 rfl rfl) (AP (AA (Ao ?_))))
 refine Gc (fun c2 => ?_) (fun c2 => ?_)
 ·
  have c2p := kz c2
  refine Aa ?_
  refine AB (.t7 1 2 4 7 8 24 25) ?_
  refine AA (Ao (Ae (Gs (Gm rfl (Ga rfl (Gn (.t8 1 2 4 7 8 9 24 25) (Gs ?_)))))))
  refine Gm rfl (Gm rfl ?_)
  refine Gt (Bh Tryz.underlying9 rfl rfl (by omega) (by omega)) ?_
  refine Ga rfl (Gn (.t8 1 2 4 7 8 10 24 25) (Gs (Gt (Af KP rfl) (Gt (AF rfl Ct .m2 BC.l2 rfl rfl) (Ga rfl (Gn (.t9 1 2 4 7 8 10 11 24 25) (Gs ?_)))))))
  refine Gt (Af KP rfl) ?_
  refine AR (AK BC.l2 rfl rfl rfl Jr rfl (.t (.t .h))) ?_
  refine Gn (.t9 1 2 4 7 8 10 11 24 25) (Ae (Gs (Gm rfl (Gm rfl (BZ 40 rfl rfl (fun q => AE rfl) (BZ 40 rfl rfl (fun q => Ai (BV rfl q) rfl) (BZ 40 rfl rfl (fun q => AE (BV rfl q)) ?_)))))))
  refine Cw (t := 43) rfl rfl rfl (fun qc q => AE rfl) ?_
  refine Cw (t := 43) rfl rfl rfl (fun qc q => Ai (BV rfl (by rw [qc, q]; rfl)) rfl) ?_
  refine BZ 40 rfl rfl (fun q => BR (BV rfl q) rfl (fun h => by rw [q, h]; rfl)) ?_
  refine Gt (BH rfl rfl (fun h => h)) (Ga rfl (Gn (.t9 1 2 4 7 8 10 24 25 38) ?_))
  refine Gc (fun c3 => ?_) (fun c3 => ?_)
  ·
   have c3p := kz c3
   refine Aa ?_
   refine AB (.t7 1 2 4 7 8 24 25) ?_
   refine AT (AT (AA (AI ?_)))
   refine Gt (Aw rfl rfl (IntWalk.i64_in _ (by omega))) ?_
   refine Gm rfl ?_
   refine AP (AB (.t7 1 2 4 7 8 24 25) ?_)
   refine CE (k + 1) _ _ _ _ _ _ _ ?_ ?_ (.t7 7 8 25 1 2 4 24) (.refl _)
   · exact ⟨hI11.next (by omega) (by simp only [Bc.step, hl, c1, c2, c3, ↓reduceIte, Bool.false_eq_true]), (by (try dsimp only at *) <;> (try simp only [List.length_append, List.length_take, List.length_cons, List.length_nil]) <;> omega), (by (try dsimp only at *) <;> (try simp only [List.length_append, List.length_cons, List.length_nil]) <;> omega)⟩
   · omega
  have c3p := kz c3
  refine Gs (Gm rfl (Gt (Ai rfl rfl) (Gm rfl (BW 51 rfl rfl (fun q => AE rfl) (BW 51 rfl rfl (fun q => Ai (cF rfl q) rfl) ?_)))))
  refine Gt (BR rfl rfl (fun h => by rw [h]; rfl)) ?_
  refine Ga rfl (Gn (.t9 1 2 4 7 8 10 24 25 48) ?_)
  refine Gc (fun c4 => ?_) (fun c4 => ?_)
  ·
   have c4p := kz c4
   refine CA (Gt (Af EU rfl) (Gt (AF rfl EI .m2 BC.l3 rfl rfl) (Gt (Aq rfl Tryz.underlying52 rfl) (Gt (A5 rfl rfl) (Gn (.t9 1 2 4 7 8 10 24 25 58) ?_)))))
   refine Gc (fun c5 => ?_) (fun c5 => ?_)
   ·
    have c5p := kz c5
    rw [hg] at c5
    refine AI (Gt (Af EU rfl) (Gt (AF rfl EI .m2 BC.l3 rfl rfl) (Gm rfl (Gt (JV Tryz.underlying105 Tryz.underlying9 Tryz.underlying5 rfl (Kn.own .m0)) ?_))))
    refine FP A4 DD rfl Tryz.underlying52 EW RM rfl (by decide) (by decide) rfl rfl (fun b3 => ?_)
    refine CT DD rfl Tryz.underlying52 EW RM rfl VY (by decide) (by decide) rfl rfl (fun w hS => Src.Dj Tryz.underlying52 ((Kn.own .m0) w hS)) (by (try dsimp only); omega) (fun _ => (.t (.t .h))) (fun h6 h6l h6z => ?_)
    refine Gt (Af EU rfl) ?_
    refine AR (AK BC.l3 rfl rfl rfl LV rfl (.t (.t (.t .h)))) ?_
    refine Gn (.t7 1 2 4 7 10 24 25) (AI (Gm rfl (Gt (Ai rfl rfl) (Ga rfl (Gt (Af KJ rfl) ?_)))))
    refine AR (AK BC.l1 rfl rfl rfl Jr rfl (.t (.t (.t .h)))) ?_
    refine Gt (Af KP rfl) ?_
    refine AR (AK BC.l2 rfl rfl rfl Jr rfl (.t (.t (.t .h)))) ?_
    refine AP (AB (.t7 1 2 4 7 8 24 25) ?_)
    refine AT (AT (AA (AI ?_)))
    refine Gt (Aw rfl rfl (IntWalk.i64_in _ (by omega))) ?_
    refine Gm rfl ?_
    refine AP (AB (.t7 1 2 4 7 8 24 25) ?_)
    refine TP DE 5 1 ?_
    refine CQ (.c .h (.c (.t (.t .h)) (.c (.t (.t .h)) (.c (.t (.t .h)) .n)))) ?_
    refine Cf ?_
    refine CE (k + 1) _ _ _ _ _ _ _ ?_ ?_ (.t7 7 8 25 1 2 4 24) (.refl _)
    · exact ⟨hI11.next (by omega) (by simp only [Bc.step, hl, c1, c2, c3, c4, c5, ↓reduceIte, Bool.false_eq_true]), (by (try dsimp only at *) <;> (try simp only [List.length_append, List.length_take, List.length_cons, List.length_nil]) <;> omega), (by (try dsimp only at *) <;> (try simp only [List.length_append, List.length_cons, List.length_nil]) <;> omega)⟩
    · omega
   have c5p := kz c5
   rw [hg] at c5
   refine AI (Gm rfl ?_)
   refine Gt (Aw rfl rfl (IntWalk.i64_in _ (by omega))) ?_
   refine Ga rfl (Gn (.t7 1 2 4 7 10 24 25) (AI (Gm rfl (Gt (Ai rfl rfl) (Ga rfl (Gt (Af KJ rfl) ?_))))))
   refine AR (AK BC.l1 rfl rfl rfl Jr rfl (.t (.t .h))) ?_
   refine Gt (Af KP rfl) ?_
   refine AR (AK BC.l2 rfl rfl rfl Jr rfl (.t (.t .h))) ?_
   refine AP (AB (.t7 1 2 4 7 8 24 25) ?_)
   refine AT (AT (AA (AI ?_)))
   refine Gt (Aw rfl rfl (IntWalk.i64_in _ (by omega))) ?_
   refine Gm rfl ?_
   refine AP (AB (.t7 1 2 4 7 8 24 25) ?_)
   refine TP DE 5 1 ?_
   refine CQ (.c .h (.c (.t .h) (.c (.t .h) (.c (.t .h) .n)))) ?_
   refine Cf ?_
   refine CE (k + 1) _ _ _ _ _ _ _ ?_ ?_ (.t7 7 8 25 1 2 4 24) (.refl _)
   · exact ⟨hI11.next (by omega) (by simp only [Bc.step, hl, c1, c2, c3, c4, c5, ↓reduceIte, Bool.false_eq_true]), (by (try dsimp only at *) <;> (try simp only [List.length_append, List.length_take, List.length_cons, List.length_nil]) <;> omega), (by (try dsimp only at *) <;> (try simp only [List.length_append, List.length_cons, List.length_nil]) <;> omega)⟩
   · omega
  have c4p := kz c4
  refine Gs (Gm rfl (Gt (Ai rfl rfl) (Gm rfl (BW 75 rfl rfl (fun q => AE rfl) (BW 75 rfl rfl (fun q => Ai (cF rfl q) rfl) ?_)))))
  refine Gt (BR rfl rfl (fun h => by rw [h]; rfl)) ?_
  refine Ga rfl (Gn (.t9 1 2 4 7 8 10 24 25 72) ?_)
  refine Gc (fun c6 => ?_) (fun c6 => ?_)
  ·
   have c6p := kz c6
   refine Gs (Gm rfl (Gt (Aq rfl Tryz.underlying105 rfl) (Gt (Cd rfl rfl) (Gn (.t8 1 2 4 7 8 24 25 81) ?_))))
   refine Gc (fun c7 => ?_) (fun c7 => ?_)
   ·
    have c7p := kz c7
    rw [hl] at c7
    refine AI (Gm rfl (Gm rfl (Gt (Aq rfl Tryz.underlying105 rfl) ?_)))
    refine Gt (E6 rfl rfl (IntWalk.i64_in _ (by omega))) ?_
    refine Jc U5 rfl Tryz.underlying105 Ue rfl rfl (by omega) (by omega) (fun _ => .h) ?_
    refine Ga rfl ?_
    refine AP (AB (.t7 1 2 4 7 8 24 25) ?_)
    refine AT (AT (AA (AI ?_)))
    refine Gt (Aw rfl rfl (IntWalk.i64_in _ (by omega))) ?_
    refine Gm rfl ?_
    refine AP (AB (.t7 1 2 4 7 8 24 25) ?_)
    refine CE (k + 1) _ _ _ _ _ _ _ ?_ ?_ (.t7 7 8 25 1 2 4 24) (.refl _)
    · exact ⟨hI11.next (by omega) (by simp only [Bc.step, hl, c1, c2, c3, c4, c6, c7, ↓reduceIte, Bool.false_eq_true]), (by (try dsimp only at *) <;> (try simp only [List.length_append, List.length_take, List.length_cons, List.length_nil]) <;> omega), (by (try dsimp only at *) <;> (try simp only [List.length_append, List.length_cons, List.length_nil]) <;> omega)⟩
    · omega
   have c7p := kz c7
   rw [hl] at c7
   refine Aa ?_
   refine AB (.t7 1 2 4 7 8 24 25) ?_
   refine AT (AT (AA (AI ?_)))
   refine Gt (Aw rfl rfl (IntWalk.i64_in _ (by omega))) ?_
   refine Gm rfl ?_
   refine AP (AB (.t7 1 2 4 7 8 24 25) ?_)
   refine CE (k + 1) _ _ _ _ _ _ _ ?_ ?_ (.t7 7 8 25 1 2 4 24) (.refl _)
   · exact ⟨hI11.next (by omega) (by simp only [Bc.step, hl, c1, c2, c3, c4, c6, c7, ↓reduceIte, Bool.false_eq_true]), (by (try dsimp only at *) <;> (try simp only [List.length_append, List.length_take, List.length_cons, List.length_nil]) <;> omega), (by (try dsimp only at *) <;> (try simp only [List.length_append, List.length_cons, List.length_nil]) <;> omega)⟩
   · omega
  have c6p := kz c6
  refine Gs (Gm rfl ?_)
  refine A8 rfl Y5 (.c rfl .n) (fun w hS => GJ _ w) ?_
  refine Gt (BO rfl) (Ga rfl (Gn (.t9 1 2 4 7 8 10 24 25 87) ?_))
  refine Gc (fun c8 => ?_) (fun c8 => ?_)
  ·
   have c8p := kz c8
   refine Aa ?_
   refine AB (.t7 1 2 4 7 8 24 25) ?_
   refine AT (AT (AA (AI ?_)))
   refine Gt (Aw rfl rfl (IntWalk.i64_in _ (by omega))) ?_
   refine Gm rfl ?_
   refine AP (AB (.t7 1 2 4 7 8 24 25) ?_)
   refine CE (k + 1) _ _ _ _ _ _ _ ?_ ?_ (.t7 7 8 25 1 2 4 24) (.refl _)
   · exact ⟨hI11.next (by omega) (by simp only [Bc.step, hl, c1, c2, c3, c4, c6, c8, ↓reduceIte, Bool.false_eq_true]), (by (try dsimp only at *) <;> (try simp only [List.length_append, List.length_take, List.length_cons, List.length_nil]) <;> omega), (by (try dsimp only at *) <;> (try simp only [List.length_append, List.length_cons, List.length_nil]) <;> omega)⟩
   · omega
  have c8p := kz c8
  refine Gs (Gm rfl (Gt (Aq rfl Tryz.underlying105 rfl) (Gt (CH rfl rfl) (Ga rfl (Gn (.t9 1 2 4 7 8 10 24 25 91) ?_)))))
  refine Gc (fun c9 => ?_) (fun c9 => ?_)
  ·
   have c9p := kz c9
   rw [hl] at c9
   refine AI (Gt (Af KJ rfl) ?_)
   refine AR (AK BC.l1 rfl rfl rfl Jr rfl (.t (.t .h))) ?_
   refine AP (AB (.t7 1 2 4 7 8 24 25) ?_)
   refine AT (AT (AA (AI ?_)))
   refine Gt (Aw rfl rfl (IntWalk.i64_in _ (by omega))) ?_
   refine Gm rfl ?_
   refine AP (AB (.t7 1 2 4 7 8 24 25) ?_)
   refine CE (k + 1) _ _ _ _ _ _ _ ?_ ?_ (.t7 7 8 25 1 2 4 24) (.refl _)
   · exact ⟨hI11.next (by omega) (by simp only [Bc.step, hl, c1, c2, c3, c4, c6, c8, c9, ↓reduceIte, Bool.false_eq_true]), (by (try dsimp only at *) <;> (try simp only [List.length_append, List.length_take, List.length_cons, List.length_nil]) <;> omega), (by (try dsimp only at *) <;> (try simp only [List.length_append, List.length_cons, List.length_nil]) <;> omega)⟩
   · omega
  have c9p := kz c9
  rw [hl] at c9
  refine AI (Gm rfl (Gm rfl ?_))
  refine FP DE U5 rfl Tryz.underlying105 Ue Y4 rfl (by decide) (by decide) rfl rfl (fun b4 => ?_)
  refine CT U5 rfl Tryz.underlying105 Ue Y4 rfl aq (by decide) (by decide) rfl rfl (fun w hS => Src.Dj Tryz.underlying105 ((Kn.own .m0) w hS)) (by (try dsimp only); omega) (fun _ => (.t .h)) (fun h9 h9l h9z => ?_)
  refine Ga rfl ?_
  refine AP (AB (.t7 1 2 4 7 8 24 25) ?_)
  refine AT (AT (AA (AI ?_)))
  refine Gt (Aw rfl rfl (IntWalk.i64_in _ (by omega))) ?_
  refine Gm rfl ?_
  refine AP (AB (.t7 1 2 4 7 8 24 25) ?_)
  refine CE (k + 1) _ _ _ _ _ _ _ ?_ ?_ (.t7 7 8 25 1 2 4 24) (.cons _ (.refl _))
  · exact ⟨hI11.next (by omega) (by simp only [Bc.step, hl, c1, c2, c3, c4, c6, c8, c9, ↓reduceIte, Bool.false_eq_true]), (by (try dsimp only at *) <;> (try simp only [List.length_append, List.length_take, List.length_cons, List.length_nil]) <;> omega), (by (try dsimp only at *) <;> (try simp only [List.length_append, List.length_cons, List.length_nil]) <;> omega)⟩
  · omega
 have c2p := kz c2
 refine Ba (AV (AV (Ah ?_)))
 refine AB (.t4 2 4 7 8) ?_
 refine AA (Gs (Gm rfl (Gt (JV Tryz.underlying105 Tryz.underlying9 Tryz.underlying5 rfl (Kn.own .m0)) (Gt (Af Hi rfl) ?_))))
 refine AR (AK BC.l0 rfl rfl rfl EW rfl (.t (.t .h))) ?_
 refine Gn (.t3 2 4 7) (Gs (Gt (AZ rfl HL .m2 (AS.id BC.fl.len BC.fl.one) rfl) (Gm rfl ?_)))
 refine AR (AK (AS.id BC.fl.len BC.fl.one) rfl rfl rfl LU rfl (.t (.t (.t .h)))) ?_
 refine Ga rfl (Ga rfl (Gn (.t3 4 5 6) (Ab ?_)))
 refine AY rfl (.cell rfl .m3 (.inl ⟨(by rw [BC.fl.len]; exact HL), rfl⟩) (.tmp rfl (.tmp rfl .n))) ?_
 intro w1 hS
 have hS := (hS.perm (Av.perm (.c (.t .h) .n))).Ay
 have e := hI11.done (by omega)
 exact ⟨_, .inr ⟨hgd, _, by rw [e]; rfl, by rw [e]; exact hg, by rw [e]⟩, hS⟩
theorem MP (p : Ar) (n : Int) (w : World) : EF Tryz.prog 66 #[.agg p.enc.toArray, .int .i64 n] w fun v w' => v = .tuple #[.agg (Ar.enc ⟨p.wait, p.shown, p.B4, p.ring.drop (max 0 (min n (p.ring.length : Int))).toNat, p.cut⟩).toArray, BP (p.ring.take (max 0 (min n (p.ring.length : Int))).toNat)] ∧ B3 w w' := by
 refine Aj [] [] Tryz.func66 rfl rfl rfl (St.start w []) ?_
 refine Gs ?_
 refine Bu rfl rfl rfl (fun b1 => ?_)
 refine BG rfl Rq rfl (fun b2 => ?_)
 refine Ga rfl (Gn (.t3 1 2 4) (Gs (Gm rfl (Gt (Af Hm rfl) (Gt (AF rfl CB .m1 Ar.l3 rfl rfl) (Gt (BI rfl Tryz.underlying9 rfl) (Gt (Jf rfl rfl) ?_)))))))
 refine Gt (Kg rfl rfl) (Ga rfl (Gn (.t3 1 2 4) (Gs (Gt (Af Hm rfl) (Gt (AF rfl CB .m1 Ar.l3 rfl rfl) (Gm rfl ?_))))))
 refine Gt (Hv Tryz.underlying9 rfl rfl (by omega) (by omega)) ?_
 refine Ga rfl (Gn (.t4 1 2 4 6) (Gs (Gt (Af Hm rfl) (Gt (AF rfl CB .m1 Ar.l3 rfl rfl) (Gm rfl ?_)))))
 refine Gt (F7 Tryz.underlying9 rfl rfl (by omega) (by omega)) ?_
 refine Gt (Af Hm rfl) ?_
 refine AR (AK Ar.l3 rfl rfl rfl EW rfl (.t .h)) ?_
 refine Gn (.t3 2 4 6) (Gs (Gt (AZ rfl Cn .m1 (AS.id Ar.fl.len Ar.fl.one) rfl) (Gm rfl ?_)))
 refine AR (AK (AS.id Ar.fl.len Ar.fl.one) rfl rfl rfl E4 rfl .h) ?_
 refine Ga rfl (Gn (.t2 4 5) (Ab ?_))
 refine AY rfl (.cell rfl .m0 (.inl ⟨(by rw [Ar.fl.len]; exact Cn), rfl⟩) (.tmp rfl .n)) ?_
 intro w1 hS; refine ⟨?_, hS.Am⟩; rfl
theorem E9 (b : Nat) (V : AJ) (ls : Vector BE 4) (ev : List Ing.Event) (a : Bq) (hL : AL.Live (A3 V ls ev)) (hu : a.bytes.length ≤ 140737488351232) : Eu Tryz.prog 38 #[.pointer (some ⟨b, 0, none⟩), .agg a.enc.toArray] [Ac.box b 101 (AJ.enc V), Ac.DY (B6 9 (AJ.Ap V) ls), Ac.own (AJ.last V) 56 16 ((ev).flatMap Ing.Event.enc)] (fun w => (GV 2 FV w ∧ 2 ∉ CW [Ac.box b 101 (AJ.enc V), Ac.DY (B6 9 (AJ.Ap V) ls), Ac.own (AJ.last V) 56 16 ((ev).flatMap Ing.Event.enc)]) ∧ (GV 0 AH.C4 w ∧ 0 ∉ CW [Ac.box b 101 (AJ.enc V), Ac.DY (B6 9 (AJ.Ap V) ls), Ac.own (AJ.last V) 56 16 ((ev).flatMap Ing.Event.enc)]) ∧ (GG 7 w ∧ 7 ∉ CW [Ac.box b 101 (AJ.enc V), Ac.DY (B6 9 (AJ.Ap V) ls), Ac.own (AJ.last V) 56 16 ((ev).flatMap Ing.Event.enc)]) ∧ (GG 8 w ∧ 8 ∉ CW [Ac.box b 101 (AJ.enc V), Ac.DY (B6 9 (AJ.Ap V) ls), Ac.own (AJ.last V) 56 16 ((ev).flatMap Ing.Event.enc)])) (fun v B => ∃ V' ls' ev', v = .agg (Be.enc (AL.act (A3 V ls ev) a).2).toArray ∧ A3 V' ls' ev' = (AL.act (A3 V ls ev) a).1 ∧ B = [Ac.box b 101 (AJ.enc V'), Ac.DY (B6 9 (AJ.Ap V') ls'), Ac.own (AJ.last V') 56 16 ((ev').flatMap Ing.Event.enc)]) := by
 intro w hS0 hH
 obtain ⟨⟨gl0, gm0⟩, ⟨gl1, gm1⟩, ⟨gl2, gm2⟩, ⟨gl3, gm3⟩⟩ := hH
 obtain ⟨n, m, hF⟩ := hL.fits
 have hc : 0 ≤ V.Ce := hL.Ce
 refine Aj _ _ Tryz.func38 rfl rfl rfl (hS0) ?_
 refine Gs ?_
 refine Bu rfl rfl rfl (fun b1 => ?_)
 refine BG rfl Iz rfl (fun b2 => ?_)
 refine Gn (.t3 0 3 4) (Ao (Ae (Gs (Gm rfl (Gt (D2 Tryz.underlying37 rfl) (Ga rfl (Gn (.t4 0 3 4 11) ?_)))))))
 refine DX rfl rfl ?_
 refine Gs (Gm rfl (Gt (BS rfl) (Gt (Af QE rfl) (Gt (AF rfl A1 .m2 AJ.l2 rfl rfl) (Gt (CH rfl rfl) (Ga rfl (Gn (.t4 0 3 4 15) ?_)))))))
 refine Gc (fun c1 => ?_) (fun c1 => ?_)
 ·
  refine Gs (Gt (A9 Lr Iz rfl (.cons Be.l0 rfl rfl rfl .nil)) ?_)
  refine AR (AK (AS.id Be.fl.len Be.fl.one) rfl rfl rfl Jo rfl .h) ?_
  refine Gn (.t1 4) (Ab (AO (AD ?_)))
  refine AY rfl (.cell rfl .m0 (.inl ⟨(by rw [Be.fl.len]; exact H6), rfl⟩) .n) ?_
  intro w1 hS
  have hS := (hS.perm (Av.perm (.c (.t (.t .h)) (.c (.t (.t .h)) (.c (.t (.t .h)) .n))))).Ay
  have hq : (AL.act (A3 V ls ev) a) = ((A3 V ls ev), ⟨4, []⟩) := BB c1
  refine ⟨_, ⟨V, ls, ev, ?gv1, ?ga1, rfl⟩, hS⟩
  case gv1 => rw [hq]; rfl
  case ga1 => rw [hq]
 have c1p := kz c1
 refine Aa ?_
 refine AB (.t3 0 3 4) ?_
 refine AT (AA (Gs (Gm rfl (Gt (BS rfl) (Gt (Af QE rfl) (Gt (AF rfl A1 .m2 AJ.l2 rfl rfl) ?_))))))
 refine Gt (Aw rfl rfl (IntWalk.i64_in _ (by first | omega | exact hi.1 | exact hi.2 | exact hs.1 | exact hs.2))) ?_
 refine Gt (BS rfl) (Gt (Af QE rfl) ?_)
 refine AR (AK AJ.l2 rfl rfl rfl C3 rfl (.t (.t .h))) ?_
 refine Gn (.t3 0 3 4) (Gs (Gm rfl (Gt (BS rfl) (Gt (Af PZ rfl) ?_))))
 refine AR (AK (Y := ⟨none, 0, 0⟩) AJ.l3 rfl rfl rfl Qp rfl (.t (.t .h))) ?_
 refine Gn (.t3 0 3 4) (Ao (Ao ?_))
 refine Ep Ing.Event.enc 56 16 ?_
 refine D6 (.c (.t (.t (.t .h))) (.c (.t (.t (.t .h))) (.c .h .n))) ?_
 refine AI (Gm rfl (AP (AA (Ae ?_))))
 refine Bj (.t4 32 0 3 4) ?_
 refine BU (.t (.t .h)) ?_
 refine BU (.t (.t .h)) ?_
 refine BU (.t (.t .h)) ?_
 refine Gk (fun (i : Int) (V1 : AJ) (ls1 : Vector BE 4) (ev1 : List Ing.Event) => 0 ≤ i ∧ i ≤ 4 ∧ (A3 V1 ls1 ev1) = AL.EJ ({ (A3 V ls ev) with Ce := ((A3 V ls ev)).Ce + 1, last := [] } : AL) i.toNat) (fun (i : Int) (V1 : AJ) (ls1 : Vector BE 4) (ev1 : List Ing.Event) => (4 - i).toNat) (fun (i : Int) (V1 : AJ) (ls1 : Vector BE 4) (ev1 : List Ing.Event) => [(32, .int .i64 i)]) (fun (i : Int) (V1 : AJ) (ls1 : Vector BE 4) (ev1 : List Ing.Event) => [Ac.box b 101 (AJ.enc V1), Ac.DY (B6 9 (AJ.Ap V1) ls1), Ac.own (AJ.last V1) 56 16 (ev1.flatMap Ing.Event.enc)]) (0) (_) (ls) ([]) ?_ rfl rfl (fun i V1 ls1 ev1 hI1 => ?_)
 · exact ⟨by omega, by omega, rfl⟩
 obtain ⟨hI11, hI12, hI13⟩ := hI1
 refine Gs (Gt (A5 rfl rfl) (AP (AA (Ao ?_))))
 refine Gc (fun c2 => ?_) (fun c2 => ?_)
 ·
  have c2p := kz c2
  have hi : 0 ≤ i ∧ i < 4 := ⟨by omega, by omega⟩
  refine Aa ?_
  refine AB (.t4 0 3 4 32) ?_
  refine AA (Ao (Ae (Gs (Gm rfl (Ga rfl (Gn (.t5 0 3 4 5 32) ?_))))))
  refine Er (k := i) hi.1 hi.2 (fun sv sl hsv hlv hln => ?_)
  refine AI (Gm rfl (Gm rfl (Gt (BS rfl) (Gt (Af FO rfl) ?_))))
  refine Gt (AQ Mq rfl rfl (by first | omega | exact hi.1 | exact hi.2 | exact hs.1 | exact hs.2) (by first | omega | exact hi.1 | exact hi.2 | exact hs.1 | exact hs.2)) ?_
  refine Gt (Af P5 rfl) ?_
  refine AR (AK (Y := ⟨none, 0, 0⟩) ((AS.BL V1 hi.1 hi.2).comp A0.l5) rfl rfl rfl LV rfl (.t (.t (.t .h)))) ?_
  refine AP (AB (.t4 0 3 4 32) ?_)
  refine AT (AA ?_)
  refine Ep A4 9 1 ?_
  refine D6 (.c (.t .h) (.c (.t .h) (.c .h (.c (.t .h) (.c (.t .h) .n))))) ?_
  refine GZ hi.1 hi.2 (by rfl) (by rfl) (by rfl) ?_
  refine AI ?_
  refine Gt (Aw rfl rfl (IntWalk.i64_in _ (by first | omega | exact hi.1 | exact hi.2 | exact hs.1 | exact hs.2))) ?_
  refine Gm rfl ?_
  refine AP (AB (.t4 0 3 4 32) ?_)
  refine CQ (.c .h (.c .h (.c (.t .h) (.c (.t .h) (.c (.t .h) (.c (.t .h) .n)))))) ?_
  refine Cf ?_
  refine Cs (i + 1) _ _ _ ?_ ?_ (.t4 32 0 3 4) (.refl _)
  · exact ⟨by omega, by omega, (ET hi.1 hi.2 hsv hlv (f := fun x => { x with told := [] }) rfl).trans (by rw [hI13]; exact (AL.Pu hI11).symm)⟩
  · omega
 have c2p := kz c2
 obtain rfl : i = 4 := by omega
 have hX : (A3 V1 ls1 ev1) = (AL.begun (A3 V ls ev)) := hI13
 have hF0 : AL.Fit (A3 V1 ls1 ev1) 0 0 := by rw [hX]; exact hF.begun
 refine Ba (AV (AV (Ah ?_)))
 refine AB (.t3 0 3 4) ?_
 refine AA (CA (Gt (Af N4 rfl) (Gt (AF rfl A1 .m4 Bq.l0 rfl rfl) (Gt (Ai rfl rfl) (Gn (.t4 0 3 4 44) ?_)))))
 refine Gc (fun c3 => ?_) (fun c3 => ?_)
 ·
  have c3p := kz c3
  refine Gs (Gm rfl (Gt (Af Vq rfl) (Gt (AF rfl A1 .m4 Bq.l2 rfl rfl) ?_)))
  refine BD rfl bZ (.c rfl (.c rfl .n)) (.c .h (.c .h (.c .h .n))) (OX _ V1 ls1 ev1 a.n 0 0 hF0 (by omega) (by omega)) (fun w hS => ⟨gl0.pull gm0 hS (.c .h (.c .h (.c .h .n))), gl1.pull gm1 hS (.c .h (.c .h (.c .h .n))), gl2.pull gm2 hS (.c .h (.c .h (.c .h .n))), gl3.pull gm3 hS (.c .h (.c .h (.c .h .n)))⟩) (fun v2 B hv => ?_)
  obtain ⟨y3, y4, y5, rfl, y6, rfl⟩ := hv
  refine Gn (.t1 4) (Gs (Gt (A9 Lr Iz rfl .nil) ?_))
  refine AR (AK (AS.id Be.fl.len Be.fl.one) rfl rfl rfl Jo rfl (.t (.t (.t .h)))) ?_
  refine Gn (.t1 4) (Ab (AD ?_))
  refine AY rfl (.cell rfl .m3 (.inl ⟨(by rw [Be.fl.len]; exact H6), rfl⟩) .n) ?_
  intro w1 hS
  have hS := (hS.perm (Av.perm (.c .h (.c .h (.c .h .n))))).Ay
  have hq0 : AL.Eh (A3 V1 ls1 ev1) a = _ := (BB c3)
  have hq : (AL.act (A3 V ls ev) a) = _ := (AL.Fe c1 a).trans ((congrArg (fun X => AL.Eh X a) hX.symm).trans hq0)
  refine ⟨_, ⟨y3, y4, y5, ?gv2, ?ga2, rfl⟩, hS⟩
  case gv2 => rw [hq]; rfl
  case ga2 => rw [hq]; dsimp only; exact y6
 have c3p := kz c3
 refine Aa ?_
 refine AB (.t3 0 3 4) ?_
 refine AA (CA (Gt (Af N4 rfl) (Gt (AF rfl A1 .m4 Bq.l0 rfl rfl) (Gt (A5 rfl rfl) (Gm rfl (BW 53 rfl rfl (fun q => Af N4 rfl) (BW 53 rfl rfl (fun q => AF (cF rfl q) A1 .m4 Bq.l0 rfl rfl) ?_)))))))
 refine BW 53 rfl rfl (fun q => Cd (cF rfl q) rfl) ?_
 refine Gt (BR rfl rfl (fun h => by rw [h]; rfl)) ?_
 refine Gn (.t4 0 3 4 57) ?_
 refine Gc (fun c4 => ?_) (fun c4 => ?_)
 ·
  refine Gs (Gt (A9 Lr Iz rfl (.cons Be.l0 rfl rfl rfl .nil)) ?_)
  refine AR (AK (AS.id Be.fl.len Be.fl.one) rfl rfl rfl Jo rfl (.t (.t (.t .h)))) ?_
  refine Gn (.t1 4) (Ab (AD ?_))
  refine AY rfl (.cell rfl .m3 (.inl ⟨(by rw [Be.fl.len]; exact H6), rfl⟩) .n) ?_
  intro w1 hS
  have hS := (hS.perm (Av.perm (.c .h (.c .h (.c .h .n))))).Ay
  have hq0 : AL.Eh (A3 V1 ls1 ev1) a = _ := ((AU c3).trans (BB c4))
  have hq : (AL.act (A3 V ls ev) a) = _ := (AL.Fe c1 a).trans ((congrArg (fun X => AL.Eh X a) hX.symm).trans hq0)
  refine ⟨_, ⟨V1, ls1, ev1, ?gv3, ?ga3, rfl⟩, hS⟩
  case gv3 => rw [hq]; rfl
  case ga3 => rw [hq]
 have c4p := kz c4
 refine Aa ?_
 refine AB (.t3 0 3 4) ?_
 refine AA (CA (Gt (Af Sl rfl) (Gt (AF rfl A1 .m4 Bq.l1 rfl rfl) (Gt (A5 rfl rfl) (Gm rfl (BW 62 rfl rfl (fun q => Af Sl rfl) (BW 62 rfl rfl (fun q => AF (cF rfl q) A1 .m4 Bq.l1 rfl rfl) ?_)))))))
 refine BW 62 rfl rfl (fun q => CH (cF rfl q) rfl) ?_
 refine Gt (BR rfl rfl (fun h => by rw [h]; rfl)) ?_
 refine Gn (.t4 0 3 4 66) ?_
 refine Gc (fun c5 => ?_) (fun c5 => ?_)
 ·
  refine Gs (Gt (A9 Lr Iz rfl (.cons Be.l0 rfl rfl rfl .nil)) ?_)
  refine AR (AK (AS.id Be.fl.len Be.fl.one) rfl rfl rfl Jo rfl (.t (.t (.t .h)))) ?_
  refine Gn (.t1 4) (Ab (AD ?_))
  refine AY rfl (.cell rfl .m3 (.inl ⟨(by rw [Be.fl.len]; exact H6), rfl⟩) .n) ?_
  intro w1 hS
  have hS := (hS.perm (Av.perm (.c .h (.c .h (.c .h .n))))).Ay
  have hq0 : AL.Eh (A3 V1 ls1 ev1) a = _ := ((AU c3).trans ((AU c4).trans (BB c5)))
  have hq : (AL.act (A3 V ls ev) a) = _ := (AL.Fe c1 a).trans ((congrArg (fun X => AL.Eh X a) hX.symm).trans hq0)
  refine ⟨_, ⟨V1, ls1, ev1, ?gv4, ?ga4, rfl⟩, hS⟩
  case gv4 => rw [hq]; rfl
  case ga4 => rw [hq]
 have c5p := kz c5
 have hs : 0 ≤ a.BL ∧ a.BL < 4 := ⟨by omega, by omega⟩
 refine Aa ?_
 refine AB (.t3 0 3 4) ?_
 refine AA (Ao ?_)
 refine BF (N := 7) [0, 0, 2, 1, 9, 31, 63] mix (by kernel_rfl) rfl ?_
 refine Pf 0 rfl (AE rfl) (Pf 1 rfl (Af Sl rfl) (Pf 2 rfl (AF rfl A1 .m4 Bq.l1 rfl rfl) (Pf 3 rfl (BS rfl) (Pf 4 rfl (Af FO rfl) ?_))))
 refine Pf 5 rfl (AQ Mq rfl rfl (by first | omega | exact hi.1 | exact hi.2 | exact hs.1 | exact hs.2) (by first | omega | exact hi.1 | exact hi.2 | exact hs.1 | exact hs.2)) ?_
 refine Pf 6 rfl (Az rfl) ?_
 refine A2 (by kernel_rfl) ?_
 refine AB (.t4 0 3 4 6) ?_
 refine AA (Ao (Ao ?_))
 refine BF (N := 9) [0, 1, 3, 7, 15, 0, 32, 96, 255] mix (by kernel_rfl) rfl ?_
 refine Pf 0 rfl (AE rfl) (Pf 1 rfl (BS rfl) (Pf 2 rfl (Af IH rfl) ?_))
 refine Pf 3 rfl (AF rfl A1 .m0 ((AJ.l1.comp (AS.ar (n := 4) A0.fl (by first | omega | exact hi | exact hs))).comp A0.l0) rfl rfl) ?_
 refine Pf 4 rfl (Ai rfl rfl) (Pf 5 rfl (Af N4 rfl) (Pf 6 rfl (AF rfl A1 .m4 Bq.l0 rfl rfl) (Pf 7 rfl (Ai rfl rfl) (Pf 8 rfl (I4 Tryz.underlying4 rfl rfl) ?_))))
 refine A2 (by kernel_rfl) ?_
 refine AB (.t5 0 3 4 6 82) ?_
 refine AA ?_
 refine Gc (fun c6 => ?_) (fun c6 => ?_)
 ·
  refine Gs (Gt (A9 Lr Iz rfl (.cons Be.l0 rfl rfl rfl .nil)) ?_)
  refine AR (AK (AS.id Be.fl.len Be.fl.one) rfl rfl rfl Jo rfl (.t (.t (.t .h)))) ?_
  refine Gn (.t1 4) (Ab (AD ?_))
  refine AY rfl (.cell rfl .m3 (.inl ⟨(by rw [Be.fl.len]; exact H6), rfl⟩) .n) ?_
  intro w1 hS
  have hS := (hS.perm (Av.perm (.c .h (.c .h (.c .h .n))))).Ay
  have hq0 : AL.Eh (A3 V1 ls1 ev1) a = _ := ((AU c3).trans ((AU c4).trans ((AU c5).trans (BB (show (decide ((AL.at_ (A3 V1 ls1 ev1) a.BL).state = 0) != decide (a.kind = 1)) = true by rw [GD V1 ls1 ev1 hs.1 hs.2]; exact c6)))))
  have hq : (AL.act (A3 V ls ev) a) = _ := (AL.Fe c1 a).trans ((congrArg (fun X => AL.Eh X a) hX.symm).trans hq0)
  refine ⟨_, ⟨V1, ls1, ev1, ?gv5, ?ga5, rfl⟩, hS⟩
  case gv5 => rw [hq]; rfl
  case ga5 => rw [hq]
 have c6p := kz c6
 refine Aa ?_
 refine AB (.t4 0 3 4 6) ?_
 refine AA (CA (Gt (Af N4 rfl) (Gt (AF rfl A1 .m4 Bq.l0 rfl rfl) (Gn (.t5 0 3 4 6 85) (Ae (Gs (Gt (Ai rfl rfl) ?_)))))))
 refine Ga rfl (Gn (.t6 0 3 4 6 85 86) ?_)
 refine Gc (fun c7 => ?_) (fun c7 => ?_)
 ·
  have c7p := kz c7
  refine AI (Gm rfl (Gm rfl ?_))
  refine BD rfl cB (.c rfl (.c rfl .n)) (.c .h (.c .h (.c .h .n))) (QC _ V1 ls1 ev1 a.BL 0 0 hs hF0 (by omega) (by omega)) (fun w hS => ⟨gl0.pull gm0 hS (.c .h (.c .h (.c .h .n))), gl1.pull gm1 hS (.c .h (.c .h (.c .h .n))), gl2.pull gm2 hS (.c .h (.c .h (.c .h .n))), gl3.pull gm3 hS (.c .h (.c .h (.c .h .n)))⟩) (fun v7 B hv => ?_)
  obtain ⟨y8, y9, y10, rfl, y11, rfl⟩ := hv
  refine AP (AB (.t1 4) ?_)
  refine AT (AA (Gs (Gt (A9 Lr Iz rfl .nil) ?_)))
  refine AR (AK (AS.id Be.fl.len Be.fl.one) rfl rfl rfl Jo rfl (.t (.t (.t .h)))) ?_
  refine Gn (.t1 4) (Ab ?_)
  refine AY rfl (.cell rfl .m3 (.inl ⟨(by rw [Be.fl.len]; exact H6), rfl⟩) .n) ?_
  intro w1 hS
  have hS := (hS.perm (Av.perm (.c .h (.c .h (.c .h .n))))).Ay
  have hq0 : AL.Eh (A3 V1 ls1 ev1) a = _ := ((AU c3).trans ((AU c4).trans ((AU c5).trans ((AU (show (decide ((AL.at_ (A3 V1 ls1 ev1) a.BL).state = 0) != decide (a.kind = 1)) = false by rw [GD V1 ls1 ev1 hs.1 hs.2]; exact c6)).trans (BB c7)))))
  have hq : (AL.act (A3 V ls ev) a) = _ := (AL.Fe c1 a).trans ((congrArg (fun X => AL.Eh X a) hX.symm).trans hq0)
  refine ⟨_, ⟨y8, y9, y10, ?gv6, ?ga6, rfl⟩, hS⟩
  case gv6 => rw [hq]; rfl
  case ga6 => rw [hq]; dsimp only; exact y11
 have c7p := kz c7
 refine Gs (Gt (Ai rfl rfl) (Ga rfl (Gn (.t6 0 3 4 6 85 91) ?_)))
 refine Gc (fun c8 => ?_) (fun c8 => ?_)
 ·
  have c8p := kz c8
  refine Gs (Ga rfl (Ga rfl (Gn (.t4 0 3 4 6) (Ao ?_))))
  refine Er (k := a.BL) hs.1 hs.2 (fun sv sl hsv hlv hln => ?_)
  refine BF (N := 18) [0, 0, 2, 6, 14, 0, 32, 126, 254, 510, 510, 510, 510, 1023, 9215, 25599, 59391, 126975] mix (by kernel_rfl) rfl ?_
  refine Pf 0 rfl (AE rfl) (Pf 1 rfl (AE rfl) (Pf 2 rfl (BS rfl) (Pf 3 rfl (Af KT rfl) (Pf 4 rfl (AZ rfl Dp .m3 ((AS.BL V1 hs.1 hs.2).comp A0.l2) rfl) (Pf 5 rfl (Af ZB rfl) (Pf 6 rfl (AF rfl CB .m7 Bq.l3 rfl rfl) ?_))))))
  refine BX 7 rfl rfl (by kernel_rfl) (Kx (KX (Dr cE (.c rfl (.c rfl .n)) (fun w hS => Ld _ _ (by omega) w)))) ?_
  refine Pf 8 rfl (AE rfl) (Pf 9 rfl (AM rfl rfl) (Pf 10 rfl (AM rfl rfl) (Pf 11 rfl (AM rfl rfl) (Pf 12 rfl (AM rfl rfl) (Pf 13 rfl (BS rfl) (Pf 14 rfl (Af KT rfl) ?_))))))
  refine An 15 rfl (by kernel_rfl) ?_
  refine AR (AK ((AS.BL V1 hs.1 hs.2).comp A0.l2) rfl rfl rfl Jp rfl (.t (.t (.t .h)))) ?_
  refine BK rfl ⟨?_, ?_⟩
  · exact (Pk (Pk (Po rfl (AM rfl rfl) rfl rfl (Po rfl (AM rfl rfl) rfl rfl (Po rfl (AM rfl rfl) rfl rfl (Pk (Pk (Pk (Pk (Pk (Pk (Pk (Pk (Pk (Pk Au)))))))))))))))
  refine Pf 16 rfl (Az rfl) (Pf 17 rfl (Az rfl) ?_)
  refine A2 (by kernel_rfl) ?_
  refine AB (.t5 0 4 6 7 8) ?_
  refine AA (Gs (Gm rfl (Gm rfl (Gt (BS rfl) (Gt (Af Db rfl) (Gt (AZ rfl Cn .m3 ((AS.BL V1 hs.1 hs.2).comp A0.l4) rfl) (Gm rfl ?_)))))))
  refine A8 rfl Wg (.c rfl (.c rfl .n)) (fun w hS => D9 _ _ (by have h := AN.Tu sv.EE a.bytes; omega) w) ?_
  refine Gm rfl (Gt (AM rfl rfl) (Gt (AM rfl rfl) (Gt (BS rfl) (Gt (Af Db rfl) ?_))))
  refine AR (AK ((AS.BL V1 hs.1 hs.2).comp A0.l4) rfl rfl rfl E4 rfl (.t (.t (.t .h)))) ?_
  refine Gn (.t4 0 4 6 7) (Gs (Ga rfl (Gn (.t4 0 4 6 7) (CA (Gm rfl (Gm rfl (Gt (BS rfl) ?_)))))))
  refine Gt (Af KW rfl) (Gt (AZ rfl HL .m3 ((AS.BL V1 hs.1 hs.2).comp A0.l3) rfl) (Gm rfl ?_))
  refine BD rfl bY (.c rfl (.c rfl .n)) .n (Ni _ _ _ (by have h := UX sv.EE a.bytes; omega)) (fun w hS => (Kn.own .m0) w hS) (fun v12 B hv => ?_)
  rcases hv with ⟨y13, rfl, rfl⟩ | ⟨y14, y15, rfl, y16, rfl⟩
  ·
   refine Gm rfl (Gt (AM rfl rfl) (Gt (AM rfl rfl) (Gt (AM rfl rfl) (Gt (BS rfl) (Gt (Af KW rfl) ?_)))))
   refine AR (AK ((AS.BL V1 hs.1 hs.2).comp A0.l3) rfl rfl rfl LU rfl (.t (.t (.t .h)))) ?_
   refine Ga rfl (Gn (.t4 0 4 6 9) (Ao ?_))
   refine D6 (.c .h (.c .h (.c .h (.c .h (.c .h .n))))) ?_
   refine GZ hs.1 hs.2 (by rfl) (by rfl) (by rfl) ?_
   refine AI (Gm rfl (Gt (Cd rfl rfl) (Gn (.t4 0 4 6 134) ?_)))
   refine Gc (fun c9 => ?_) (fun c9 => ?_)
   ·
    have c9p := kz c9
    refine AI (Gm rfl (Gm rfl ?_))
    refine Ag rfl Sv (.c rfl (.c rfl (.c rfl .n))) (.c .h (.c .h (.c .h .n))) (D4 _ (AJ.BL V1 a.BL (heard sv a.bytes)) (ls1.put a.BL ⟨sl.queue, sl.wait, sl.told⟩) ev1 a.BL _ hs (Nat.le_trans (F9 (Hq hs.1 hs.2 (Ev (V := V1) (ls := ls1) (ev := ev1) hs.1 hs.2 hsv hlv (G4 (u := a.bytes) hln.2.1 hln.1 y13)) hF0) a.BL hs.1 hs.2) (by omega))) (fun v18 B hv => ?_)
    obtain ⟨y19, y20, y21, rfl, y22, rfl⟩ := hv
    refine Gn (.t2 0 4) (AI (Gm rfl ?_))
    refine BD rfl RI (.c rfl .n) (.c .h (.c .h (.c .h .n))) (Dh _ y19 y20 y21 1 0 (by rw [y22]; exact (Hq hs.1 hs.2 (Ev (V := V1) (ls := ls1) (ev := ev1) hs.1 hs.2 hsv hlv (G4 (u := a.bytes) hln.2.1 hln.1 y13)) hF0).tell hs.1 hs.2 (show AL.QV.length ≤ _ by decide)) (by omega) (by omega)) (fun w hS => ⟨gl0.pull gm0 hS (.c .h (.c .h (.c .h .n))), gl1.pull gm1 hS (.c .h (.c .h (.c .h .n))), gl2.pull gm2 hS (.c .h (.c .h (.c .h .n))), gl3.pull gm3 hS (.c .h (.c .h (.c .h .n)))⟩) (fun v23 B hv => ?_)
    obtain ⟨y24, y25, y26, rfl, y27, rfl⟩ := hv
    refine AP (AB (.t1 4) ?_)
    refine AT (AA (Gs (Gt (A9 Lr Iz rfl .nil) ?_)))
    refine AR (AK (AS.id Be.fl.len Be.fl.one) rfl rfl rfl Jo rfl (.t (.t (.t .h)))) ?_
    refine Gn (.t1 4) (Ab ?_)
    refine AY rfl (.cell rfl .m3 (.inl ⟨(by rw [Be.fl.len]; exact H6), rfl⟩) .n) ?_
    intro w1 hS
    have hS := (hS.perm (Av.perm (.c .h (.c .h (.c .h .n))))).Ay
    have hq0 : AL.Eh (A3 V1 ls1 ev1) a = _ := ((AU c3).trans ((AU c4).trans ((AU c5).trans ((AU (show (decide ((AL.at_ (A3 V1 ls1 ev1) a.BL).state = 0) != decide (a.kind = 1)) = false by rw [GD V1 ls1 ev1 hs.1 hs.2]; exact c6)).trans ((AU c7).trans (BB c8))))))
    have hq : (AL.act (A3 V ls ev) a) = _ := (AL.Fe c1 a).trans ((congrArg (fun X => AL.Eh X a) hX.symm).trans hq0)
    refine ⟨_, ⟨y24, y25, y26, ?gv7, ?ga7, rfl⟩, hS⟩
    case gv7 => rw [hq]; rfl
    case ga7 => rw [hq]; dsimp only; exact (LK hs.1 hs.2 (Ev (V := V1) (ls := ls1) (ev := ev1) hs.1 hs.2 hsv hlv (G4 (u := a.bytes) hln.2.1 hln.1 y13)) (.inl ⟨c9, y22⟩) y27)
   have c9p := kz c9
   refine Aa ?_
   refine AB (.t2 0 4) ?_
   refine AA (AI (Gm rfl ?_))
   refine BD rfl RI (.c rfl .n) (.c .h (.c .h (.c .h .n))) (Dh _ (AJ.BL V1 a.BL (heard sv a.bytes)) (ls1.put a.BL ⟨sl.queue, sl.wait, sl.told⟩) ev1 0 0 (Hq hs.1 hs.2 (Ev (V := V1) (ls := ls1) (ev := ev1) hs.1 hs.2 hsv hlv (G4 (u := a.bytes) hln.2.1 hln.1 y13)) hF0) (by omega) (by omega)) (fun w hS => ⟨gl0.pull gm0 hS (.c .h (.c .h (.c .h .n))), gl1.pull gm1 hS (.c .h (.c .h (.c .h .n))), gl2.pull gm2 hS (.c .h (.c .h (.c .h .n))), gl3.pull gm3 hS (.c .h (.c .h (.c .h .n)))⟩) (fun v28 B hv => ?_)
   obtain ⟨y29, y30, y31, rfl, y32, rfl⟩ := hv
   refine AP (AB (.t1 4) ?_)
   refine AT (AA (Gs (Gt (A9 Lr Iz rfl .nil) ?_)))
   refine AR (AK (AS.id Be.fl.len Be.fl.one) rfl rfl rfl Jo rfl (.t (.t (.t .h)))) ?_
   refine Gn (.t1 4) (Ab ?_)
   refine AY rfl (.cell rfl .m3 (.inl ⟨(by rw [Be.fl.len]; exact H6), rfl⟩) .n) ?_
   intro w1 hS
   have hS := (hS.perm (Av.perm (.c .h (.c .h (.c .h .n))))).Ay
   have hq0 : AL.Eh (A3 V1 ls1 ev1) a = _ := ((AU c3).trans ((AU c4).trans ((AU c5).trans ((AU (show (decide ((AL.at_ (A3 V1 ls1 ev1) a.BL).state = 0) != decide (a.kind = 1)) = false by rw [GD V1 ls1 ev1 hs.1 hs.2]; exact c6)).trans ((AU c7).trans (BB c8))))))
   have hq : (AL.act (A3 V ls ev) a) = _ := (AL.Fe c1 a).trans ((congrArg (fun X => AL.Eh X a) hX.symm).trans hq0)
   refine ⟨_, ⟨y29, y30, y31, ?gv8, ?ga8, rfl⟩, hS⟩
   case gv8 => rw [hq]; rfl
   case ga8 => rw [hq]; dsimp only; exact (LK hs.1 hs.2 (Ev (V := V1) (ls := ls1) (ev := ev1) hs.1 hs.2 hsv hlv (G4 (u := a.bytes) hln.2.1 hln.1 y13)) (.inr ⟨c9, rfl⟩) y32)
  refine Gm rfl (Gt (AM rfl rfl) (Gt (AM rfl rfl) (Gt (AM rfl rfl) (Gt (BS rfl) (Gt (Af KW rfl) ?_)))))
  refine AR (AK ((AS.BL V1 hs.1 hs.2).comp A0.l3) rfl rfl rfl LU rfl (.t (.t (.t (.t .h))))) ?_
  refine Ga rfl (Gn (.t4 0 4 6 9) (Ao ?_))
  refine D6 (.c .h (.c (.t .h) (.c (.t .h) (.c (.t .h) (.c (.t .h) .n))))) ?_
  refine GZ hs.1 hs.2 (by rfl) (by rfl) (by rfl) ?_
  refine AI (Gm rfl (Gt (Cd rfl rfl) (Gn (.t4 0 4 6 134) ?_)))
  refine Gc (fun c10 => ?_) (fun c10 => ?_)
  ·
   have c10p := kz c10
   refine AI (Gm rfl (Gm rfl ?_))
   refine Ag rfl Sv (.c rfl (.c rfl (.c rfl .n))) (.c .h (.c .h (.c (.t .h) .n))) (D4 _ (AJ.BL V1 a.BL { heard sv a.bytes with Dv := ⟨(Bc.feed (Bc.start sv.Dv sl.queue) (sv.EE.DN a.bytes).2.1).now, (Bc.feed (Bc.start sv.Dv sl.queue) (sv.EE.DN a.bytes).2.1).Cc, (Bc.feed (Bc.start sv.Dv sl.queue) (sv.EE.DN a.bytes).2.1).ret, y15⟩ }) (ls1.put a.BL ⟨(Bc.feed (Bc.start sv.Dv sl.queue) (sv.EE.DN a.bytes).2.1).queue, sl.wait, sl.told⟩) ev1 a.BL _ hs (Nat.le_trans (F9 (Hq hs.1 hs.2 (Ev (V := V1) (ls := ls1) (ev := ev1) hs.1 hs.2 hsv hlv (H4 (u := a.bytes) hln.2.1 hln.1 y14 y15)) hF0) a.BL hs.1 hs.2) (by omega))) (fun v33 B hv => ?_)
   obtain ⟨y34, y35, y36, rfl, y37, rfl⟩ := hv
   refine Gn (.t2 0 4) (AI (Gm rfl ?_))
   refine BD rfl RI (.c rfl .n) (.c .h (.c .h (.c .h .n))) (Dh _ y34 y35 y36 1 0 (by rw [y37]; exact (Hq hs.1 hs.2 (Ev (V := V1) (ls := ls1) (ev := ev1) hs.1 hs.2 hsv hlv (H4 (u := a.bytes) hln.2.1 hln.1 y14 y15)) hF0).tell hs.1 hs.2 (show AL.QV.length ≤ _ by decide)) (by omega) (by omega)) (fun w hS => ⟨gl0.pull gm0 hS (.c .h (.c .h (.c .h .n))), gl1.pull gm1 hS (.c .h (.c .h (.c .h .n))), gl2.pull gm2 hS (.c .h (.c .h (.c .h .n))), gl3.pull gm3 hS (.c .h (.c .h (.c .h .n)))⟩) (fun v38 B hv => ?_)
   obtain ⟨y39, y40, y41, rfl, y42, rfl⟩ := hv
   refine AP (AB (.t1 4) ?_)
   refine AT (AA (Gs (Gt (A9 Lr Iz rfl .nil) ?_)))
   refine AR (AK (AS.id Be.fl.len Be.fl.one) rfl rfl rfl Jo rfl (.t (.t (.t (.t .h))))) ?_
   refine Gn (.t1 4) (Ab ?_)
   refine AY rfl (.cell rfl .m4 (.inl ⟨(by rw [Be.fl.len]; exact H6), rfl⟩) .n) ?_
   intro w1 hS
   have hS := (hS.perm (Av.perm (.c .h (.c .h (.c .h .n))))).Ay
   have hq0 : AL.Eh (A3 V1 ls1 ev1) a = _ := ((AU c3).trans ((AU c4).trans ((AU c5).trans ((AU (show (decide ((AL.at_ (A3 V1 ls1 ev1) a.BL).state = 0) != decide (a.kind = 1)) = false by rw [GD V1 ls1 ev1 hs.1 hs.2]; exact c6)).trans ((AU c7).trans (BB c8))))))
   have hq : (AL.act (A3 V ls ev) a) = _ := (AL.Fe c1 a).trans ((congrArg (fun X => AL.Eh X a) hX.symm).trans hq0)
   refine ⟨_, ⟨y39, y40, y41, ?gv9, ?ga9, rfl⟩, hS⟩
   case gv9 => rw [hq]; rfl
   case ga9 => rw [hq]; dsimp only; exact (LK hs.1 hs.2 (Ev (V := V1) (ls := ls1) (ev := ev1) hs.1 hs.2 hsv hlv (H4 (u := a.bytes) hln.2.1 hln.1 y14 y15)) (.inl ⟨c10, y37⟩) y42)
  have c10p := kz c10
  refine Aa ?_
  refine AB (.t2 0 4) ?_
  refine AA (AI (Gm rfl ?_))
  refine BD rfl RI (.c rfl .n) (.c .h (.c .h (.c (.t .h) .n))) (Dh _ (AJ.BL V1 a.BL { heard sv a.bytes with Dv := ⟨(Bc.feed (Bc.start sv.Dv sl.queue) (sv.EE.DN a.bytes).2.1).now, (Bc.feed (Bc.start sv.Dv sl.queue) (sv.EE.DN a.bytes).2.1).Cc, (Bc.feed (Bc.start sv.Dv sl.queue) (sv.EE.DN a.bytes).2.1).ret, y15⟩ }) (ls1.put a.BL ⟨(Bc.feed (Bc.start sv.Dv sl.queue) (sv.EE.DN a.bytes).2.1).queue, sl.wait, sl.told⟩) ev1 0 0 (Hq hs.1 hs.2 (Ev (V := V1) (ls := ls1) (ev := ev1) hs.1 hs.2 hsv hlv (H4 (u := a.bytes) hln.2.1 hln.1 y14 y15)) hF0) (by omega) (by omega)) (fun w hS => ⟨gl0.pull gm0 hS (.c .h (.c .h (.c (.t .h) .n))), gl1.pull gm1 hS (.c .h (.c .h (.c (.t .h) .n))), gl2.pull gm2 hS (.c .h (.c .h (.c (.t .h) .n))), gl3.pull gm3 hS (.c .h (.c .h (.c (.t .h) .n)))⟩) (fun v43 B hv => ?_)
  obtain ⟨y44, y45, y46, rfl, y47, rfl⟩ := hv
  refine AP (AB (.t1 4) ?_)
  refine AT (AA (Gs (Gt (A9 Lr Iz rfl .nil) ?_)))
  refine AR (AK (AS.id Be.fl.len Be.fl.one) rfl rfl rfl Jo rfl (.t (.t (.t (.t .h))))) ?_
  refine Gn (.t1 4) (Ab ?_)
  refine AY rfl (.cell rfl .m4 (.inl ⟨(by rw [Be.fl.len]; exact H6), rfl⟩) .n) ?_
  intro w1 hS
  have hS := (hS.perm (Av.perm (.c .h (.c .h (.c .h .n))))).Ay
  have hq0 : AL.Eh (A3 V1 ls1 ev1) a = _ := ((AU c3).trans ((AU c4).trans ((AU c5).trans ((AU (show (decide ((AL.at_ (A3 V1 ls1 ev1) a.BL).state = 0) != decide (a.kind = 1)) = false by rw [GD V1 ls1 ev1 hs.1 hs.2]; exact c6)).trans ((AU c7).trans (BB c8))))))
  have hq : (AL.act (A3 V ls ev) a) = _ := (AL.Fe c1 a).trans ((congrArg (fun X => AL.Eh X a) hX.symm).trans hq0)
  refine ⟨_, ⟨y44, y45, y46, ?gv10, ?ga10, rfl⟩, hS⟩
  case gv10 => rw [hq]; rfl
  case ga10 => rw [hq]; dsimp only; exact (LK hs.1 hs.2 (Ev (V := V1) (ls := ls1) (ev := ev1) hs.1 hs.2 hsv hlv (H4 (u := a.bytes) hln.2.1 hln.1 y14 y15)) (.inr ⟨c10, rfl⟩) y47)
 have c8p := kz c8
 refine Gs (Gt (Ai rfl rfl) (Ga rfl (Gn (.t6 0 3 4 6 85 140) ?_)))
 refine Gc (fun c11 => ?_) (fun c11 => ?_)
 ·
  have c11p := kz c11
  refine Gs (Ga rfl (Gn (.t4 0 3 4 6) (Ao ?_)))
  refine Er (k := a.BL) hs.1 hs.2 (fun sv sl hsv hlv hln => ?_)
  refine BF (N := 15) [0, 0, 2, 6, 14, 0, 32, 126, 254, 510, 510, 1023, 3071, 7167, 16383] mix (by kernel_rfl) rfl ?_
  refine Pf 0 rfl (AE rfl) (Pf 1 rfl (AE rfl) (Pf 2 rfl (BS rfl) (Pf 3 rfl (Af Db rfl) (Pf 4 rfl (AZ rfl Cn .m3 ((AS.BL V1 hs.1 hs.2).comp A0.l4) rfl) (Pf 5 rfl (Af Vq rfl) (Pf 6 rfl (AF rfl A1 .m7 Bq.l2 rfl rfl) ?_))))))
  refine BX 7 rfl rfl (by kernel_rfl) (Kx (KX (Dr bS (.c rfl (.c rfl .n)) (fun w hS => MP _ _ w)))) ?_
  refine Pf 8 rfl (AE rfl) (Pf 9 rfl (AM rfl rfl) (Pf 10 rfl (AM rfl rfl) (Pf 11 rfl (BS rfl) (Pf 12 rfl (Af Db rfl) ?_))))
  refine An 13 rfl (by kernel_rfl) ?_
  refine AR (AK ((AS.BL V1 hs.1 hs.2).comp A0.l4) rfl rfl rfl E4 rfl (.t (.t (.t .h)))) ?_
  refine BK rfl ⟨?_, ?_⟩
  · exact (Pk (Pk (Po rfl (AM rfl rfl) rfl rfl (Pk (Pk (Pk (Pk (Pk (Pk (Pk (Pk (Pk (Pk Au)))))))))))))
  refine Pf 14 rfl (Az rfl) ?_
  refine A2 (by kernel_rfl) ?_
  refine AB (.t3 0 4 10) ?_
  refine AA (Ao ?_)
  refine D6 (.c .h (.c .h (.c .h (.c .h (.c .h .n))))) ?_
  refine GZ hs.1 hs.2 (by rfl) (by rfl) (by rfl) ?_
  refine AI (Gm rfl ?_)
  refine BD rfl RI (.c rfl .n) (.c .h (.c .h (.c .h .n))) (Dh _ (AJ.BL V1 a.BL { sv with out := ⟨sv.out.wait, sv.out.shown, sv.out.B4, sv.out.ring.drop (max 0 (min a.n (sv.out.ring.length : Int))).toNat, sv.out.cut⟩ }) (ls1.put a.BL ⟨sl.queue, sl.wait, sl.told⟩) ev1 0 0 (by rw [(show A3 (AJ.BL V1 a.BL { sv with out := ⟨sv.out.wait, sv.out.shown, sv.out.B4, sv.out.ring.drop (max 0 (min a.n (sv.out.ring.length : Int))).toNat, sv.out.cut⟩ }) (ls1.put a.BL ⟨sl.queue, sl.wait, sl.told⟩) ev1 = AL.set (A3 V1 ls1 ev1) a.BL ((AL.at_ (A3 V1 ls1 ev1) a.BL).Lu a.n) from ET hs.1 hs.2 hsv hlv (f := fun x => x.Lu a.n) rfl)]; exact hF0.Lu hs.1 hs.2 a.n) (by omega) (by omega)) (fun w hS => ⟨gl0.pull gm0 hS (.c .h (.c .h (.c .h .n))), gl1.pull gm1 hS (.c .h (.c .h (.c .h .n))), gl2.pull gm2 hS (.c .h (.c .h (.c .h .n))), gl3.pull gm3 hS (.c .h (.c .h (.c .h .n)))⟩) (fun v48 B hv => ?_)
  obtain ⟨y49, y50, y51, rfl, y52, rfl⟩ := hv
  refine Gn (.t2 4 10) (Gs (Gm rfl (Gt (A9 Lr Iz rfl (.cons Be.l1 rfl rfl rfl .nil)) ?_)))
  refine AR (AK (AS.id Be.fl.len Be.fl.one) rfl rfl rfl Jo rfl (.t (.t (.t .h)))) ?_
  refine Gn (.t1 4) (Ab (AO (AD ?_)))
  refine AY rfl (.cell rfl .m3 (.inl ⟨(by rw [Be.fl.len]; exact H6), rfl⟩) .n) ?_
  intro w1 hS
  have hS := (hS.perm (Av.perm (.c .h (.c .h (.c .h .n))))).Ay
  have hq0 : AL.Eh (A3 V1 ls1 ev1) a = _ := ((AU c3).trans ((AU c4).trans ((AU c5).trans ((AU (show (decide ((AL.at_ (A3 V1 ls1 ev1) a.BL).state = 0) != decide (a.kind = 1)) = false by rw [GD V1 ls1 ev1 hs.1 hs.2]; exact c6)).trans ((AU c7).trans ((AU c8).trans (BB c11)))))))
  have hq : (AL.act (A3 V ls ev) a) = _ := (AL.Fe c1 a).trans ((congrArg (fun X => AL.Eh X a) hX.symm).trans hq0)
  refine ⟨_, ⟨y49, y50, y51, ?gv11, ?ga11, rfl⟩, hS⟩
  case gv11 => rw [hq]; exact congrArg (fun x => Value.agg (Be.enc ⟨0, x⟩).toArray) (VX V1 ls1 ev1 hs.1 hs.2 hsv a.n)
  case ga11 => rw [hq]; dsimp only; exact y52.trans (congrArg AL.B2 (show A3 (AJ.BL V1 a.BL { sv with out := ⟨sv.out.wait, sv.out.shown, sv.out.B4, sv.out.ring.drop (max 0 (min a.n (sv.out.ring.length : Int))).toNat, sv.out.cut⟩ }) (ls1.put a.BL ⟨sl.queue, sl.wait, sl.told⟩) ev1 = AL.set (A3 V1 ls1 ev1) a.BL ((AL.at_ (A3 V1 ls1 ev1) a.BL).Lu a.n) from ET hs.1 hs.2 hsv hlv (f := fun x => x.Lu a.n) rfl))
 have c11p := kz c11
 refine Gs (Gt (Ai rfl rfl) (Ga rfl (Gn (.t4 0 4 6 159) ?_)))
 refine FM rfl (decide_eq_true (by omega)) ?_
 refine Gs (Gm rfl (Gm rfl ?_))
 refine BD rfl YP (.c rfl (.c rfl .n)) (.c .h (.c .h (.c .h .n))) (Hf _ V1 ls1 ev1 a.BL 0 0 hs hF0 (by omega) (by omega)) (fun w hS => ⟨gl0.pull gm0 hS (.c .h (.c .h (.c .h .n))), gl1.pull gm1 hS (.c .h (.c .h (.c .h .n))), gl2.pull gm2 hS (.c .h (.c .h (.c .h .n))), gl3.pull gm3 hS (.c .h (.c .h (.c .h .n)))⟩) (fun v53 B hv => ?_)
 obtain ⟨y54, y55, y56, rfl, y57, rfl⟩ := hv
 refine Gn (.t2 0 4) (AI (Gm rfl ?_))
 refine BD rfl RI (.c rfl .n) (.c .h (.c .h (.c .h .n))) (Dh _ y54 y55 y56 11 11 (by rw [y57]; exact hF0.leave hs.1 hs.2) (by omega) (by omega)) (fun w hS => ⟨gl0.pull gm0 hS (.c .h (.c .h (.c .h .n))), gl1.pull gm1 hS (.c .h (.c .h (.c .h .n))), gl2.pull gm2 hS (.c .h (.c .h (.c .h .n))), gl3.pull gm3 hS (.c .h (.c .h (.c .h .n)))⟩) (fun v58 B hv => ?_)
 obtain ⟨y59, y60, y61, rfl, y62, rfl⟩ := hv
 refine AP (AB (.t1 4) ?_)
 refine AT (AA (Gs (Gt (A9 Lr Iz rfl .nil) ?_)))
 refine AR (AK (AS.id Be.fl.len Be.fl.one) rfl rfl rfl Jo rfl (.t (.t (.t .h)))) ?_
 refine Gn (.t1 4) (Ab ?_)
 refine AY rfl (.cell rfl .m3 (.inl ⟨(by rw [Be.fl.len]; exact H6), rfl⟩) .n) ?_
 intro w1 hS
 have hS := (hS.perm (Av.perm (.c .h (.c .h (.c .h .n))))).Ay
 have hq0 : AL.Eh (A3 V1 ls1 ev1) a = _ := ((AU c3).trans ((AU c4).trans ((AU c5).trans ((AU (show (decide ((AL.at_ (A3 V1 ls1 ev1) a.BL).state = 0) != decide (a.kind = 1)) = false by rw [GD V1 ls1 ev1 hs.1 hs.2]; exact c6)).trans ((AU c7).trans ((AU c8).trans (AU c11)))))))
 have hq : (AL.act (A3 V ls ev) a) = _ := (AL.Fe c1 a).trans ((congrArg (fun X => AL.Eh X a) hX.symm).trans hq0)
 refine ⟨_, ⟨y59, y60, y61, ?gv12, ?ga12, rfl⟩, hS⟩
 case gv12 => rw [hq]; rfl
 case ga12 => rw [hq]; dsimp only; exact y62.trans (congrArg AL.B2 y57)
theorem Hj (b : Nat) (V : AJ) (i : Int) (hi : 0 ≤ i ∧ i < 4) : IP Tryz.prog 21 #[.pointer (some ⟨b, 0, none⟩), .int .i64 i] [Ac.box b 101 (AJ.enc V)] (fun v B => v = .tuple #[.int .i64 (Eg (V.Ap.at i)).1, .int .i64 (Eg (V.Ap.at i)).2] ∧ B = [Ac.box b 101 (AJ.enc V)]) := by
 intro w hS0
 refine Aj _ _ Tryz.func21 rfl rfl rfl (hS0) ?_
 refine Gs (Ga rfl (Ga rfl (Gn (.t2 0 1) (CA (Gm rfl (Gt (D2 Tryz.underlying37 rfl) (Gm rfl ?_)))))))
 refine CP (t := 8) rfl rfl rfl (AE rfl) ?_
 refine CP (t := 8) rfl rfl rfl (A5 rfl rfl) ?_
 refine Gt (CV rfl rfl) (Gm rfl (BW 12 rfl rfl (fun q => AE rfl) (BW 12 rfl rfl (fun q => CH (cF rfl q) rfl) ?_)))
 refine Gt (BR rfl rfl (fun h => by rw [h]; rfl)) ?_
 refine Gm rfl (BW 16 rfl rfl (fun q => AE rfl) (BW 16 rfl rfl (fun q => AE rfl) (BW 16 rfl rfl (fun q => BS (cF rfl q)) (BW 16 rfl rfl (fun q => Af FO (cF rfl q)) ?_))))
 refine BW 16 rfl rfl (fun q => by have q1 := q; (try simp at q1); exact AQ Mq (cF rfl q) (cF rfl q) (by first | omega | exact hi.1 | exact hi.2) (by first | omega | exact hi.1 | exact hi.2)) ?_
 refine BW 16 rfl rfl (fun q => Af IH (cF rfl q)) ?_
 refine BW 16 rfl rfl (fun q => by have q1 := q; (try simp at q1); exact AF (cF rfl q) A1 .m0 ((AJ.l1.comp (AS.ar (n := 4) A0.fl (by first | omega | exact hi))).comp A0.l0) rfl rfl) ?_
 refine BW 16 rfl rfl (fun q => CK (cF rfl q) rfl) ?_
 refine Gt (BR rfl rfl (fun h => by rw [h]; rfl)) ?_
 refine Gn (.t3 0 1 25) ?_
 refine Gc (fun c1 => ?_) (fun c1 => ?_)
 ·
  have c1p := kz c1
  refine CA (Gm rfl (Gt (D2 Tryz.underlying37 rfl) (Gm rfl ?_)))
  refine CP (t := 28) rfl rfl rfl (AE rfl) ?_
  refine CP (t := 28) rfl rfl rfl (A5 rfl rfl) ?_
  refine Gt (CV rfl rfl) (Gm rfl (BW 32 rfl rfl (fun q => AE rfl) (BW 32 rfl rfl (fun q => CH (cF rfl q) rfl) ?_)))
  refine Gt (BR rfl rfl (fun h => by rw [h]; rfl)) ?_
  refine Gn (.t3 0 1 35) ?_
  refine DX rfl (by rw [Bool.or_eq_false_iff, decide_eq_false_iff_not, decide_eq_false_iff_not]; omega) ?_
  refine Aa ?_
  refine AB (.t2 0 1) ?_
  refine AA (Gs (Gm rfl (Gm rfl (Gt (BS rfl) (Gt (Af FO rfl) ?_)))))
  refine Gt (AQ Mq rfl rfl (by first | omega | exact hi.1 | exact hi.2) (by first | omega | exact hi.1 | exact hi.2)) ?_
  refine Gt (Af IH rfl) ?_
  refine Gt (AF rfl A1 .m0 ((AJ.l1.comp (AS.ar (n := 4) A0.fl (by first | omega | exact hi))).comp A0.l0) rfl rfl) ?_
  refine Ga rfl (Ga rfl (Gn (.t2 4 5) (Ab (AD ?_))))
  refine AY rfl (.tmp rfl (.tmp rfl .n)) ?_
  intro w1 hS
  have hS := (hS.perm (Av.perm (.c .h .n))).Ay
  have hq : Eg (V.Ap.at i) = _ := if_neg (by rw [decide_eq_true_eq]; rcases c1p with (h | h) | h <;> first | omega | exact h)
  refine ⟨_, ⟨?gv1, rfl⟩, hS⟩
  case gv1 => rw [hq]; rfl
 have c1p := kz c1
 refine Aa ?_
 refine AB (.t2 0 1) ?_
 refine AA (Ao ?_)
 refine BF (N := 9) [0, 0, 1, 5, 15, 31, 63, 0, 255] mix (by kernel_rfl) rfl ?_
 refine Pf 0 rfl (AE rfl) (Pf 1 rfl (AE rfl) (Pf 2 rfl (BS rfl) (Pf 3 rfl (Af FO rfl) ?_)))
 refine Pf 4 rfl (AQ Mq rfl rfl (by first | omega | exact hi.1 | exact hi.2) (by first | omega | exact hi.1 | exact hi.2)) ?_
 refine Pf 5 rfl (Af Hl rfl) ?_
 refine Pf 6 rfl (AF rfl A1 .m0 ((AJ.l1.comp (AS.ar (n := 4) A0.fl (by first | omega | exact hi))).comp A0.l1) rfl rfl) ?_
 refine Pf 7 rfl (Az rfl) (Pf 8 rfl (Az rfl) ?_)
 refine A2 (by kernel_rfl) ?_
 refine AB (.t2 4 5) ?_
 refine AA (Ab ?_)
 refine AY rfl (.tmp rfl (.tmp rfl .n)) ?_
 intro w1 hS
 have hS := (hS.perm (Av.perm (.c .h .n))).Ay
 have hq : Eg (V.Ap.at i) = _ := if_pos (decide_eq_true c1p.2)
 refine ⟨_, ⟨?gv2, rfl⟩, hS⟩
 case gv2 => rw [hq]; rfl
theorem Pv (b : Nat) (V : AJ) (ls : Vector BE 4) (i : Int) (hi : 0 ≤ i ∧ i < 4) (hl : (ls.at i).told.length ≤ 1000000) : IP Tryz.prog 24 #[.pointer (some ⟨b, 0, none⟩), .int .i64 i] [Ac.box b 101 (AJ.enc V), Ac.DY (B6 9 (AJ.Ap V) ls)] (fun v B => ∃ h' : Hd, v = h'.val ∧ h'.len = (ls.at i).told.length ∧ B = [Ac.box b 101 (AJ.enc V), Ac.DY (B6 9 (AJ.Ap V) ls), Ac.own h' 9 1 ((ls.at i).told.flatMap A4)]) := by
 intro w hS0
 refine Aj _ _ Tryz.func24 rfl rfl rfl (hS0) ?_
 refine Gs (Ga rfl (Gn (.t2 0 1) (CA (Gm rfl (Gt (D2 Tryz.underlying37 rfl) (Gm rfl ?_))))))
 refine CP (t := 7) rfl rfl rfl (AE rfl) ?_
 refine CP (t := 7) rfl rfl rfl (A5 rfl rfl) ?_
 refine Gt (CV rfl rfl) (Gm rfl (BW 11 rfl rfl (fun q => AE rfl) (BW 11 rfl rfl (fun q => CH (cF rfl q) rfl) ?_)))
 refine Gt (BR rfl rfl (fun h => by rw [h]; rfl)) ?_
 refine Gn (.t3 0 1 14) ?_
 refine DX rfl (by rw [Bool.or_eq_false_iff, decide_eq_false_iff_not, decide_eq_false_iff_not]; omega) ?_
 refine Aa ?_
 refine AB (.t2 0 1) ?_
 refine AA (Ao ?_)
 refine Er (k := i) hi.1 hi.2 (fun sv sl hsv hlv hln => ?_)
 have hl2 := hl
 rw [hlv] at hl2
 refine AI (Gm rfl (Gm rfl (Gt (BS rfl) (Gt (Af FO rfl) ?_))))
 refine Gt (AQ Mq rfl rfl (by first | omega | exact hi.1 | exact hi.2) (by first | omega | exact hi.1 | exact hi.2)) ?_
 refine Gt (Af P5 rfl) (Gt (AF rfl EI .m3 ((AS.BL V hi.1 hi.2).comp A0.l5) rfl rfl) ?_)
 refine DI A4 9 1 ?_
 refine IT (e := A4) rfl Tryz.underlying52 EW RM rfl VY (by decide) rfl rfl (fun w hS => Src.Dj Tryz.underlying52 ((Kn.own .m3) w hS)) rfl rfl (by omega) (fun _ => .h) (fun h1 h1l => ?_)
 refine Ga rfl (Gn (.t1 4) (Ab ?_))
 refine AY rfl (.tmp rfl .n) ?_
 intro w1 hS
 have hS := (hS.perm (Av.perm (.c (.t .h) (.c (.t .h) (.c (.t .h) (.c (.t .h) (.c (.t .h) (.c .h .n)))))))).Ay
 have e1 : V.BL i sv = V := by rw [← hsv]; exact V.Jg hi.1 hi.2
 have e2 : ls.put i ⟨sl.queue, sl.wait, sl.told⟩ = ls := by rw [← hlv]; exact Vector.LP ls hi.1 hi.2
 have hS := St.close' (s := sv) (qs := sl.queue) (ws := sl.wait) (ts := sl.told) hi.1 hi.2 rfl rfl rfl hS
 rw [e1, e2] at hS
 try rw [hsv]
 rw [hlv]
 refine ⟨_, ⟨_, rfl, ?gl, rfl⟩, hS⟩
 case gl => (try simp only [List.length_append, List.length_nil] at *); omega
theorem Mr  (w : World) (gl0 : GV 2 FV w) (gl1 : GV 0 AH.C4 w) (gl2 : GG 7 w) (gl3 : GG 8 w) : EF Tryz.prog 33 #[] w fun v w' => v = .bool true ∧ B3 w w' := by
 refine Aj [] [] Tryz.func33 rfl rfl rfl (St.start w []) ?_
 refine Gs (Ga rfl (Gn (.nil _) (Gs ?_)))
 refine Ag rfl aV .n .n (JS ) (fun v1 B hv => ?_)
 obtain ⟨y2, y3, y4, y5, rfl, y6, rfl⟩ := hv
 refine Ga rfl (Gn (.t1 1) (CA (Gm rfl (Gt (D2 Tryz.underlying37 rfl) (Gn (.t2 1 8) ?_)))))
 refine DX rfl rfl ?_
 refine Aa ?_
 refine AB (.t1 1) ?_
 refine AA (Gs (Gm rfl (Gt (A9 WT Wa rfl (.cons Bq.l0 rfl rfl rfl (.cons Bq.l1 rfl rfl rfl .nil))) ?_)))
 refine BD rfl R7 (.c rfl (.c rfl .n)) (.c .h (.c .h (.c .h .n))) (E9 y2 y3 y4 y5 AL.PH (by rw [y6]; exact AL.cV) (by decide)) (fun w hS => ⟨gl0.pull (by simp) hS (.c .h (.c .h (.c .h .n))), gl1.pull (by simp) hS (.c .h (.c .h (.c .h .n))), gl2.pull (by simp) hS (.c .h (.c .h (.c .h .n))), gl3.pull (by simp) hS (.c .h (.c .h (.c .h .n)))⟩) (fun v8 B hv => ?_)
 obtain ⟨y9, y10, y11, rfl, y12, rfl⟩ := hv
 refine BG rfl Iz rfl (fun b1 => ?_)
 refine AR (AK (AS.id Be.fl.len Be.fl.one) rfl rfl rfl Jo rfl .h) ?_
 refine Gn (.t2 1 2) (Gs (Gm rfl (Gt (A9 WT Wa rfl (.cons Bq.l0 rfl rfl rfl (.cons Bq.l1 rfl rfl rfl (.cons Bq.l3 rfl rfl rfl .nil)))) ?_)))
 refine BD rfl R7 (.c rfl (.c rfl .n)) (.c (.t .h) (.c (.t .h) (.c (.t .h) .n))) (E9 y2 y9 y10 y11 AL.type2 (by rw [y12, y6]; exact AL.cN) (by decide)) (fun w hS => ⟨gl0.pull (by simp) hS (.c (.t .h) (.c (.t .h) (.c (.t .h) .n))), gl1.pull (by simp) hS (.c (.t .h) (.c (.t .h) (.c (.t .h) .n))), gl2.pull (by simp) hS (.c (.t .h) (.c (.t .h) (.c (.t .h) .n))), gl3.pull (by simp) hS (.c (.t .h) (.c (.t .h) (.c (.t .h) .n)))⟩) (fun v13 B hv => ?_)
 obtain ⟨y14, y15, y16, rfl, y17, rfl⟩ := hv
 refine Gn (.t2 1 2) (Gs (Gm rfl (Gt (A9 WT Wa rfl (.cons Bq.l0 rfl rfl rfl .nil)) ?_)))
 refine BD rfl R7 (.c rfl (.c rfl .n)) (.c .h (.c .h (.c .h .n))) (E9 y2 y14 y15 y16 AL.R3 (by rw [y17, y12, y6]; exact AL.cT) (by decide)) (fun w hS => ⟨gl0.pull (by simp) hS (.c .h (.c .h (.c .h .n))), gl1.pull (by simp) hS (.c .h (.c .h (.c .h .n))), gl2.pull (by simp) hS (.c .h (.c .h (.c .h .n))), gl3.pull (by simp) hS (.c .h (.c .h (.c .h .n)))⟩) (fun v18 B hv => ?_)
 obtain ⟨y19, y20, y21, rfl, y22, rfl⟩ := hv
 refine BG rfl Iz rfl (fun b2 => ?_)
 refine AR (AK (AS.id Be.fl.len Be.fl.one) rfl rfl rfl Jo rfl .h) ?_
 refine Gn (.t3 1 2 3) (Ao ?_)
 have hA : A3 y19 y20 y21 = AL.ai := by rw [y22, y17, y12, y6]; rfl
 have hA3 : (A3 y19 y20 y21).Live := by rw [hA]; exact AL.Vz
 refine AI (Gm rfl ?_)
 refine Ag rfl YZ (.c rfl (.c rfl .n)) (.c (.t .h) .n) (Hj y2 y19 2 (by decide)) (fun v23 B hv => ?_)
 obtain ⟨rfl, rfl⟩ := hv
 refine Gm rfl (Gt (AM rfl rfl) (Gt (AM rfl rfl) (Ga rfl (Ga rfl (Gn (.t5 1 2 3 4 5) (Gs (Gt (Af WA rfl) ?_)))))))
 refine Gt (AF rfl Qw .m4 Be.l0 rfl rfl) (Gt (Ai rfl rfl) (Gm rfl (BZ 26 rfl rfl (fun q => Af WA rfl) (BZ 26 rfl rfl (fun q => AF (BV rfl q) Qw .m1 Be.l0 rfl rfl) (BZ 26 rfl rfl (fun q => Ai (BV rfl q) rfl) (Gt (BH rfl rfl (fun h => h)) (Gm rfl ?_)))))))
 refine BZ 31 rfl rfl (fun q => AE rfl) (BZ 31 rfl rfl (fun q => Ai (BV rfl q) rfl) (Gt (BH rfl rfl (fun h => h)) (Gm rfl (BZ 35 rfl rfl (fun q => AE rfl) (BZ 35 rfl rfl (fun q => Ai (BV rfl q) rfl) (Gt (BH rfl rfl (fun h => h)) (Gm rfl ?_)))))))
 refine BZ 39 rfl rfl (fun q => AE rfl) ?_
 refine Kf 39 rfl (fun c1 => ?_) (fun c1 => ?_)
 ·
  refine Fq (t := 39) rfl (by first | rfl | exact YU rfl c1) rfl bp (.c (BV rfl c1) (.c rfl .n)) (.c .h (.c (.t .h) .n)) (Pv y2 y19 y20 2 (by decide) (hA3.told (by decide) (by decide))) (fun v24 B hv => ?_)
  obtain ⟨y25, rfl, y26, rfl⟩ := hv
  refine CP (t := 39) rfl rfl rfl (Aq rfl Tryz.underlying52 rfl) ?_
  refine CP (t := 39) rfl rfl rfl (Cd rfl rfl) ?_
  refine Gt (CY rfl rfl) (Ga rfl (Gn (.t1 0) (Ab ?_)))
  refine AY rfl (.tmp rfl .n) ?_
  intro w1 hS; refine ⟨?_, hS.Am⟩; have hd := AL.ao
  rw [← hA, Ca _ _ _ (by decide) (by decide)] at hd
  exact congrArg Value.bool (by rw [y26]; exact hd)
 refine Bt (t := 39) rfl rfl rfl rfl ?_
 refine Bt (t := 39) rfl rfl rfl rfl ?_
 refine Bt (t := 39) rfl rfl rfl rfl ?_
 refine Gt (CV rfl rfl) (Ga rfl (Gn (.t1 0) (Ab ?_)))
 refine AY rfl (.tmp rfl .n) ?_
 intro w1 hS; refine ⟨?_, hS.Am⟩; have hs := II y19 y20 y21 (show (0 : Int) ≤ 2 by decide) (by decide)
 rw [hA, AL.bl] at hs
 have hc := c1
 rw [hs, y6, AL.bX, y17, y12, y6, AL.bf] at hc
 cases hc
theorem J0 {t0 : Nat} (f : Hd) (l : List Bq) (hu : ∀ a ∈ l, a.bytes.length ≤ 140737488351232) : Eu Tryz.prog 16 #[f.val, .func (.func 41) #[] #[]] [] (fun w => bB w (CW []) f t0 4 (l.flatMap Bq.enc) ∧ (GV 2 FV w ∧ 2 ∉ CW []) ∧ (GV 0 AH.C4 w ∧ 0 ∉ CW []) ∧ (GG 7 w ∧ 7 ∉ CW []) ∧ (GG 8 w ∧ 8 ∉ CW [])) (fun v B => ∃ (b : Nat) (V : AJ) (ls : Vector BE 4) (ev : List Ing.Event), v = .tuple #[.pointer (some ⟨b, 0, none⟩), .bool true] ∧ A3 V ls ev = AL.Ml l ∧ B = [Ac.box b 101 (AJ.enc V), Ac.DY (B6 9 (AJ.Ap V) ls), Ac.own (AJ.last V) 56 16 ((ev).flatMap Ing.Event.enc)]) := by
 intro w hS0 hH
 obtain ⟨r0, ⟨gl0, gm0⟩, ⟨gl1, gm1⟩, ⟨gl2, gm2⟩, ⟨gl3, gm3⟩⟩ := hH
 have hfl := r0.1.J1 Bq.fl (by decide)
 refine Aj _ _ Tryz.func16 rfl rfl rfl (hS0) ?_
 refine Gs (Ga rfl (Ga rfl (Gn (.t2 0 1) (CA ?_))))
 refine A8 rfl bN .n (fun w hS => Mr w (gl0.stM gm0 hS) (gl1.stM gm1 hS) (gl2.stM gm2 hS) (gl3.stM gm3 hS)) ?_
 refine Gt (BO rfl) (Gn (.t3 0 1 10) ?_)
 refine DX rfl rfl ?_
 refine Aa ?_
 refine AB (.t2 0 1) ?_
 refine AA (Gs ?_)
 refine Ag rfl aV .n .n (JS ) (fun v1 B hv => ?_)
 obtain ⟨y2, y3, y4, y5, rfl, y6, rfl⟩ := hv
 refine Ga rfl (Gn (.t3 0 1 6) (CA (Ga rfl (AP (AA (Ae ?_))))))
 refine Bj (.t4 7 0 1 6) ?_
 refine BU (.t (.t .h)) ?_
 refine BU (.t (.t .h)) ?_
 refine BU (.t (.t .h)) ?_
 refine Gk (fun (k : Int) (V1 : AJ) (ls1 : Vector BE 4) (ev1 : List Ing.Event) => 0 ≤ k ∧ k ≤ 150 ∧ k ≤ (l.length : Int) ∧ A3 V1 ls1 ev1 = (AL.new.run (l.take k.toNat)).1) (fun (k : Int) (V1 : AJ) (ls1 : Vector BE 4) (ev1 : List Ing.Event) => (150 - k).toNat) (fun (k : Int) (V1 : AJ) (ls1 : Vector BE 4) (ev1 : List Ing.Event) => [(7, .int .i64 k)]) (fun (k : Int) (V1 : AJ) (ls1 : Vector BE 4) (ev1 : List Ing.Event) => [Ac.box y2 101 (AJ.enc V1), Ac.DY (B6 9 (AJ.Ap V1) ls1), Ac.own (AJ.last V1) 56 16 (ev1.flatMap Ing.Event.enc)]) (0) (y3) (y4) (y5) ?_ rfl rfl (fun k V1 ls1 ev1 hI1 => ?_)
 · exact ⟨by omega, by omega, by omega, y6⟩
 obtain ⟨hI11, hI12, hI13, hI14⟩ := hI1
 refine CA (Gm rfl (Gm rfl (Gt (Aq rfl Tryz.underlying22 rfl) (Gt (A5 rfl rfl) (Gm rfl (BZ 16 rfl rfl (fun q => AE rfl) (BZ 16 rfl rfl (fun q => A5 (BV rfl q) rfl) ?_)))))))
 refine Gt (BH rfl rfl (fun h => h)) (Gn (.t5 0 1 6 7 19) ?_)
 refine Gc (fun c1 => ?_) (fun c1 => ?_)
 ·
  have c1p := kz c1
  refine Aa ?_
  refine AB (.t4 0 1 6 7) ?_
  refine AA (Ao (Ae (Gs (Gm rfl (Gm rfl (Gm rfl ?_))))))
  refine Gt (Bm ZX (by decide) (Kn.Xf r0) rfl rfl (by omega) (by omega)) ?_
  refine Gt (Mw rfl U7 (by decide) Bq.fl (Kn.Xf r0) (by omega)) ?_
  refine BD rfl R7 (.c rfl (.c rfl .n)) (.c .h (.c .h (.c .h .n))) (E9 y2 V1 ls1 ev1 (l.getD k.toNat default) (by rw [hI14]; exact AL.Live.run _ AL.M8) (hu _ (PJ (d := default) (xs := l) (i := k.toNat) (by omega)))) (fun w hS => ⟨gl0.pull gm0 hS (.c .h (.c .h (.c .h .n))), gl1.pull gm1 hS (.c .h (.c .h (.c .h .n))), gl2.pull gm2 hS (.c .h (.c .h (.c .h .n))), gl3.pull gm3 hS (.c .h (.c .h (.c .h .n)))⟩) (fun v8 B hv => ?_)
  obtain ⟨y9, y10, y11, rfl, y12, rfl⟩ := hv
  refine BG rfl Iz rfl (fun b1 => ?_)
  refine AR (AK (AS.id Be.fl.len Be.fl.one) rfl rfl rfl Jo rfl .h) ?_
  refine Gn (.t5 0 1 6 7 8) (Ao ?_)
  refine BF (N := 9) [0, 0, 0, 0, 12, 28, 0, 127, 255] mix (by kernel_rfl) rfl ?_
  refine Pf 0 rfl (AE rfl) (Pf 1 rfl (AE rfl) (Pf 2 rfl (AE rfl) (Pf 3 rfl (AE rfl) ?_)))
  refine Pf 4 rfl (Bm ZX (by decide) (Kn.Xf r0) rfl rfl (by omega) (by omega)) ?_
  refine Pf 5 rfl (Mw rfl U7 (by decide) Bq.fl (Kn.Xf r0) (by omega)) ?_
  refine Pf 6 rfl (AZ rfl H6 .m0 (AS.id Be.fl.len Be.fl.one) rfl) ?_
  refine An 7 rfl (by kernel_rfl) ?_
  refine C9 rfl ay rfl (.c rfl (.c rfl (.c rfl .n))) .n (NZ _ _ _) (fun v13 B hv => ?_)
  obtain ⟨rfl, rfl⟩ := hv
  refine Bn rfl ⟨?_, ?_⟩
  · exact (Pk (Pk (Pk (Pk (Pk (Pk (Pk Au)))))))
  refine Pf 8 rfl (BO rfl) ?_
  refine A2 (by kernel_rfl) ?_
  refine AB (.t5 0 1 6 7 36) ?_
  refine AA ?_
  refine DX rfl rfl ?_
  refine Aa ?_
  refine AB (.t4 0 1 6 7) ?_
  refine AT (AA (AI (Gm rfl ?_)))
  refine Gt (Aw rfl rfl (IntWalk.i64_in _ (by omega))) ?_
  refine Ga rfl ?_
  refine AP (AB (.t4 0 1 6 7) ?_)
  refine Cs (k + 1) _ _ _ ?_ ?_ (.t4 7 0 1 6) (.cons _ (.refl _))
  · exact ⟨by omega, by omega, by omega, by rw [AL.VB hI11 (by omega), ← hI14]; exact y12⟩
  · omega
 have c1p := kz c1
 refine Ba (AV (AV (Ah ?_)))
 refine AB (.t1 6) ?_
 refine AA (Gs (Gm rfl (Ga rfl (Ga rfl (Gn (.t2 4 5) (Ab ?_))))))
 refine AY rfl (.tmp rfl (.tmp rfl .n)) ?_
 intro w1 hS
 have hS := (hS.perm (Av.perm (.c .h (.c .h (.c .h .n))))).Ay
 refine ⟨_, ⟨y2, V1, ls1, ev1, rfl, ?ga1, rfl⟩, hS⟩
 case ga1 => exact hI14.trans (congrArg Prod.fst (AL.Si hI11 hI13 hI12 (by omega)))
theorem Kj (b : Nat) (V : AJ) (ls : Vector BE 4) (i : Int) (hi : 0 ≤ i ∧ i < 4) (hl : (ls.at i).wait.length ≤ 1000000) : IP Tryz.prog 28 #[.pointer (some ⟨b, 0, none⟩), .int .i64 i] [Ac.box b 101 (AJ.enc V), Ac.DY (B6 9 (AJ.Ap V) ls)] (fun v B => ∃ h' : Hd, v = .agg (Ar.enc ⟨h', (V.Ap.at i).out.shown, (V.Ap.at i).out.B4, (V.Ap.at i).out.ring, (V.Ap.at i).out.cut⟩).toArray ∧ h'.len = (ls.at i).wait.length ∧ B = [Ac.box b 101 (AJ.enc V), Ac.DY (B6 9 (AJ.Ap V) ls), Ac.own h' 9 1 ((ls.at i).wait.flatMap A4)]) := by
 intro w hS0
 refine Aj _ _ Tryz.func28 rfl rfl rfl (hS0) ?_
 refine Gs ?_
 refine BG rfl Rq rfl (fun b1 => ?_)
 refine AP (AA (CA (Gm rfl (Gt (D2 Tryz.underlying37 rfl) (Gm rfl ?_)))))
 refine CP (t := 8) rfl rfl rfl (AE rfl) ?_
 refine CP (t := 8) rfl rfl rfl (A5 rfl rfl) ?_
 refine Gt (CV rfl rfl) (Gm rfl (BW 12 rfl rfl (fun q => AE rfl) (BW 12 rfl rfl (fun q => CH (cF rfl q) rfl) ?_)))
 refine Gt (BR rfl rfl (fun h => by rw [h]; rfl)) ?_
 refine Gn (.t4 0 1 4 15) ?_
 refine DX rfl (by rw [Bool.or_eq_false_iff, decide_eq_false_iff_not, decide_eq_false_iff_not]; omega) ?_
 refine Aa ?_
 refine AB (.t3 0 1 4) ?_
 refine AA (Ao ?_)
 refine D6 (.c (.t .h) (.c (.t .h) .n)) ?_
 refine Er (k := i) hi.1 hi.2 (fun sv sl hsv hlv hln => ?_)
 have hl2 := hl
 rw [hlv] at hl2
 refine AI (Gm rfl (Gm rfl (Gt (BS rfl) (Gt (Af FO rfl) ?_))))
 refine Gt (AQ Mq rfl rfl (by first | omega | exact hi.1 | exact hi.2) (by first | omega | exact hi.1 | exact hi.2)) ?_
 refine Gt (Af Db rfl) (Gt (AZ rfl Cn .m3 ((AS.BL V hi.1 hi.2).comp A0.l4) rfl) ?_)
 refine BG rfl Rq rfl (fun b2 => ?_)
 refine AR (AK (AS.id Ar.fl.len Ar.fl.one) rfl rfl rfl E4 rfl .h) ?_
 refine Gn (.t2 4 5) (Gs (Gt (Af GN rfl) (Gt (AF rfl EI .m0 Ar.l0 rfl rfl) ?_)))
 refine DI A4 9 1 ?_
 refine IT (e := A4) rfl Tryz.underlying52 EW RM rfl VY (by decide) rfl rfl (fun w hS => Src.Dj Tryz.underlying52 ((Kn.own .m3) w hS)) rfl rfl (by omega) (fun _ => .h) (fun h1 h1l => ?_)
 refine Gt (Af GN rfl) ?_
 refine AR (AK Ar.l0 rfl rfl rfl LV rfl (.t .h)) ?_
 refine Gn (.t2 4 5) (Gs (Gt (AZ rfl Cn .m1 (AS.id Ar.fl.len Ar.fl.one) rfl) ?_))
 refine AR (AK (AS.id Ar.fl.len Ar.fl.one) rfl rfl rfl E4 rfl (.t (.t (.t (.t (.t (.t (.t .h)))))))) ?_
 refine Gn (.t1 4) (Ab ?_)
 refine AY rfl (.cell rfl .m7 (.inl ⟨(by rw [Ar.fl.len]; exact Cn), rfl⟩) .n) ?_
 intro w1 hS
 have hS := (hS.perm (Av.perm (.c (.t (.t .h)) (.c (.t (.t .h)) (.c (.t (.t .h)) (.c (.t (.t .h)) (.c (.t (.t .h)) (.c .h .n)))))))).Ay
 have e1 : V.BL i sv = V := by rw [← hsv]; exact V.Jg hi.1 hi.2
 have e2 : ls.put i ⟨sl.queue, sl.wait, sl.told⟩ = ls := by rw [← hlv]; exact Vector.LP ls hi.1 hi.2
 have hS := St.close' (s := sv) (qs := sl.queue) (ws := sl.wait) (ts := sl.told) hi.1 hi.2 rfl rfl rfl hS
 rw [e1, e2] at hS
 try rw [hsv]
 rw [hlv]
 refine ⟨_, ⟨_, rfl, ?gl, rfl⟩, hS⟩
 case gl => (try simp only [List.length_append, List.length_nil] at *); omega
theorem Gz {t0 t1 : Nat} (f g : Hd) (xs ys : List As) (hx : xs.length ≤ 9223372036854775807) (w : World) (r0 : Rd w f t0 1 (xs.flatMap A4)) (r1 : Rd w g t1 1 (ys.flatMap A4)) : EF Tryz.prog 26 #[f.val, g.val] w fun v w' => v = .bool (decide (xs = ys)) ∧ B3 w w' := by
 have hf := r0.J1 DD (by decide)
 have hg := r1.J1 DD (by decide)
 refine Aj [] [] Tryz.func26 rfl rfl rfl (St.start w []) ?_
 refine Gs (Ga rfl (Gn (.t2 0 1) (CA (Gm rfl (Gt (Aq rfl Tryz.underlying52 rfl) (Gm rfl (Gt (Aq rfl Tryz.underlying52 rfl) ?_)))))))
 refine Gt (CK rfl rfl) (Gn (.t3 0 1 10) ?_)
 refine Gc (fun c1 => ?_) (fun c1 => ?_)
 ·
  have c1p := kz c1
  refine Gs (Ga rfl (Gn (.t1 4) (Ab (AD ?_))))
  refine AY rfl (.tmp rfl .n) ?_
  intro w1 hS; refine ⟨congrArg Value.bool ?_, hS.Am⟩; have : xs ≠ ys := fun e => by subst e; simp at c1; omega
  simp [this]
 have c1p := kz c1
 refine Aa ?_
 refine AB (.t2 0 1) ?_
 refine AA (CA (Ga rfl (AP (AA (Ae ?_)))))
 refine Bj (.t3 5 0 1) ?_
 refine CR (fun (i : Int) => 0 ≤ i ∧ i ≤ xs.length ∧ xs.length = ys.length ∧ xs.take i.toNat = ys.take i.toNat) (fun (i : Int) => ((xs.length : Int) - i).toNat) (fun (i : Int) => [(5, .int .i64 i)]) (fun (i : Int) => []) (0) ?_ rfl rfl (fun i hI1 => ?_)
 · exact ⟨by omega, by omega, by simp at c1; omega, rfl⟩
 obtain ⟨hI11, hI12, hI13, hI14⟩ := hI1
 refine CA (Gm rfl (Gm rfl (Gt (Aq rfl Tryz.underlying52 rfl) (Gt (A5 rfl rfl) (Gn (.t4 0 1 5 14) ?_)))))
 refine Gc (fun c2 => ?_) (fun c2 => ?_)
 ·
  have c2p := kz c2
  refine Aa ?_
  refine AB (.t3 0 1 5) ?_
  refine AA (Ao (Ae (Ao ?_)))
  refine BF (N := 9) [0, 0, 3, 7, 0, 0, 48, 112, 255] mix (by kernel_rfl) rfl ?_
  refine Pf 0 rfl (AE rfl) (Pf 1 rfl (AE rfl) ?_)
  refine Pf 2 rfl (Bm H9 (by decide) (Kn.Gv r0) rfl rfl (by omega) (by omega)) ?_
  refine Pf 3 rfl (C7 rfl CB (Kn.Gv r0) (by omega)) ?_
  refine Pf 4 rfl (AE rfl) (Pf 5 rfl (AE rfl) ?_)
  refine Pf 6 rfl (Bm H9 (by decide) (Kn.Gv r1) rfl rfl (by omega) (by omega)) ?_
  refine Pf 7 rfl (C7 rfl CB (Kn.Gv r1) (by omega)) ?_
  refine Pf 8 rfl (DW rfl rfl) ?_
  refine A2 (by kernel_rfl) ?_
  refine AB (.t4 0 1 5 25) ?_
  refine AA ?_
  refine Gc (fun c3 => ?_) (fun c3 => ?_)
  ·
   refine Gs (Ga rfl (Gn (.t1 4) (Ab (AO (AD (AD (AO ?_)))))))
   refine AD ?_
   refine AY rfl (.tmp rfl .n) ?_
   intro w1 hS; refine ⟨congrArg Value.bool ?_, hS.Am⟩; have := Bc.Rr (d := []) (xs := xs) (ys := ys) (i := i.toNat) (by simpa using c3)
   simp [this]
  have c3p := kz c3
  refine Aa ?_
  refine AB (.t3 0 1 5) ?_
  refine AT (AA (AI (Gm rfl ?_)))
  refine Gt (Aw rfl rfl (IntWalk.i64_in _ (by omega))) ?_
  refine Ga rfl ?_
  refine AP (AB (.t3 0 1 5) ?_)
  refine B0 (i + 1) ?_ ?_ (.t3 5 0 1) (.refl _)
  · exact ⟨by omega, by omega, hI13, Bc.Jb (d := []) hI11 hI13 (by omega) hI14 (by simpa using c3)⟩
  · omega
 have c2p := kz c2
 refine Ba (AV (AV (Ah ?_)))
 refine AB (.nil _) ?_
 refine AA (Gs (Ga rfl (AP (AA (Ab ?_)))))
 refine AY rfl (.tmp rfl .n) ?_
 intro w1 hS; refine ⟨congrArg Value.bool ?_, hS.Am⟩; have := Bc.ZN (xs := xs) (ys := ys) hI13 hI14 (by omega)
 simp [this]
theorem LC {t0 t1 : Nat} (x y : Ar) (xs ys : List As) (hx : xs.length ≤ 9223372036854775807) (w : World) (r0 : Rd w x.wait t0 1 (xs.flatMap A4)) (r1 : Rd w y.wait t1 1 (ys.flatMap A4)) : EF Tryz.prog 39 #[.agg x.enc.toArray, .agg y.enc.toArray] w fun v w' => v = .bool (decide (xs = ys) && decide (x.shown = y.shown) && (x.B4 == y.B4) && decide (x.ring = y.ring) && (x.cut == y.cut)) ∧ B3 w w' := by
 refine Aj [] [] Tryz.func39 rfl rfl rfl (St.start w []) ?_
 refine Gs ?_
 refine Bu rfl rfl rfl (fun b1 => ?_)
 refine Bu rfl rfl rfl (fun b2 => ?_)
 refine Ga rfl (Gn (.t2 2 3) (Gs (Gt (Af GN rfl) (Gt (AF rfl EI .m1 Ar.l0 rfl rfl) (Gt (Af GN rfl) (Gt (AF rfl EI .m0 Ar.l0 rfl rfl) ?_))))))
 refine A8 rfl ZL (.c rfl (.c rfl .n)) (fun w hS => Gz _ _ _ _ (by first | assumption | omega) w ((Kn.Gv r0) w hS) ((Kn.Gv r1) w hS)) ?_
 refine Gm rfl (BZ 10 rfl rfl (fun q => Af Ix rfl) (BZ 10 rfl rfl (fun q => AF (BV rfl q) A1 .m1 Ar.l1 rfl rfl) (BZ 10 rfl rfl (fun q => Af Ix rfl) (BZ 10 rfl rfl (fun q => AF (BV rfl q) A1 .m0 Ar.l1 rfl rfl) (BZ 10 rfl rfl (fun q => Ai (BV rfl q) (BV rfl q)) (Gt (BH rfl rfl (fun h => h)) (Gm rfl ?_)))))))
 refine BZ 17 rfl rfl (fun q => Af Ly rfl) (BZ 17 rfl rfl (fun q => AF (BV rfl q) Ct .m1 Ar.l2 rfl rfl) (BZ 17 rfl rfl (fun q => Af Ly rfl) (BZ 17 rfl rfl (fun q => AF (BV rfl q) Ct .m0 Ar.l2 rfl rfl) (BZ 17 rfl rfl (fun q => ES Tryz.underlying4 (BV rfl q) (BV rfl q)) (Gt (BH rfl rfl (fun h => h)) (Gm rfl (BZ 24 rfl rfl (fun q => Af Hm rfl) ?_)))))))
 refine BZ 24 rfl rfl (fun q => AF (BV rfl q) CB .m1 Ar.l3 rfl rfl) (BZ 24 rfl rfl (fun q => Af Hm rfl) (BZ 24 rfl rfl (fun q => AF (BV rfl q) CB .m0 Ar.l3 rfl rfl) (BZ 24 rfl rfl (fun q => Bp (BV rfl q) (BV rfl q)) (Gt (BH rfl rfl (fun h => h)) (Gm rfl (BZ 31 rfl rfl (fun q => Af Ig rfl) (BZ 31 rfl rfl (fun q => AF (BV rfl q) Ct .m1 Ar.l4 rfl rfl) ?_)))))))
 refine BZ 31 rfl rfl (fun q => Af Ig rfl) (BZ 31 rfl rfl (fun q => AF (BV rfl q) Ct .m0 Ar.l4 rfl rfl) (BZ 31 rfl rfl (fun q => ES Tryz.underlying4 (BV rfl q) (BV rfl q)) (Gt (BH rfl rfl (fun h => h)) (Ga rfl (Gn (.t1 4) (Ab ?_))))))
 refine AY rfl (.tmp rfl .n) ?_
 intro w1 hS; refine ⟨?_, hS.Am⟩; rfl
theorem Km (b : Nat) (V : AJ) (ls : Vector BE 4) (i : Int) (hi : 0 ≤ i ∧ i < 4) (hl : (ls.at i).queue.length ≤ 1000000) : IP Tryz.prog 32 #[.pointer (some ⟨b, 0, none⟩), .int .i64 i] [Ac.box b 101 (AJ.enc V), Ac.DY (B6 9 (AJ.Ap V) ls)] (fun v B => ∃ h' : Hd, v = .agg (BC.enc ⟨(V.Ap.at i).Dv.now, (V.Ap.at i).Dv.Cc, (V.Ap.at i).Dv.ret, h'⟩).toArray ∧ h'.len = (ls.at i).queue.length ∧ B = [Ac.box b 101 (AJ.enc V), Ac.DY (B6 9 (AJ.Ap V) ls), Ac.own h' 9 1 ((ls.at i).queue.flatMap A4)]) := by
 intro w hS0
 refine Aj _ _ Tryz.func32 rfl rfl rfl (hS0) ?_
 refine Gs ?_
 refine BG rfl Xt rfl (fun b1 => ?_)
 refine AP (AA (CA (Gm rfl (Gt (D2 Tryz.underlying37 rfl) (Gm rfl ?_)))))
 refine CP (t := 8) rfl rfl rfl (AE rfl) ?_
 refine CP (t := 8) rfl rfl rfl (A5 rfl rfl) ?_
 refine Gt (CV rfl rfl) (Gm rfl (BW 12 rfl rfl (fun q => AE rfl) (BW 12 rfl rfl (fun q => CH (cF rfl q) rfl) ?_)))
 refine Gt (BR rfl rfl (fun h => by rw [h]; rfl)) ?_
 refine Gn (.t4 0 1 4 15) ?_
 refine DX rfl (by rw [Bool.or_eq_false_iff, decide_eq_false_iff_not, decide_eq_false_iff_not]; omega) ?_
 refine Aa ?_
 refine AB (.t3 0 1 4) ?_
 refine AA (Ao ?_)
 refine D6 (.c (.t .h) (.c (.t .h) .n)) ?_
 refine Er (k := i) hi.1 hi.2 (fun sv sl hsv hlv hln => ?_)
 have hl2 := hl
 rw [hlv] at hl2
 refine AI (Gm rfl (Gm rfl (Gt (BS rfl) (Gt (Af FO rfl) ?_))))
 refine Gt (AQ Mq rfl rfl (by first | omega | exact hi.1 | exact hi.2) (by first | omega | exact hi.1 | exact hi.2)) ?_
 refine Gt (Af KW rfl) (Gt (AZ rfl HL .m3 ((AS.BL V hi.1 hi.2).comp A0.l3) rfl) ?_)
 refine BG rfl Xt rfl (fun b2 => ?_)
 refine AR (AK (AS.id BC.fl.len BC.fl.one) rfl rfl rfl LU rfl .h) ?_
 refine Gn (.t2 4 5) (Gs (Gt (Af EU rfl) (Gt (AF rfl EI .m0 BC.l3 rfl rfl) ?_)))
 refine DI A4 9 1 ?_
 refine IT (e := A4) rfl Tryz.underlying52 EW RM rfl VY (by decide) rfl rfl (fun w hS => Src.Dj Tryz.underlying52 ((Kn.own .m2) w hS)) rfl rfl (by omega) (fun _ => .h) (fun h1 h1l => ?_)
 refine Gt (Af EU rfl) ?_
 refine AR (AK BC.l3 rfl rfl rfl LV rfl (.t .h)) ?_
 refine Gn (.t2 4 5) (Gs (Gt (AZ rfl HL .m1 (AS.id BC.fl.len BC.fl.one) rfl) ?_))
 refine AR (AK (AS.id BC.fl.len BC.fl.one) rfl rfl rfl LU rfl (.t (.t (.t (.t (.t (.t (.t .h)))))))) ?_
 refine Gn (.t1 4) (Ab ?_)
 refine AY rfl (.cell rfl .m7 (.inl ⟨(by rw [BC.fl.len]; exact HL), rfl⟩) .n) ?_
 intro w1 hS
 have hS := (hS.perm (Av.perm (.c (.t (.t .h)) (.c (.t (.t .h)) (.c (.t (.t .h)) (.c (.t (.t .h)) (.c (.t (.t .h)) (.c .h .n)))))))).Ay
 have e1 : V.BL i sv = V := by rw [← hsv]; exact V.Jg hi.1 hi.2
 have e2 : ls.put i ⟨sl.queue, sl.wait, sl.told⟩ = ls := by rw [← hlv]; exact Vector.LP ls hi.1 hi.2
 have hS := St.close' (s := sv) (qs := sl.queue) (ws := sl.wait) (ts := sl.told) hi.1 hi.2 rfl rfl rfl hS
 rw [e1, e2] at hS
 try rw [hsv]
 rw [hlv]
 refine ⟨_, ⟨_, rfl, ?gl, rfl⟩, hS⟩
 case gl => (try simp only [List.length_append, List.length_nil] at *); omega
theorem Kp {t0 t1 : Nat} (x y : BC) (xs ys : List As) (hx : xs.length ≤ 9223372036854775807) (w : World) (r0 : Rd w x.queue t0 1 (xs.flatMap A4)) (r1 : Rd w y.queue t1 1 (ys.flatMap A4)) : EF Tryz.prog 40 #[.agg x.enc.toArray, .agg y.enc.toArray] w fun v w' => v = .bool (decide (x.now = y.now) && (x.Cc == y.Cc) && (x.ret == y.ret) && decide (xs = ys)) ∧ B3 w w' := by
 refine Aj [] [] Tryz.func40 rfl rfl rfl (St.start w []) ?_
 refine Gs ?_
 refine Bu rfl rfl rfl (fun b1 => ?_)
 refine Bu rfl rfl rfl (fun b2 => ?_)
 refine Ga rfl (Gn (.t2 2 3) (Gs (Gt (Af Hi rfl) (Gt (AF rfl CB .m1 BC.l0 rfl rfl) (Gt (Af Hi rfl) (Gt (AF rfl CB .m0 BC.l0 rfl rfl) (Gt (Bp rfl rfl) ?_)))))))
 refine Gm rfl (BZ 10 rfl rfl (fun q => Af KJ rfl) (BZ 10 rfl rfl (fun q => AF (BV rfl q) Ct .m1 BC.l1 rfl rfl) (BZ 10 rfl rfl (fun q => Af KJ rfl) (BZ 10 rfl rfl (fun q => AF (BV rfl q) Ct .m0 BC.l1 rfl rfl) (BZ 10 rfl rfl (fun q => ES Tryz.underlying4 (BV rfl q) (BV rfl q)) (Gt (BH rfl rfl (fun h => h)) (Gm rfl ?_)))))))
 refine BZ 17 rfl rfl (fun q => Af KP rfl) (BZ 17 rfl rfl (fun q => AF (BV rfl q) Ct .m1 BC.l2 rfl rfl) (BZ 17 rfl rfl (fun q => Af KP rfl) (BZ 17 rfl rfl (fun q => AF (BV rfl q) Ct .m0 BC.l2 rfl rfl) (BZ 17 rfl rfl (fun q => ES Tryz.underlying4 (BV rfl q) (BV rfl q)) (Gt (BH rfl rfl (fun h => h)) (Gm rfl (BZ 24 rfl rfl (fun q => Af EU rfl) ?_)))))))
 refine BZ 24 rfl rfl (fun q => AF (BV rfl q) EI .m1 BC.l3 rfl rfl) (BZ 24 rfl rfl (fun q => Af EU rfl) (BZ 24 rfl rfl (fun q => AF (BV rfl q) EI .m0 BC.l3 rfl rfl) ?_))
 refine KK (t := 24) rfl rfl rfl (fun q => by have q1 := q; (try simp at q1); exact Dr ZL (.c (BV rfl q) (.c (BV rfl q) .n)) (fun w hS => Gz _ _ _ _ (by first | assumption | omega) w ((Kn.Gv r0) w hS) ((Kn.Gv r1) w hS))) ?_
 refine Gt (BH rfl rfl (fun h => h)) (Ga rfl (Gn (.t1 4) (Ab ?_)))
 refine AY rfl (.tmp rfl .n) ?_
 intro w1 hS; refine ⟨?_, hS.Am⟩; rfl
theorem Ki (b : Nat) (V : AJ) : IP Tryz.prog 18 #[.pointer (some ⟨b, 0, none⟩)] [Ac.box b 101 (AJ.enc V)] (fun v B => v = .agg (AH.enc V.w).toArray ∧ B = [Ac.box b 101 (AJ.enc V)]) := by
 intro w hS0
 refine Aj _ _ Tryz.func18 rfl rfl rfl (hS0) ?_
 refine Gs ?_
 refine BG rfl Li rfl (fun b1 => ?_)
 refine AP (AA (CA (Gm rfl (Gt (D2 Tryz.underlying37 rfl) (Gn (.t3 0 2 4) ?_)))))
 refine DX rfl rfl ?_
 refine Aa ?_
 refine AB (.t2 0 2) ?_
 refine AA (Gs (Gm rfl (Gt (BS rfl) (Gt (Af Du rfl) (Gt (AZ rfl BT .m1 AJ.l0 rfl) ?_)))))
 refine AR (AK (AS.id AH.fl.len AH.fl.one) rfl rfl rfl Dt rfl .h) ?_
 refine Gn (.t1 2) (Ab ?_)
 refine AY rfl (.cell rfl .m0 (.inl ⟨(by rw [AH.fl.len]; exact BT), rfl⟩) .n) ?_
 intro w1 hS
 have hS := (hS.perm (Av.perm (.c (.t .h) .n))).Ay
 exact ⟨_, ⟨rfl, rfl⟩, hS⟩
theorem Oa (b : Nat) (V : AJ) (ls : Vector BE 4) (ev : List Ing.Event) (c : Nat) (W : AJ) (ms : Vector BE 4) (fv : List Ing.Event) (hA : (A3 V ls ev).Live) (hB : (A3 W ms fv).Live) : IP Tryz.prog 47 #[.pointer (some ⟨b, 0, none⟩), .pointer (some ⟨c, 0, none⟩)] [Ac.box b 101 (AJ.enc V), Ac.DY (B6 9 (AJ.Ap V) ls), Ac.box c 101 (AJ.enc W), Ac.DY (B6 9 (AJ.Ap W) ms)] (fun v B => v = .bool (AL.same (A3 V ls ev) (A3 W ms fv)) ∧ B = [Ac.box b 101 (AJ.enc V), Ac.DY (B6 9 (AJ.Ap V) ls), Ac.box c 101 (AJ.enc W), Ac.DY (B6 9 (AJ.Ap W) ms)]) := by
 intro w hS0
 refine Aj _ _ Tryz.func47 rfl rfl rfl (hS0) ?_
 refine Gs (Ga rfl (Gn (.t2 0 1) (CA (Gm rfl (AP (AA (Ae ?_)))))))
 refine Bj (.t3 10 0 1) ?_
 refine CR (fun (i : Int) => 0 ≤ i ∧ i ≤ 4 ∧ AL.same (A3 V ls ev) (A3 W ms fv) = (B9 4 (AL.sameAt (A3 V ls ev) (A3 W ms fv)) (4 - i).toNat && decide (V.w = W.w))) (fun (i : Int) => (4 - i).toNat) (fun (i : Int) => [(10, .int .i64 i)]) (fun (i : Int) => []) (0) ?_ rfl rfl (fun i hI1 => ?_)
 · exact ⟨by omega, by omega, rfl⟩
 obtain ⟨hI11, hI12, hI13⟩ := hI1
 refine Gs (Gt (A5 rfl rfl) (AP (AA (Ao ?_))))
 refine Gc (fun c1 => ?_) (fun c1 => ?_)
 ·
  have c1p := kz c1
  have hi : 0 ≤ i ∧ i < 4 := ⟨by omega, by omega⟩
  rw [C2 _ (by omega)] at hI13
  refine Aa ?_
  refine AB (.t3 0 1 10) ?_
  refine AA (Ao (Ae (Gs (Gm rfl (Ga rfl (Gn (.t4 0 1 5 10) (Gs ?_)))))))
  refine Gm rfl (Gm rfl ?_)
  refine Ag rfl YZ (.c rfl (.c rfl .n)) (.c .h .n) (Hj b V i hi) (fun v1 B hv => ?_)
  obtain ⟨rfl, rfl⟩ := hv
  refine Gm rfl (Gt (AM rfl rfl) (Gt (AM rfl rfl) (Ga rfl (Ga rfl (Gn (.t6 0 1 5 6 7 10) (Gs (Gm rfl ?_)))))))
  refine Gm rfl ?_
  refine Ag rfl YZ (.c rfl (.c rfl .n)) (.c (.t (.t .h)) .n) (Hj c W i hi) (fun v2 B hv => ?_)
  obtain ⟨rfl, rfl⟩ := hv
  refine Gm rfl (Gt (AM rfl rfl) (Gt (AM rfl rfl) (Ga rfl (Ga rfl (Gn (.t8 0 1 5 6 7 8 9 10) (Gs (Gm rfl ?_)))))))
  refine Gm rfl (Gt (CK rfl rfl) (Gm rfl (BW 28 rfl rfl (fun q => AE rfl) (BW 28 rfl rfl (fun q => AE rfl) (BW 28 rfl rfl (fun q => CK (cF rfl q) (cF rfl q)) ?_)))))
  refine Gt (BR rfl rfl (fun h => by rw [h]; rfl)) ?_
  refine Gm rfl (BW 33 rfl rfl (fun q => AE rfl) (BW 33 rfl rfl (fun q => AE rfl) ?_))
  refine Kf 33 rfl (fun c2 => ?_) (fun c2 => ?_)
  ·
   refine Bt (t := 33) rfl rfl rfl rfl ?_
   refine Bt (t := 33) rfl rfl rfl rfl ?_
   refine Bt (t := 33) rfl rfl rfl rfl ?_
   refine Bt (t := 33) rfl rfl rfl rfl ?_
   refine Bt (t := 33) rfl rfl rfl rfl ?_
   refine Bt (t := 33) rfl rfl rfl rfl ?_
   refine Gt (CY rfl rfl) (Gm rfl ?_)
   refine Bt (t := 43) rfl rfl rfl rfl ?_
   refine Bt (t := 43) rfl rfl rfl rfl ?_
   refine Bt (t := 43) rfl rfl rfl rfl ?_
   refine Bt (t := 43) rfl rfl rfl rfl ?_
   refine Bt (t := 43) rfl rfl rfl rfl ?_
   refine Bt (t := 43) rfl rfl rfl rfl ?_
   refine Bt (t := 43) rfl rfl rfl rfl ?_
   refine Bt (t := 43) rfl rfl rfl rfl ?_
   refine Gt (CY rfl rfl) (Gn (.t4 0 1 10 52) ?_)
   refine FM rfl rfl ?_
   refine Gs (Ga rfl (Gn (.t1 4) (Ab (AO (AD (AD (AO ?_)))))))
   refine AD ?_
   refine AY rfl (.tmp rfl .n) ?_
   intro w1 hS
   have hS := (hS.perm (Av.perm (.c (.t .h) (.c (.t .h) (.c .h (.c .h .n)))))).Ay
   refine ⟨_, ⟨?gv1, rfl⟩, hS⟩
   case gv1 => exact congrArg Value.bool (by rw [hI13]; simp only [Jh hi.1 hi.2, c1, c2, ↓reduceIte, Bool.false_eq_true, Bool.true_or, Bool.or_true, Bool.false_or, Bool.or_false, Bool.not_true, Bool.not_false, Bool.false_and])
  have c2p := kz c2
  refine Fq (t := 33) rfl (by first | rfl | exact YU rfl c2) rfl Ze (.c (BV rfl (by rw [c2]; rfl)) (.c (BV rfl (by rw [c2]; rfl)) .n)) (.c (.t .h) (.c (.t .h) .n)) (Kj b V ls i hi (hA.wait hi.1 hi.2)) (fun v3 B hv => ?_)
  obtain ⟨y4, rfl, y5, rfl⟩ := hv
  refine CP (t := 33) rfl rfl rfl (AE rfl) ?_
  refine CP (t := 33) rfl rfl rfl (AE rfl) ?_
  refine Fq (t := 33) rfl (by first | rfl | exact YU rfl c2) rfl Ze (.c rfl (.c rfl .n)) (.c (.t (.t (.t .h))) (.c (.t (.t (.t .h))) .n)) (Kj c W ms i hi (hB.wait hi.1 hi.2)) (fun v7 B hv => ?_)
  obtain ⟨y8, rfl, y9, rfl⟩ := hv
  refine Om (t := 33) rfl rfl rfl cK (.c rfl (.c rfl .n)) (fun w hS => LC _ _ _ _ (Nat.le_trans (hA.wait hi.1 hi.2) (by decide)) w ((Kn.own .m5) w hS) ((Kn.own .m2) w hS)) ?_
  refine CP (t := 33) rfl rfl rfl (BO rfl) ?_
  refine Gt (CV rfl rfl) (Gm rfl (BW 43 rfl rfl (fun q => AE rfl) (BW 43 rfl rfl (fun q => AE rfl) ?_)))
  refine Kf 43 rfl (fun c3 => ?_) (fun c3 => ?_)
  ·
   refine Bt (t := 43) rfl rfl rfl rfl ?_
   refine Bt (t := 43) rfl rfl rfl rfl ?_
   refine Bt (t := 43) rfl rfl rfl rfl ?_
   refine Bt (t := 43) rfl rfl rfl rfl ?_
   refine Bt (t := 43) rfl rfl rfl rfl ?_
   refine Bt (t := 43) rfl rfl rfl rfl ?_
   refine Gt (CY rfl rfl) (Gn (.t4 0 1 10 52) ?_)
   refine FM rfl rfl ?_
   refine Gs (Ga rfl (Gn (.t1 4) (Ab (AO (AD (AD (AO ?_)))))))
   refine AD ?_
   refine AY rfl (.tmp rfl .n) ?_
   intro w1 hS
   have hS := (hS.perm (Av.perm (.c (.t (.t (.t .h))) (.c (.t (.t (.t .h))) (.c .h (.c .h .n)))))).Ay
   refine ⟨_, ⟨?gv2, rfl⟩, hS⟩
   case gv2 => exact congrArg Value.bool (by rw [hI13]; simp only [Jh hi.1 hi.2, c1, c2, c3, ↓reduceIte, Bool.false_eq_true, Bool.true_or, Bool.or_true, Bool.false_or, Bool.or_false, Bool.not_true, Bool.not_false, Bool.false_and])
  have c3p := kz c3
  refine Fq (t := 43) rfl (by first | rfl | exact YU rfl c3) rfl Zz (.c (BV rfl (by rw [c3]; rfl)) (.c (BV rfl (by rw [c3]; rfl)) .n)) (.c (.t (.t (.t .h))) (.c (.t (.t (.t .h))) .n)) (Km b V ls i hi (hA.queue hi.1 hi.2)) (fun v11 B hv => ?_)
  obtain ⟨y12, rfl, y13, rfl⟩ := hv
  refine CP (t := 43) rfl rfl rfl (AE rfl) ?_
  refine CP (t := 43) rfl rfl rfl (AE rfl) ?_
  refine Fq (t := 43) rfl (by first | rfl | exact YU rfl c3) rfl Zz (.c rfl (.c rfl .n)) (.c (.t (.t (.t .h))) (.c (.t (.t (.t .h))) .n)) (Km c W ms i hi (hB.queue hi.1 hi.2)) (fun v15 B hv => ?_)
  obtain ⟨y16, rfl, y17, rfl⟩ := hv
  refine Om (t := 43) rfl rfl rfl cJ (.c rfl (.c rfl .n)) (fun w hS => Kp _ _ _ _ (Nat.le_trans (hA.queue hi.1 hi.2) (by decide)) w ((Kn.own .m5) w hS) ((Kn.own .m2) w hS)) ?_
  refine CP (t := 43) rfl rfl rfl (BO rfl) ?_
  refine Gt (CV rfl rfl) (Gn (.t4 0 1 10 52) ?_)
  refine Gc (fun c4 => ?_) (fun c4 => ?_)
  ·
   refine Gs (Ga rfl (Gn (.t1 4) (Ab (AO (AD (AD (AO ?_)))))))
   refine AD ?_
   refine AY rfl (.tmp rfl .n) ?_
   intro w1 hS
   have hS := (hS.perm (Av.perm (.c (.t (.t (.t .h))) (.c (.t (.t (.t .h))) (.c .h (.c .h .n)))))).Ay
   refine ⟨_, ⟨?gv3, rfl⟩, hS⟩
   case gv3 => exact congrArg Value.bool (by rw [hI13]; simp only [Jh hi.1 hi.2, c1, c2, c3, c4, ↓reduceIte, Bool.false_eq_true, Bool.true_or, Bool.or_true, Bool.false_or, Bool.or_false, Bool.not_true, Bool.not_false, Bool.false_and])
  have c4p := kz c4
  refine Aa ?_
  refine AB (.t3 0 1 10) ?_
  refine AT (AA (AI ?_))
  refine Gt (Aw rfl rfl (IntWalk.i64_in _ (by first | omega | exact hi.1 | exact hi.2))) ?_
  refine Gm rfl ?_
  refine AP (AB (.t3 0 1 10) ?_)
  refine CQ (.c (.t (.t (.t .h))) (.c (.t (.t (.t .h))) (.c .h (.c .h .n)))) ?_
  refine Cf ?_
  refine B0 (i + 1) ?_ ?_ (.t3 10 0 1) (.refl _)
  · exact ⟨by omega, by omega, by rw [hI13]; simp only [Jh hi.1 hi.2, c1, c2, c3, c4, ↓reduceIte, Bool.false_eq_true, Bool.or_self, Bool.not_false, Bool.true_and, Bool.or_false, Bool.false_or]⟩
  · omega
 have c1p := kz c1
 obtain rfl : i = 4 := by omega
 refine Ba (AV (AV (Ah ?_)))
 refine AB (.t2 0 1) ?_
 refine AA (Gs (Gm rfl ?_))
 refine Ag rfl aZ (.c rfl .n) (.c .h .n) (Ki _ _) (fun v19 B hv => ?_)
 obtain ⟨rfl, rfl⟩ := hv
 refine Gm rfl ?_
 refine Ag rfl aZ (.c rfl .n) (.c (.t (.t .h)) .n) (Ki _ _) (fun v20 B hv => ?_)
 obtain ⟨rfl, rfl⟩ := hv
 refine Gt (M4 bP (by decide) (by kernel_rfl) rfl rfl) ?_
 refine Ga rfl (Gn (.t1 4) (Ab ?_))
 refine AY rfl (.tmp rfl .n) ?_
 intro w1 hS
 have hS := (hS.perm (Av.perm (.c (.t .h) (.c (.t .h) (.c .h (.c .h .n)))))).Ay
 refine ⟨_, ⟨?gv4, rfl⟩, hS⟩
 case gv4 => exact congrArg Value.bool (by rw [hI13]; rfl)
end Go.Proofs.YtoidpggbbfncpaaGreatDoor
