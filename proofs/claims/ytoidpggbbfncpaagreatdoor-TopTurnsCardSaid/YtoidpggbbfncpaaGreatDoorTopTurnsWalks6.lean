/- What the functions that the law TopTurns reaches compute: walks, part 6. No condition. -/
import Derived.Test.YtoidpggbbfncpaaGreatDoorCards
import Derived.Test.YtoidpggbbfncpaaGreatDoorTie
import Derived.Deep.DeepHandedRow
import Derived.Test.YtoidpggbbfncpaaGreatDoorRows
import Derived.Test.YtoidpggbbfncpaaGreatDoorTopTurnsEc3
import Derived.Test.YtoidpggbbfncpaaGreatDoorTopTurnsRa1
import Derived.Test.YtoidpggbbfncpaaGreatDoorTopTurnsRb1
import Derived.Test.YtoidpggbbfncpaaGreatDoorTopTurnsRc1
import Derived.Test.YtoidpggbbfncpaaGreatDoorTopTurnsWalks
import Derived.Test.YtoidpggbbfncpaaGreatDoorTopTurnsWalks2
import Derived.Test.YtoidpggbbfncpaaGreatDoorTopTurnsWalks3
import Derived.Test.YtoidpggbbfncpaaGreatDoorTopTurnsWalks4
import Derived.Test.YtoidpggbbfncpaaGreatDoorTopTurnsWalks5
set_option linter.unusedSimpArgs false
set_option linter.unusedVariables false
set_option maxRecDepth 100000
set_option maxHeartbeats 1000000
namespace Go.Proofs.YtoidpggbbfncpaaGreatDoor
open Go Go.Ing Go.RowKit Go.ChangeShapes Go.WideShapes Go.ChangeAt
theorem OA {t0 : Nat} (l : BG) (qs : List Ap) (w : World) (r0 : Rd w l.queue t0 1 (qs.flatMap A7)) : Ei Tryz.prog 45 #[.agg l.enc.toArray] w fun v w' => v = .bool (Bb.Bg l qs) ∧ CB w w' := by
 have hl := r0.Mu DW (by decide)
 refine Al [] [] Tryz.func45 rfl rfl rfl (St.start w []) ?_
 refine Gs ?_
 refine B4 rfl rfl rfl (fun b1 => ?_)
 refine Ga rfl (Gn (.t1 1) (CG (Gt (Ah Jj rfl) (Gt (AG rfl CV .m0 BG.l0 rfl rfl) (Gt (BI rfl Tryz.underlying9 rfl) (Gt (Cj rfl rfl) (Gm rfl ?_)))))))
 refine Ba 10 rfl rfl (fun q => Ah FP rfl) (Ba 10 rfl rfl (fun q => AG (cF rfl q) FZ .m0 BG.l3 rfl rfl) (Ba 10 rfl rfl (fun q => Ar rfl Tryz.underlying52 (cF rfl q)) (Ba 10 rfl rfl (fun q => Cj (cF rfl q) rfl) ?_)))
 refine Gt (BR rfl rfl (fun h => by rw [h]; rfl)) ?_
 refine Gm rfl (Ba 16 rfl rfl (fun q => Ah Nr rfl) (Ba 16 rfl rfl (fun q => AG (cF rfl q) Dj .m0 BG.l1 rfl rfl) (Ba 16 rfl rfl (fun q => AE (cF rfl q)) ?_)))
 refine Cu (t := 19) rfl rfl rfl (fun qc q => Ah Jj rfl) ?_
 refine Cu (t := 19) rfl rfl rfl (fun qc q => AG (Bh rfl (by rw [qc, q]; rfl)) CV .m0 BG.l0 rfl rfl) ?_
 refine Cu (t := 19) rfl rfl rfl (fun qc q => BI rfl Tryz.underlying9 (Bh rfl (by rw [qc, q]; rfl))) ?_
 refine Cu (t := 19) rfl rfl rfl (fun qc q => Cj (Bh rfl (by rw [qc, q]; rfl)) rfl) ?_
 refine Ba 16 rfl rfl (fun q => BK (cF rfl q) rfl (fun h => by rw [q, h]; rfl)) ?_
 refine Gt (BR rfl rfl (fun h => by rw [h]; rfl)) ?_
 refine Gm rfl (Ba 26 rfl rfl (fun q => Ah OV rfl) (Ba 26 rfl rfl (fun q => AG (cF rfl q) Dj .m0 BG.l2 rfl rfl) (Ba 26 rfl rfl (fun q => AE (cF rfl q)) ?_)))
 refine Cu (t := 29) rfl rfl rfl (fun qc q => Ah Jj rfl) ?_
 refine Cu (t := 29) rfl rfl rfl (fun qc q => AG (Bh rfl (by rw [qc, q]; rfl)) CV .m0 BG.l0 rfl rfl) ?_
 refine Cu (t := 29) rfl rfl rfl (fun qc q => Dv (Bh rfl (by rw [qc, q]; rfl)) rfl) ?_
 refine Cu (t := 29) rfl rfl rfl (fun qc q => AE (Bh rfl (by rw [qc, q]; rfl))) ?_
 refine C1 (t := 33) rfl rfl rfl (fun qc q => Ah Nr rfl) ?_
 refine C1 (t := 33) rfl rfl rfl (fun qc q => AG (Bh rfl (by rw [qc, q]; rfl)) Dj .m0 BG.l1 rfl rfl) ?_
 refine Cu (t := 29) rfl rfl rfl (fun qc q => BR (Bh rfl (by rw [qc, q]; rfl)) rfl (fun h => by rw [qc, q, h]; rfl)) ?_
 refine Ba 26 rfl rfl (fun q => BK (cF rfl q) rfl (fun h => by rw [q, h]; rfl)) ?_
 refine Gt (BR rfl rfl (fun h => by rw [h]; rfl)) ?_
 refine Gn (.t2 1 38) ?_
 refine Gc (fun c1 => ?_) (fun c1 => ?_)
 ·
  refine Gs (Ga rfl (Gn (.t1 2) (Ab (AD ?_))))
  refine AY rfl (.tmp rfl .n) ?_
  intro w1 hS; refine ⟨congrArg Value.bool ?_, hS.Am⟩; rw [Bb.Bg, show Bb.I7 l = true from c1]; rfl
 have c1p := kz c1
 have hq : (l.queue.len : Int) ≤ 6 := by omega
 refine Aa ?_
 refine AB (.t1 1) ?_
 refine AA (Ao (Ao ?_))
 refine BE (N := 9) [0, 1, 3, 0, 8, 24, 63, 127, 0] mix (by kernel_rfl) rfl ?_
 refine Pf 0 rfl (Ah FP rfl) (Pf 1 rfl (AG rfl FZ .m0 BG.l3 rfl rfl) (Pf 3 rfl (Ah Jj rfl) (Pf 4 rfl (AG rfl CV .m0 BG.l0 rfl rfl) (Pf 8 rfl (AE rfl) ?_))))
 refine J0 2 5 rfl rfl (by kernel_rfl) ?_ ?_
 ·
  refine BF rfl U6 (.c rfl .n) .n (Bx _ _ (by first | assumption | omega)) (fun w hS => (Kn.I0 r0) w hS) (fun v1 B hv => ?_)
  obtain ⟨y2, rfl, y3, rfl⟩ := hv
  refine Bp rfl ⟨?_, ?_⟩
  · exact (Po rfl (AE rfl) rfl rfl (Po rfl (AG rfl CV .m1 BG.l0 rfl rfl) rfl rfl (Po rfl (Ah Jj rfl) rfl rfl (Pk (Pk Aq)))))
  refine An 5 rfl (by kernel_rfl) ?_
  refine Fg A7 DW rfl Tryz.underlying52 Eo Sh rfl (by decide) (by decide) rfl rfl (fun b2 => ?_)
  refine Bp rfl ⟨?_, ?_⟩
  · exact (Po rfl (AE rfl) rfl rfl (Pk (Pk (Po rfl (AG rfl FZ .m2 BG.l3 rfl rfl) rfl rfl (Po rfl (Ah FP rfl) rfl rfl Aq)))))
  refine An 6 rfl (by kernel_rfl) ?_
  refine Cc DW rfl Tryz.underlying52 Eo Sh rfl X1 (by decide) (by decide) rfl rfl (fun w hS => Src.D3 Tryz.underlying52 ((Kn.own .m0) w hS)) (by (try dsimp only); omega) (fun _ => (.t .h)) (fun h5 h5l h5z => ?_)
  refine Bp rfl ⟨?_, ?_⟩
  · exact (Po rfl (AE rfl) rfl rfl (Pk (Pk (Pk (Pk Aq)))))
  refine Pf 7 rfl (Ar rfl Tryz.underlying52 rfl) ?_
  refine A4 (by kernel_rfl) ?_
  refine AB (.t3 45 46 47) ?_
  refine AA (Af ?_)
  refine Bo (.t3 47 45 46) ?_
  refine Ci (fun (k : Int) => 0 ≤ k ∧ k ≤ ((qs ++ [l.now]).length : Int) ∧ Bb.Bg l qs = ((qs ++ [l.now]).drop k.toNat).all Bb.F0) (fun (k : Int) => (((qs ++ [l.now]).length : Int) - k).toNat) (fun (k : Int) => [(47, .int .i64 k)]) (fun (k : Int) => []) (0) ?_ rfl rfl (fun k hI1 => ?_)
  · exact ⟨by omega, by omega, by rw [Bb.Bg, show Bb.I7 l = false from c1]; rfl⟩
  obtain ⟨hI11, hI12, hI13⟩ := hI1
  refine Gs (Gt (A8 rfl rfl) (AQ (AA (Ao ?_))))
  refine Gc (fun c2 => ?_) (fun c2 => ?_)
  ·
   have c2p := kz c2
   have hk : k < ((qs ++ [l.now]).length : Int) := by simp only [List.length_append, List.length_cons, List.length_nil] at *; omega
   have hk7 : ((qs ++ [l.now]).length : Int) ≤ 7 := by simp only [List.length_append, List.length_cons, List.length_nil] at *; omega
   refine Aa ?_
   refine AB (.t3 45 46 47) ?_
   refine AA (Ao (Af (Gs ?_)))
   refine Gt (Br JQ (by decide) (Kn.own .m1) rfl rfl (by omega) (by simp only [List.length_append, List.length_cons, List.length_nil] at *; omega)) ?_
   refine Gt (Dg rfl CV (Kn.own .m1) (by omega)) ?_
   refine Ga rfl (Gn (.t4 4 45 46 47) (CG (Gm rfl (Gt (BI rfl Tryz.underlying9 rfl) (Gt (Cj rfl rfl) (Gn (.t5 4 45 46 47 53) ?_))))))
   refine Gc (fun c3 => ?_) (fun c3 => ?_)
   ·
    refine Gs (Ga rfl (Gn (.t1 2) (Ab (AD (AS (AD (AD ?_)))))))
    refine AS (AD ?_)
    refine AY rfl (.tmp rfl .n) ?_
    intro w1 hS; refine ⟨congrArg Value.bool ?_, hS.Am⟩; rw [hI13, Bb.FE (d := []) hI11 hk, Bb.F0, c3]; rfl
   have c3p := kz c3
   refine Aa ?_
   refine AB (.t4 4 45 46 47) ?_
   refine AA (Gs (Gm rfl (Gt (BI rfl Tryz.underlying9 rfl) (Gm rfl (Gn (.t6 4 45 46 47 55 56) (Af ?_))))))
   refine Bo (.t6 56 4 45 46 47 55) ?_
   refine Ci (fun (i : Int) => 0 ≤ i ∧ i ≤ (((qs ++ [l.now]).getD k.toNat []).length : Int) ∧ Bb.F0 ((qs ++ [l.now]).getD k.toNat []) = (((qs ++ [l.now]).getD k.toNat []).drop i.toNat).all Bb.Ft) (fun (i : Int) => ((((qs ++ [l.now]).getD k.toNat []).length : Int) - i).toNat) (fun (i : Int) => [(56, .int .i64 i)]) (fun (i : Int) => []) (0) ?_ rfl rfl (fun i hI2 => ?_)
   · exact ⟨by omega, by omega, by rw [Bb.F0, c3]; rfl⟩
   obtain ⟨hI21, hI22, hI23⟩ := hI2
   refine Gs (Gt (A8 rfl rfl) (AQ (AA (Ao ?_))))
   refine Gc (fun c4 => ?_) (fun c4 => ?_)
   ·
    have c4p := kz c4
    refine Aa ?_
    refine AB (.t6 4 45 46 47 55 56) ?_
    refine AA (Ao (Af (Gs (Gm rfl (Ga rfl (Gn (.t7 4 5 45 46 47 55 56) (Gs ?_)))))))
    refine Gm rfl (Gm rfl ?_)
    refine Gt (Bl Tryz.underlying9 rfl rfl (by omega) (by omega)) ?_
    refine BA rfl Z9 (.c rfl .n) (fun w hS => Gr _ w) ?_
    refine Gt (BV rfl) (Gn (.t7 4 45 46 47 55 56 63) ?_)
    refine Gc (fun c5 => ?_) (fun c5 => ?_)
    ·
     have c5p := kz c5
     refine Gs (Ga rfl (Gn (.t1 2) (Ab (AS (AD (AD (AS ?_)))))))
     refine AS (AD (AD (AS (AD ?_))))
     refine AY rfl (.tmp rfl .n) ?_
     intro w1 hS; refine ⟨congrArg Value.bool ?_, hS.Am⟩; rw [hI13, Bb.FE (d := []) hI11 hk, hI23, Bb.FE (d := 0) hI21 (by omega), show Bb.Ft _ = false from by simpa using c5]; rfl
    have c5p := kz c5
    refine Aa ?_
    refine AB (.t6 4 45 46 47 55 56) ?_
    refine AV (AA (AJ ?_))
    refine Gt (Av rfl rfl (IntWalk.i64_in _ (by omega))) ?_
    refine Gm rfl ?_
    refine AQ (AB (.t6 4 45 46 47 55 56) ?_)
    refine B8 (i + 1) ?_ ?_ (.t6 56 4 45 46 47 55) (.refl _)
    · exact ⟨by omega, by omega, by rw [hI23, Bb.FE (d := 0) hI21 (by omega), show Bb.Ft _ = true from by simpa using c5]; rfl⟩
    · omega
   have c4p := kz c4
   refine Bf (AX (AX (Ai ?_)))
   refine AB (.t3 45 46 47) ?_
   refine AV (AA (AJ ?_))
   refine Gt (Av rfl rfl (IntWalk.i64_in _ (by omega))) ?_
   refine Gm rfl ?_
   refine AQ (AB (.t3 45 46 47) ?_)
   refine B8 (k + 1) ?_ ?_ (.t3 47 45 46) (.refl _)
   · exact ⟨by omega, by omega, by rw [hI13, Bb.FE (d := []) hI11 hk, hI23, show i.toNat = ((qs ++ [l.now]).getD k.toNat []).length from by omega, List.drop_length]; rfl⟩
   · omega
  have c2p := kz c2
  have hk : ¬ k < ((qs ++ [l.now]).length : Int) := by simp only [List.length_append, List.length_cons, List.length_nil] at *; omega
  refine Bf (AX (AX (Ai ?_)))
  refine AB (.nil _) ?_
  refine AA (Gs (Ga rfl (AQ (AA (Ab ?_)))))
  refine AY rfl (.tmp rfl .n) ?_
  intro w1 hS; refine ⟨congrArg Value.bool ?_, hS.Am⟩; rw [hI13, show k.toNat = (qs ++ [l.now]).length from by omega, List.drop_length]; rfl
 ·
  refine Fg A7 DW rfl Tryz.underlying52 Eo Sh rfl (by decide) (by decide) rfl rfl (fun b3 => ?_)
  refine Bp rfl ⟨?_, ?_⟩
  · exact (Po rfl (AE rfl) rfl rfl (Pk (Pk (Po rfl (AG rfl FZ .m1 BG.l3 rfl rfl) rfl rfl (Po rfl (Ah FP rfl) rfl rfl Aq)))))
  refine An 2 rfl (by kernel_rfl) ?_
  refine BF rfl U6 (.c rfl .n) .n (Bx _ _ (by first | assumption | omega)) (fun w hS => (Kn.I0 r0) w hS) (fun v6 B hv => ?_)
  obtain ⟨y7, rfl, y8, rfl⟩ := hv
  refine Bp rfl ⟨?_, ?_⟩
  · exact (Po rfl (AE rfl) rfl rfl (Po rfl (AG rfl CV .m2 BG.l0 rfl rfl) rfl rfl (Po rfl (Ah Jj rfl) rfl rfl (Pk (Pk Aq)))))
  refine An 6 rfl (by kernel_rfl) ?_
  refine Cc DW rfl Tryz.underlying52 Eo Sh rfl X1 (by decide) (by decide) rfl rfl (fun w hS => Src.D3 Tryz.underlying52 ((Kn.own .m1) w hS)) (by (try dsimp only); omega) (fun _ => .h) (fun h10 h10l h10z => ?_)
  refine Bp rfl ⟨?_, ?_⟩
  · exact (Po rfl (AE rfl) rfl rfl (Pk (Pk (Pk (Pk Aq)))))
  refine Pf 7 rfl (Ar rfl Tryz.underlying52 rfl) ?_
  refine A4 (by kernel_rfl) ?_
  refine AB (.t3 45 46 47) ?_
  refine AA (Af ?_)
  refine Bo (.t3 47 45 46) ?_
  refine Ci (fun (k : Int) => 0 ≤ k ∧ k ≤ ((qs ++ [l.now]).length : Int) ∧ Bb.Bg l qs = ((qs ++ [l.now]).drop k.toNat).all Bb.F0) (fun (k : Int) => (((qs ++ [l.now]).length : Int) - k).toNat) (fun (k : Int) => [(47, .int .i64 k)]) (fun (k : Int) => []) (0) ?_ rfl rfl (fun k hI1 => ?_)
  · exact ⟨by omega, by omega, by rw [Bb.Bg, show Bb.I7 l = false from c1]; rfl⟩
  obtain ⟨hI11, hI12, hI13⟩ := hI1
  refine Gs (Gt (A8 rfl rfl) (AQ (AA (Ao ?_))))
  refine Gc (fun c6 => ?_) (fun c6 => ?_)
  ·
   have c6p := kz c6
   have hk : k < ((qs ++ [l.now]).length : Int) := by simp only [List.length_append, List.length_cons, List.length_nil] at *; omega
   have hk7 : ((qs ++ [l.now]).length : Int) ≤ 7 := by simp only [List.length_append, List.length_cons, List.length_nil] at *; omega
   refine Aa ?_
   refine AB (.t3 45 46 47) ?_
   refine AA (Ao (Af (Gs ?_)))
   refine Gt (Br JQ (by decide) (Kn.own .m0) rfl rfl (by omega) (by simp only [List.length_append, List.length_cons, List.length_nil] at *; omega)) ?_
   refine Gt (Dg rfl CV (Kn.own .m0) (by omega)) ?_
   refine Ga rfl (Gn (.t4 4 45 46 47) (CG (Gm rfl (Gt (BI rfl Tryz.underlying9 rfl) (Gt (Cj rfl rfl) (Gn (.t5 4 45 46 47 53) ?_))))))
   refine Gc (fun c7 => ?_) (fun c7 => ?_)
   ·
    refine Gs (Ga rfl (Gn (.t1 2) (Ab (AD (AS (AD (AD ?_)))))))
    refine AS (AD ?_)
    refine AY rfl (.tmp rfl .n) ?_
    intro w1 hS; refine ⟨congrArg Value.bool ?_, hS.Am⟩; rw [hI13, Bb.FE (d := []) hI11 hk, Bb.F0, c7]; rfl
   have c7p := kz c7
   refine Aa ?_
   refine AB (.t4 4 45 46 47) ?_
   refine AA (Gs (Gm rfl (Gt (BI rfl Tryz.underlying9 rfl) (Gm rfl (Gn (.t6 4 45 46 47 55 56) (Af ?_))))))
   refine Bo (.t6 56 4 45 46 47 55) ?_
   refine Ci (fun (i : Int) => 0 ≤ i ∧ i ≤ (((qs ++ [l.now]).getD k.toNat []).length : Int) ∧ Bb.F0 ((qs ++ [l.now]).getD k.toNat []) = (((qs ++ [l.now]).getD k.toNat []).drop i.toNat).all Bb.Ft) (fun (i : Int) => ((((qs ++ [l.now]).getD k.toNat []).length : Int) - i).toNat) (fun (i : Int) => [(56, .int .i64 i)]) (fun (i : Int) => []) (0) ?_ rfl rfl (fun i hI2 => ?_)
   · exact ⟨by omega, by omega, by rw [Bb.F0, c7]; rfl⟩
   obtain ⟨hI21, hI22, hI23⟩ := hI2
   refine Gs (Gt (A8 rfl rfl) (AQ (AA (Ao ?_))))
   refine Gc (fun c8 => ?_) (fun c8 => ?_)
   ·
    have c8p := kz c8
    refine Aa ?_
    refine AB (.t6 4 45 46 47 55 56) ?_
    refine AA (Ao (Af (Gs (Gm rfl (Ga rfl (Gn (.t7 4 5 45 46 47 55 56) (Gs ?_)))))))
    refine Gm rfl (Gm rfl ?_)
    refine Gt (Bl Tryz.underlying9 rfl rfl (by omega) (by omega)) ?_
    refine BA rfl Z9 (.c rfl .n) (fun w hS => Gr _ w) ?_
    refine Gt (BV rfl) (Gn (.t7 4 45 46 47 55 56 63) ?_)
    refine Gc (fun c9 => ?_) (fun c9 => ?_)
    ·
     have c9p := kz c9
     refine Gs (Ga rfl (Gn (.t1 2) (Ab (AS (AD (AD (AS ?_)))))))
     refine AS (AD (AD (AS (AD ?_))))
     refine AY rfl (.tmp rfl .n) ?_
     intro w1 hS; refine ⟨congrArg Value.bool ?_, hS.Am⟩; rw [hI13, Bb.FE (d := []) hI11 hk, hI23, Bb.FE (d := 0) hI21 (by omega), show Bb.Ft _ = false from by simpa using c9]; rfl
    have c9p := kz c9
    refine Aa ?_
    refine AB (.t6 4 45 46 47 55 56) ?_
    refine AV (AA (AJ ?_))
    refine Gt (Av rfl rfl (IntWalk.i64_in _ (by omega))) ?_
    refine Gm rfl ?_
    refine AQ (AB (.t6 4 45 46 47 55 56) ?_)
    refine B8 (i + 1) ?_ ?_ (.t6 56 4 45 46 47 55) (.refl _)
    · exact ⟨by omega, by omega, by rw [hI23, Bb.FE (d := 0) hI21 (by omega), show Bb.Ft _ = true from by simpa using c9]; rfl⟩
    · omega
   have c8p := kz c8
   refine Bf (AX (AX (Ai ?_)))
   refine AB (.t3 45 46 47) ?_
   refine AV (AA (AJ ?_))
   refine Gt (Av rfl rfl (IntWalk.i64_in _ (by omega))) ?_
   refine Gm rfl ?_
   refine AQ (AB (.t3 45 46 47) ?_)
   refine B8 (k + 1) ?_ ?_ (.t3 47 45 46) (.refl _)
   · exact ⟨by omega, by omega, by rw [hI13, Bb.FE (d := []) hI11 hk, hI23, show i.toNat = ((qs ++ [l.now]).getD k.toNat []).length from by omega, List.drop_length]; rfl⟩
   · omega
  have c6p := kz c6
  have hk : ¬ k < ((qs ++ [l.now]).length : Int) := by simp only [List.length_append, List.length_cons, List.length_nil] at *; omega
  refine Bf (AX (AX (Ai ?_)))
  refine AB (.nil _) ?_
  refine AA (Gs (Ga rfl (AQ (AA (Ab ?_)))))
  refine AY rfl (.tmp rfl .n) ?_
  intro w1 hS; refine ⟨congrArg Value.bool ?_, hS.Am⟩; rw [hI13, show k.toNat = (qs ++ [l.now]).length from by omega, List.drop_length]; rfl
theorem OL {t0 : Nat} (l : BG) (qs : List Ap) (u : Ap) (hu : u.length ≤ 9000000000000000000) : FL Tryz.prog 63 #[.agg l.enc.toArray, BS u] [] (fun w => Rd w l.queue t0 1 (qs.flatMap A7)) (fun v B => (Bb.Bg l qs = false ∧ v = .tuple #[.agg l.enc.toArray, .int .i64 0, .int .i64 2] ∧ B = []) ∨ (Bb.Bg l qs = true ∧ ∃ h' : Hd, v = .tuple #[.agg (BG.enc ⟨(Bb.feed (Bb.start l qs) u).now, (Bb.feed (Bb.start l qs) u).Cr, (Bb.feed (Bb.start l qs) u).ret, h'⟩).toArray, .int .i64 (Bb.feed (Bb.start l qs) u).lost, .int .i64 0] ∧ h'.len = (Bb.feed (Bb.start l qs) u).queue.length ∧ B = [Ac.own h' 9 1 ((Bb.feed (Bb.start l qs) u).queue.flatMap A7)])) := by
 intro w hS0 hH
 have r0 := hH
 have hl0 := r0.Mu DW (by decide)
 refine Al _ _ Tryz.func63 rfl rfl rfl (hS0) ?_
 refine Gs ?_
 refine B4 rfl rfl rfl (fun b1 => ?_)
 refine BH rfl YY rfl (fun b2 => ?_)
 refine Ga rfl (Ga rfl (Gn (.t3 1 2 4) (CG (Gt (AZ rfl Ht .m1 (AU.id BG.fl.len BG.fl.one) rfl) ?_))))
 refine BA rfl cr (.c rfl .n) (fun w hS => OA _ _ w ((Kn.I0 r0) w hS)) ?_
 refine Gt (BV rfl) (Gn (.t4 1 2 4 14) ?_)
 refine Gc (fun c1 => ?_) (fun c1 => ?_)
 ·
  refine Gs (Gt (AZ rfl Ht .m1 (AU.id BG.fl.len BG.fl.one) rfl) ?_)
  refine AT (AK (AU.id BG.fl.len BG.fl.one) rfl rfl rfl MI rfl .h) ?_
  refine Ga rfl (Ga rfl (Gn (.t3 4 5 6) (Ab (AD ?_))))
  refine AY rfl (.cell rfl .m0 (.inl ⟨(by rw [BG.fl.len]; exact Ht), rfl⟩) (.tmp rfl (.tmp rfl .n))) ?_
  intro w1 hS
  have hS := (hS.perm (Ax.perm .n)).A1
  exact ⟨_, .inl ⟨by simpa using c1, rfl, rfl⟩, hS⟩
 have c1p := kz c1
 have hgd : Bb.Bg l qs = true := by simpa using c1
 have hh := Bb.VN hgd
 have hq6 : qs.length ≤ 17592186044416 := by omega
 refine Aa ?_
 refine AB (.t3 1 2 4) ?_
 refine AA (Gs (Gt (Ah FP rfl) (Gt (AG rfl FZ .m1 BG.l3 rfl rfl) ?_)))
 refine BF rfl U6 (.c rfl .n) .n (Bx _ _ (by first | assumption | omega)) (fun w hS => (Kn.I0 r0) w hS) (fun v1 B hv => ?_)
 obtain ⟨y2, rfl, y3, rfl⟩ := hv
 refine Gt (Ah FP rfl) ?_
 refine AT (AK BG.l3 rfl rfl rfl My rfl (.t (.t .h))) ?_
 refine Gn (.t3 1 2 4) (Gs (Ga rfl (AQ (AA (Gs (Gt (Ah Jj rfl) (Gt (AG rfl CV .m2 BG.l0 rfl rfl) ?_)))))))
 refine Ol rfl Tryz.underlying9 Tryz.underlying105 Tryz.underlying5 rfl (fun h5 h5l => ?_)
 refine Ga rfl (Gn (.t5 1 2 4 7 8) (CG (Gm rfl (Gt (BI rfl Tryz.underlying9 rfl) (Gm rfl (Gn (.t7 1 2 4 7 8 24 25) (Af ?_)))))))
 refine Bo (.t7 7 8 25 1 2 4 24) ?_
 refine Be (.t (.t (.t .h))) ?_
 refine Be (.t (.t .h)) ?_
 refine Be (.t (.t .h)) ?_
 refine Rr (fun (k : Int) (now : Ap) (Cr : Bool) (ret : Bool) (queue : List Ap) (lost : Int) (h : Hd) (g : Hd) => Bb.I (Bb.start l qs) u k ⟨now, Cr, ret, queue, lost⟩ ∧ h.len = now.length ∧ g.len = queue.length) (fun (k : Int) (now : Ap) (Cr : Bool) (ret : Bool) (queue : List Ap) (lost : Int) (h : Hd) (g : Hd) => ((u.length : Int) - k).toNat) (fun (k : Int) (now : Ap) (Cr : Bool) (ret : Bool) (queue : List Ap) (lost : Int) (h : Hd) (g : Hd) => [(7, .int .i64 lost), (8, h.val), (25, .int .i64 k)]) (fun (k : Int) (now : Ap) (Cr : Bool) (ret : Bool) (queue : List Ap) (lost : Int) (h : Hd) (g : Hd) => [Ac.own h 5 1 (now.flatMap DQ), Ac.own g 9 1 (queue.flatMap A7), Ac.box b1 75 (BG.enc ⟨l.now, Cr, ret, g⟩)]) (0) (l.now) (l.Cr) (l.ret) (qs) (0) (_) (_) ?_ rfl rfl (fun k now Cr ret queue lost h g hI1 => ?_)
 · exact ⟨Bb.I.start hh.1 (show qs.length ≤ 6 by omega) rfl, by assumption, by assumption⟩
 obtain ⟨hI11, hl, hg⟩ := hI1; have hk0 := hI11.k0; have hk1 := hI11.k1; have hn : now.length ≤ 60 := hI11.now; have hq : queue.length ≤ 6 := hI11.queue; have hlo : 0 ≤ lost ∧ lost ≤ k := hI11.lost
 refine Gs (Gt (A8 rfl rfl) (AQ (AA (Ao ?_))))
 refine Gc (fun c2 => ?_) (fun c2 => ?_)
 ·
  have c2p := kz c2
  refine Aa ?_
  refine AB (.t7 1 2 4 7 8 24 25) ?_
  refine AA (Ao (Af (Gs (Gm rfl (Ga rfl (Gn (.t8 1 2 4 7 8 9 24 25) (Gs ?_)))))))
  refine Gm rfl (Gm rfl ?_)
  refine Gt (Bl Tryz.underlying9 rfl rfl (by omega) (by omega)) ?_
  refine Ga rfl (Gn (.t8 1 2 4 7 8 10 24 25) (Gs (Gt (Ah OV rfl) (Gt (AG rfl Dj .m2 BG.l2 rfl rfl) (Ga rfl (Gn (.t9 1 2 4 7 8 10 11 24 25) (Gs ?_)))))))
  refine Gt (Ah OV rfl) ?_
  refine AT (AK BG.l2 rfl rfl rfl KX rfl (.t (.t .h))) ?_
  refine Gn (.t9 1 2 4 7 8 10 11 24 25) (Af (Gs (Gm rfl (Gm rfl (Bi 40 rfl rfl (fun q => AE rfl) (Bi 40 rfl rfl (fun q => Ae (Bh rfl q) rfl) (Bi 40 rfl rfl (fun q => AE (Bh rfl q)) ?_)))))))
  refine C1 (t := 43) rfl rfl rfl (fun qc q => AE rfl) ?_
  refine C1 (t := 43) rfl rfl rfl (fun qc q => Ae (Bh rfl (by rw [qc, q]; rfl)) rfl) ?_
  refine Bi 40 rfl rfl (fun q => BR (Bh rfl q) rfl (fun h => by rw [q, h]; rfl)) ?_
  refine Gt (BK rfl rfl (fun h => h)) (Ga rfl (Gn (.t9 1 2 4 7 8 10 24 25 38) ?_))
  refine Gc (fun c3 => ?_) (fun c3 => ?_)
  ·
   have c3p := kz c3
   refine Aa ?_
   refine AB (.t7 1 2 4 7 8 24 25) ?_
   refine AV (AV (AA (AJ ?_)))
   refine Gt (Av rfl rfl (IntWalk.i64_in _ (by omega))) ?_
   refine Gm rfl ?_
   refine AQ (AB (.t7 1 2 4 7 8 24 25) ?_)
   refine CQ (k + 1) _ _ _ _ _ _ _ ?_ ?_ (.t7 7 8 25 1 2 4 24) (.refl _)
   · exact ⟨hI11.next (by omega) (by simp only [Bb.step, hl, c1, c2, c3, ↓reduceIte, Bool.false_eq_true]), (by (try dsimp only at *) <;> (try simp only [List.length_append, List.length_take, List.length_cons, List.length_nil]) <;> omega), (by (try dsimp only at *) <;> (try simp only [List.length_append, List.length_cons, List.length_nil]) <;> omega)⟩
   · omega
  have c3p := kz c3
  refine Gs (Gm rfl (Gt (Ae rfl rfl) (Gm rfl (Ba 51 rfl rfl (fun q => AE rfl) (Ba 51 rfl rfl (fun q => Ae (cF rfl q) rfl) ?_)))))
  refine Gt (BR rfl rfl (fun h => by rw [h]; rfl)) ?_
  refine Ga rfl (Gn (.t9 1 2 4 7 8 10 24 25 48) ?_)
  refine Gc (fun c4 => ?_) (fun c4 => ?_)
  ·
   have c4p := kz c4
   refine CG (Gt (Ah FP rfl) (Gt (AG rfl FZ .m2 BG.l3 rfl rfl) (Gt (Ar rfl Tryz.underlying52 rfl) (Gt (A8 rfl rfl) (Gn (.t9 1 2 4 7 8 10 24 25 58) ?_)))))
   refine Gc (fun c5 => ?_) (fun c5 => ?_)
   ·
    have c5p := kz c5
    rw [hg] at c5
    refine AJ (Gt (Ah FP rfl) (Gt (AG rfl FZ .m2 BG.l3 rfl rfl) (Gm rfl (Gt (KC Tryz.underlying105 Tryz.underlying9 Tryz.underlying5 rfl (Kn.own .m0)) ?_))))
    refine Fg A7 DW rfl Tryz.underlying52 Eo Sh rfl (by decide) (by decide) rfl rfl (fun b3 => ?_)
    refine Cc DW rfl Tryz.underlying52 Eo Sh rfl X1 (by decide) (by decide) rfl rfl (fun w hS => Src.D3 Tryz.underlying52 ((Kn.own .m0) w hS)) (by (try dsimp only); omega) (fun _ => (.t (.t .h))) (fun h6 h6l h6z => ?_)
    refine Gt (Ah FP rfl) ?_
    refine AT (AK BG.l3 rfl rfl rfl My rfl (.t (.t (.t .h)))) ?_
    refine Gn (.t7 1 2 4 7 10 24 25) (AJ (Gm rfl (Gt (Ae rfl rfl) (Ga rfl (Gt (Ah Nr rfl) ?_)))))
    refine AT (AK BG.l1 rfl rfl rfl KX rfl (.t (.t (.t .h)))) ?_
    refine Gt (Ah OV rfl) ?_
    refine AT (AK BG.l2 rfl rfl rfl KX rfl (.t (.t (.t .h)))) ?_
    refine AQ (AB (.t7 1 2 4 7 8 24 25) ?_)
    refine AV (AV (AA (AJ ?_)))
    refine Gt (Av rfl rfl (IntWalk.i64_in _ (by omega))) ?_
    refine Gm rfl ?_
    refine AQ (AB (.t7 1 2 4 7 8 24 25) ?_)
    refine UJ DQ 5 1 ?_
    refine B9 (.c .h (.c (.t (.t .h)) (.c (.t (.t .h)) (.c (.t (.t .h)) .n)))) ?_
    refine CO ?_
    refine CQ (k + 1) _ _ _ _ _ _ _ ?_ ?_ (.t7 7 8 25 1 2 4 24) (.refl _)
    · exact ⟨hI11.next (by omega) (by simp only [Bb.step, hl, c1, c2, c3, c4, c5, ↓reduceIte, Bool.false_eq_true]), (by (try dsimp only at *) <;> (try simp only [List.length_append, List.length_take, List.length_cons, List.length_nil]) <;> omega), (by (try dsimp only at *) <;> (try simp only [List.length_append, List.length_cons, List.length_nil]) <;> omega)⟩
    · omega
   have c5p := kz c5
   rw [hg] at c5
   refine AJ (Gm rfl ?_)
   refine Gt (Av rfl rfl (IntWalk.i64_in _ (by omega))) ?_
   refine Ga rfl (Gn (.t7 1 2 4 7 10 24 25) (AJ (Gm rfl (Gt (Ae rfl rfl) (Ga rfl (Gt (Ah Nr rfl) ?_))))))
   refine AT (AK BG.l1 rfl rfl rfl KX rfl (.t (.t .h))) ?_
   refine Gt (Ah OV rfl) ?_
   refine AT (AK BG.l2 rfl rfl rfl KX rfl (.t (.t .h))) ?_
   refine AQ (AB (.t7 1 2 4 7 8 24 25) ?_)
   refine AV (AV (AA (AJ ?_)))
   refine Gt (Av rfl rfl (IntWalk.i64_in _ (by omega))) ?_
   refine Gm rfl ?_
   refine AQ (AB (.t7 1 2 4 7 8 24 25) ?_)
   refine UJ DQ 5 1 ?_
   refine B9 (.c .h (.c (.t .h) (.c (.t .h) (.c (.t .h) .n)))) ?_
   refine CO ?_
   refine CQ (k + 1) _ _ _ _ _ _ _ ?_ ?_ (.t7 7 8 25 1 2 4 24) (.refl _)
   · exact ⟨hI11.next (by omega) (by simp only [Bb.step, hl, c1, c2, c3, c4, c5, ↓reduceIte, Bool.false_eq_true]), (by (try dsimp only at *) <;> (try simp only [List.length_append, List.length_take, List.length_cons, List.length_nil]) <;> omega), (by (try dsimp only at *) <;> (try simp only [List.length_append, List.length_cons, List.length_nil]) <;> omega)⟩
   · omega
  have c4p := kz c4
  refine Gs (Gm rfl (Gt (Ae rfl rfl) (Gm rfl (Ba 75 rfl rfl (fun q => AE rfl) (Ba 75 rfl rfl (fun q => Ae (cF rfl q) rfl) ?_)))))
  refine Gt (BR rfl rfl (fun h => by rw [h]; rfl)) ?_
  refine Ga rfl (Gn (.t9 1 2 4 7 8 10 24 25 72) ?_)
  refine Gc (fun c6 => ?_) (fun c6 => ?_)
  ·
   have c6p := kz c6
   refine Gs (Gm rfl (Gt (Ar rfl Tryz.underlying105 rfl) (Gt (Cj rfl rfl) (Gn (.t8 1 2 4 7 8 24 25 81) ?_))))
   refine Gc (fun c7 => ?_) (fun c7 => ?_)
   ·
    have c7p := kz c7
    rw [hl] at c7
    refine AJ (Gm rfl (Gm rfl (Gt (Ar rfl Tryz.underlying105 rfl) ?_)))
    refine Gt (E3 rfl rfl (IntWalk.i64_in _ (by omega))) ?_
    refine KE WC rfl Tryz.underlying105 VT rfl rfl (by omega) (by omega) (fun _ => .h) ?_
    refine Ga rfl ?_
    refine AQ (AB (.t7 1 2 4 7 8 24 25) ?_)
    refine AV (AV (AA (AJ ?_)))
    refine Gt (Av rfl rfl (IntWalk.i64_in _ (by omega))) ?_
    refine Gm rfl ?_
    refine AQ (AB (.t7 1 2 4 7 8 24 25) ?_)
    refine CQ (k + 1) _ _ _ _ _ _ _ ?_ ?_ (.t7 7 8 25 1 2 4 24) (.refl _)
    · exact ⟨hI11.next (by omega) (by simp only [Bb.step, hl, c1, c2, c3, c4, c6, c7, ↓reduceIte, Bool.false_eq_true]), (by (try dsimp only at *) <;> (try simp only [List.length_append, List.length_take, List.length_cons, List.length_nil]) <;> omega), (by (try dsimp only at *) <;> (try simp only [List.length_append, List.length_cons, List.length_nil]) <;> omega)⟩
    · omega
   have c7p := kz c7
   rw [hl] at c7
   refine Aa ?_
   refine AB (.t7 1 2 4 7 8 24 25) ?_
   refine AV (AV (AA (AJ ?_)))
   refine Gt (Av rfl rfl (IntWalk.i64_in _ (by omega))) ?_
   refine Gm rfl ?_
   refine AQ (AB (.t7 1 2 4 7 8 24 25) ?_)
   refine CQ (k + 1) _ _ _ _ _ _ _ ?_ ?_ (.t7 7 8 25 1 2 4 24) (.refl _)
   · exact ⟨hI11.next (by omega) (by simp only [Bb.step, hl, c1, c2, c3, c4, c6, c7, ↓reduceIte, Bool.false_eq_true]), (by (try dsimp only at *) <;> (try simp only [List.length_append, List.length_take, List.length_cons, List.length_nil]) <;> omega), (by (try dsimp only at *) <;> (try simp only [List.length_append, List.length_cons, List.length_nil]) <;> omega)⟩
   · omega
  have c6p := kz c6
  refine Gs (Gm rfl ?_)
  refine BA rfl Z9 (.c rfl .n) (fun w hS => Gr _ w) ?_
  refine Gt (BV rfl) (Ga rfl (Gn (.t9 1 2 4 7 8 10 24 25 87) ?_))
  refine Gc (fun c8 => ?_) (fun c8 => ?_)
  ·
   have c8p := kz c8
   refine Aa ?_
   refine AB (.t7 1 2 4 7 8 24 25) ?_
   refine AV (AV (AA (AJ ?_)))
   refine Gt (Av rfl rfl (IntWalk.i64_in _ (by omega))) ?_
   refine Gm rfl ?_
   refine AQ (AB (.t7 1 2 4 7 8 24 25) ?_)
   refine CQ (k + 1) _ _ _ _ _ _ _ ?_ ?_ (.t7 7 8 25 1 2 4 24) (.refl _)
   · exact ⟨hI11.next (by omega) (by simp only [Bb.step, hl, c1, c2, c3, c4, c6, c8, ↓reduceIte, Bool.false_eq_true]), (by (try dsimp only at *) <;> (try simp only [List.length_append, List.length_take, List.length_cons, List.length_nil]) <;> omega), (by (try dsimp only at *) <;> (try simp only [List.length_append, List.length_cons, List.length_nil]) <;> omega)⟩
   · omega
  have c8p := kz c8
  refine Gs (Gm rfl (Gt (Ar rfl Tryz.underlying105 rfl) (Gt (CN rfl rfl) (Ga rfl (Gn (.t9 1 2 4 7 8 10 24 25 91) ?_)))))
  refine Gc (fun c9 => ?_) (fun c9 => ?_)
  ·
   have c9p := kz c9
   rw [hl] at c9
   refine AJ (Gt (Ah Nr rfl) ?_)
   refine AT (AK BG.l1 rfl rfl rfl KX rfl (.t (.t .h))) ?_
   refine AQ (AB (.t7 1 2 4 7 8 24 25) ?_)
   refine AV (AV (AA (AJ ?_)))
   refine Gt (Av rfl rfl (IntWalk.i64_in _ (by omega))) ?_
   refine Gm rfl ?_
   refine AQ (AB (.t7 1 2 4 7 8 24 25) ?_)
   refine CQ (k + 1) _ _ _ _ _ _ _ ?_ ?_ (.t7 7 8 25 1 2 4 24) (.refl _)
   · exact ⟨hI11.next (by omega) (by simp only [Bb.step, hl, c1, c2, c3, c4, c6, c8, c9, ↓reduceIte, Bool.false_eq_true]), (by (try dsimp only at *) <;> (try simp only [List.length_append, List.length_take, List.length_cons, List.length_nil]) <;> omega), (by (try dsimp only at *) <;> (try simp only [List.length_append, List.length_cons, List.length_nil]) <;> omega)⟩
   · omega
  have c9p := kz c9
  rw [hl] at c9
  refine AJ (Gm rfl (Gm rfl ?_))
  refine Fg DQ WC rfl Tryz.underlying105 VT Zd rfl (by decide) (by decide) rfl rfl (fun b4 => ?_)
  refine Cc WC rfl Tryz.underlying105 VT Zd rfl dI (by decide) (by decide) rfl rfl (fun w hS => Src.D3 Tryz.underlying105 ((Kn.own .m0) w hS)) (by (try dsimp only); omega) (fun _ => (.t .h)) (fun h9 h9l h9z => ?_)
  refine Ga rfl ?_
  refine AQ (AB (.t7 1 2 4 7 8 24 25) ?_)
  refine AV (AV (AA (AJ ?_)))
  refine Gt (Av rfl rfl (IntWalk.i64_in _ (by omega))) ?_
  refine Gm rfl ?_
  refine AQ (AB (.t7 1 2 4 7 8 24 25) ?_)
  refine CQ (k + 1) _ _ _ _ _ _ _ ?_ ?_ (.t7 7 8 25 1 2 4 24) (.cons _ (.refl _))
  · exact ⟨hI11.next (by omega) (by simp only [Bb.step, hl, c1, c2, c3, c4, c6, c8, c9, ↓reduceIte, Bool.false_eq_true]), (by (try dsimp only at *) <;> (try simp only [List.length_append, List.length_take, List.length_cons, List.length_nil]) <;> omega), (by (try dsimp only at *) <;> (try simp only [List.length_append, List.length_cons, List.length_nil]) <;> omega)⟩
  · omega
 have c2p := kz c2
 refine Bf (AX (AX (Ai ?_)))
 refine AB (.t4 2 4 7 8) ?_
 refine AA (Gs (Gm rfl (Gt (KC Tryz.underlying105 Tryz.underlying9 Tryz.underlying5 rfl (Kn.own .m0)) (Gt (Ah Jj rfl) ?_))))
 refine AT (AK BG.l0 rfl rfl rfl Eo rfl (.t (.t .h))) ?_
 refine Gn (.t3 2 4 7) (Gs (Gt (AZ rfl Ht .m2 (AU.id BG.fl.len BG.fl.one) rfl) (Gm rfl ?_)))
 refine AT (AK (AU.id BG.fl.len BG.fl.one) rfl rfl rfl MI rfl (.t (.t (.t .h)))) ?_
 refine Ga rfl (Ga rfl (Gn (.t3 4 5 6) (Ab ?_)))
 refine AY rfl (.cell rfl .m3 (.inl ⟨(by rw [BG.fl.len]; exact Ht), rfl⟩) (.tmp rfl (.tmp rfl .n))) ?_
 intro w1 hS
 have hS := (hS.perm (Ax.perm (.c (.t .h) .n))).A1
 have e := hI11.done (by omega)
 exact ⟨_, .inr ⟨hgd, _, by rw [e]; rfl, by rw [e]; exact hg, by rw [e]⟩, hS⟩
theorem M3 (p : Ay) (n : Int) (w : World) : Ei Tryz.prog 66 #[.agg p.enc.toArray, .int .i64 n] w fun v w' => v = .tuple #[.agg (Ay.enc ⟨p.wait, p.shown, p.B7, p.ring.drop (max 0 (min n (p.ring.length : Int))).toNat, p.cut⟩).toArray, BS (p.ring.take (max 0 (min n (p.ring.length : Int))).toNat)] ∧ CB w w' := by
 refine Al [] [] Tryz.func66 rfl rfl rfl (St.start w []) ?_
 refine Gs ?_
 refine B4 rfl rfl rfl (fun b1 => ?_)
 refine BH rfl Xf rfl (fun b2 => ?_)
 refine Ga rfl (Gn (.t3 1 2 4) (Gs (Gm rfl (Gt (Ah Jc rfl) (Gt (AG rfl CV .m1 Ay.l3 rfl rfl) (Gt (BI rfl Tryz.underlying9 rfl) (Gt (LR rfl rfl) ?_)))))))
 refine Gt (KA rfl rfl) (Ga rfl (Gn (.t3 1 2 4) (Gs (Gt (Ah Jc rfl) (Gt (AG rfl CV .m1 Ay.l3 rfl rfl) (Gm rfl ?_))))))
 refine Gt (Ie Tryz.underlying9 rfl rfl (by omega) (by omega)) ?_
 refine Ga rfl (Gn (.t4 1 2 4 6) (Gs (Gt (Ah Jc rfl) (Gt (AG rfl CV .m1 Ay.l3 rfl rfl) (Gm rfl ?_)))))
 refine Gt (GU Tryz.underlying9 rfl rfl (by omega) (by omega)) ?_
 refine Gt (Ah Jc rfl) ?_
 refine AT (AK Ay.l3 rfl rfl rfl Eo rfl (.t .h)) ?_
 refine Gn (.t3 2 4 6) (Gs (Gt (AZ rfl Cy .m1 (AU.id Ay.fl.len Ay.fl.one) rfl) (Gm rfl ?_)))
 refine AT (AK (AU.id Ay.fl.len Ay.fl.one) rfl rfl rfl Fv rfl .h) ?_
 refine Ga rfl (Gn (.t2 4 5) (Ab ?_))
 refine AY rfl (.cell rfl .m0 (.inl ⟨(by rw [Ay.fl.len]; exact Cy), rfl⟩) (.tmp rfl .n)) ?_
 intro w1 hS; refine ⟨?_, hS.Am⟩; rfl
theorem Iw (b : Nat) (V : AL) (ls : Vector BD 4) (ev : List Ing.Event) (a : Bu) (hL : AI.Live (A5 V ls ev)) (hu : a.bytes.length ≤ 140737488351232) : FL Tryz.prog 38 #[.pointer (some ⟨b, 0, none⟩), .agg a.enc.toArray] [Ac.box b 101 (AL.enc V), Ac.Dz (CH 9 (AL.Aw V) ls), Ac.own (AL.last V) 56 16 ((ev).flatMap Ing.Event.enc)] (fun w => (GV 2 Fu w ∧ 2 ∉ Cd [Ac.box b 101 (AL.enc V), Ac.Dz (CH 9 (AL.Aw V) ls), Ac.own (AL.last V) 56 16 ((ev).flatMap Ing.Event.enc)]) ∧ (GV 0 AH.DG w ∧ 0 ∉ Cd [Ac.box b 101 (AL.enc V), Ac.Dz (CH 9 (AL.Aw V) ls), Ac.own (AL.last V) 56 16 ((ev).flatMap Ing.Event.enc)]) ∧ (Gl 7 w ∧ 7 ∉ Cd [Ac.box b 101 (AL.enc V), Ac.Dz (CH 9 (AL.Aw V) ls), Ac.own (AL.last V) 56 16 ((ev).flatMap Ing.Event.enc)]) ∧ (Gl 8 w ∧ 8 ∉ Cd [Ac.box b 101 (AL.enc V), Ac.Dz (CH 9 (AL.Aw V) ls), Ac.own (AL.last V) 56 16 ((ev).flatMap Ing.Event.enc)])) (fun v B => ∃ V' ls' ev', v = .agg (Bm.enc (AI.act (A5 V ls ev) a).2).toArray ∧ A5 V' ls' ev' = (AI.act (A5 V ls ev) a).1 ∧ B = [Ac.box b 101 (AL.enc V'), Ac.Dz (CH 9 (AL.Aw V') ls'), Ac.own (AL.last V') 56 16 ((ev').flatMap Ing.Event.enc)]) := by
 intro w hS0 hH
 obtain ⟨⟨gl0, gm0⟩, ⟨gl1, gm1⟩, ⟨gl2, gm2⟩, ⟨gl3, gm3⟩⟩ := hH
 obtain ⟨n, m, hF⟩ := hL.fits
 have hc : 0 ≤ V.CA := hL.CA
 refine Al _ _ Tryz.func38 rfl rfl rfl (hS0) ?_
 refine Gs ?_
 refine B4 rfl rfl rfl (fun b1 => ?_)
 refine BH rfl KV rfl (fun b2 => ?_)
 refine Gn (.t3 0 3 4) (Ao (Af (Gs (Gm rfl (Gt (FM Tryz.underlying37 rfl) (Ga rfl (Gn (.t4 0 3 4 11) ?_)))))))
 refine EJ rfl rfl ?_
 refine Gs (Gm rfl (Gt (BT rfl) (Gt (Ah Qp rfl) (Gt (AG rfl A3 .m2 AL.l2 rfl rfl) (Gt (CN rfl rfl) (Ga rfl (Gn (.t4 0 3 4 15) ?_)))))))
 refine Gc (fun c1 => ?_) (fun c1 => ?_)
 ·
  refine Gs (Gt (BC NB KV rfl (.cons Bm.l0 rfl rfl rfl .nil)) ?_)
  refine AT (AK (AU.id Bm.fl.len Bm.fl.one) rfl rfl rfl KT rfl .h) ?_
  refine Gn (.t1 4) (Ab (AS (AD ?_)))
  refine AY rfl (.cell rfl .m0 (.inl ⟨(by rw [Bm.fl.len]; exact IZ), rfl⟩) .n) ?_
  intro w1 hS
  have hS := (hS.perm (Ax.perm (.c (.t (.t .h)) (.c (.t (.t .h)) (.c (.t (.t .h)) .n))))).A1
  have hq : (AI.act (A5 V ls ev) a) = ((A5 V ls ev), ⟨4, []⟩) := BB c1
  refine ⟨_, ⟨V, ls, ev, ?gv1, ?ga1, rfl⟩, hS⟩
  case gv1 => rw [hq]; rfl
  case ga1 => rw [hq]
 have c1p := kz c1
 refine Aa ?_
 refine AB (.t3 0 3 4) ?_
 refine AV (AA (Gs (Gm rfl (Gt (BT rfl) (Gt (Ah Qp rfl) (Gt (AG rfl A3 .m2 AL.l2 rfl rfl) ?_))))))
 refine Gt (Av rfl rfl (IntWalk.i64_in _ (by first | omega | exact hi.1 | exact hi.2 | exact hs.1 | exact hs.2))) ?_
 refine Gt (BT rfl) (Gt (Ah Qp rfl) ?_)
 refine AT (AK AL.l2 rfl rfl rfl C5 rfl (.t (.t .h))) ?_
 refine Gn (.t3 0 3 4) (Gs (Gm rfl (Gt (BT rfl) (Gt (Ah QY rfl) ?_))))
 refine AT (AK (Y := ⟨none, 0, 0⟩) AL.l3 rfl rfl rfl Rq rfl (.t (.t .h))) ?_
 refine Gn (.t3 0 3 4) (Ao (Ao ?_))
 refine E7 Ing.Event.enc 56 16 ?_
 refine EY (.c (.t (.t (.t .h))) (.c (.t (.t (.t .h))) (.c .h .n))) ?_
 refine AJ (Gm rfl (AQ (AA (Af ?_))))
 refine Bo (.t4 32 0 3 4) ?_
 refine Be (.t (.t .h)) ?_
 refine Be (.t (.t .h)) ?_
 refine Be (.t (.t .h)) ?_
 refine IU (fun (i : Int) (V1 : AL) (ls1 : Vector BD 4) (ev1 : List Ing.Event) => 0 ≤ i ∧ i ≤ 4 ∧ (A5 V1 ls1 ev1) = AI.EW ({ (A5 V ls ev) with CA := ((A5 V ls ev)).CA + 1, last := [] } : AI) i.toNat) (fun (i : Int) (V1 : AL) (ls1 : Vector BD 4) (ev1 : List Ing.Event) => (4 - i).toNat) (fun (i : Int) (V1 : AL) (ls1 : Vector BD 4) (ev1 : List Ing.Event) => [(32, .int .i64 i)]) (fun (i : Int) (V1 : AL) (ls1 : Vector BD 4) (ev1 : List Ing.Event) => [Ac.box b 101 (AL.enc V1), Ac.Dz (CH 9 (AL.Aw V1) ls1), Ac.own (AL.last V1) 56 16 (ev1.flatMap Ing.Event.enc)]) (0) (_) (ls) ([]) ?_ rfl rfl (fun i V1 ls1 ev1 hI1 => ?_)
 · exact ⟨by omega, by omega, rfl⟩
 obtain ⟨hI11, hI12, hI13⟩ := hI1
 refine Gs (Gt (A8 rfl rfl) (AQ (AA (Ao ?_))))
 refine Gc (fun c2 => ?_) (fun c2 => ?_)
 ·
  have c2p := kz c2
  have hi : 0 ≤ i ∧ i < 4 := ⟨by omega, by omega⟩
  refine Aa ?_
  refine AB (.t4 0 3 4 32) ?_
  refine AA (Ao (Af (Gs (Gm rfl (Ga rfl (Gn (.t5 0 3 4 5 32) ?_))))))
  refine FR (k := i) hi.1 hi.2 (fun sv sl hsv hlv hln => ?_)
  refine AJ (Gm rfl (Gm rfl (Gt (BT rfl) (Gt (Ah GP rfl) ?_))))
  refine Gt (AR PL rfl rfl (by first | omega | exact hi.1 | exact hi.2 | exact hs.1 | exact hs.2) (by first | omega | exact hi.1 | exact hi.2 | exact hs.1 | exact hs.2)) ?_
  refine Gt (Ah QX rfl) ?_
  refine AT (AK (Y := ⟨none, 0, 0⟩) ((AU.BJ V1 hi.1 hi.2).comp A2.l5) rfl rfl rfl My rfl (.t (.t (.t .h)))) ?_
  refine AQ (AB (.t4 0 3 4 32) ?_)
  refine AV (AA ?_)
  refine E7 A7 9 1 ?_
  refine EY (.c (.t .h) (.c (.t .h) (.c .h (.c (.t .h) (.c (.t .h) .n))))) ?_
  refine HC hi.1 hi.2 (by rfl) (by rfl) (by rfl) ?_
  refine AJ ?_
  refine Gt (Av rfl rfl (IntWalk.i64_in _ (by first | omega | exact hi.1 | exact hi.2 | exact hs.1 | exact hs.2))) ?_
  refine Gm rfl ?_
  refine AQ (AB (.t4 0 3 4 32) ?_)
  refine B9 (.c .h (.c .h (.c (.t .h) (.c (.t .h) (.c (.t .h) (.c (.t .h) .n)))))) ?_
  refine CO ?_
  refine DA (i + 1) _ _ _ ?_ ?_ (.t4 32 0 3 4) (.refl _)
  · exact ⟨by omega, by omega, (Eg hi.1 hi.2 hsv hlv (f := fun x => { x with told := [] }) rfl).trans (by rw [hI13]; exact (AI.QT hI11).symm)⟩
  · omega
 have c2p := kz c2
 obtain rfl : i = 4 := by omega
 have hX : (A5 V1 ls1 ev1) = (AI.begun (A5 V ls ev)) := hI13
 have hF0 : AI.Fit (A5 V1 ls1 ev1) 0 0 := by rw [hX]; exact hF.begun
 refine Bf (AX (AX (Ai ?_)))
 refine AB (.t3 0 3 4) ?_
 refine AA (CG (Gt (Ah Ki rfl) (Gt (AG rfl A3 .m4 Bu.l0 rfl rfl) (Gt (Ae rfl rfl) (Gn (.t4 0 3 4 44) ?_)))))
 refine Gc (fun c3 => ?_) (fun c3 => ?_)
 ·
  have c3p := kz c3
  refine Gs (Gm rfl (Gt (Ah Xs rfl) (Gt (AG rfl A3 .m4 Bu.l2 rfl rfl) ?_)))
  refine BF rfl cn (.c rfl (.c rfl .n)) (.c .h (.c .h (.c .h .n))) (PN _ V1 ls1 ev1 a.n 0 0 hF0 (by omega) (by omega)) (fun w hS => ⟨gl0.pull gm0 hS (.c .h (.c .h (.c .h .n))), gl1.pull gm1 hS (.c .h (.c .h (.c .h .n))), gl2.pull gm2 hS (.c .h (.c .h (.c .h .n))), gl3.pull gm3 hS (.c .h (.c .h (.c .h .n)))⟩) (fun v2 B hv => ?_)
  obtain ⟨y3, y4, y5, rfl, y6, rfl⟩ := hv
  refine Gn (.t1 4) (Gs (Gt (BC NB KV rfl .nil) ?_))
  refine AT (AK (AU.id Bm.fl.len Bm.fl.one) rfl rfl rfl KT rfl (.t (.t (.t .h)))) ?_
  refine Gn (.t1 4) (Ab (AD ?_))
  refine AY rfl (.cell rfl .m3 (.inl ⟨(by rw [Bm.fl.len]; exact IZ), rfl⟩) .n) ?_
  intro w1 hS
  have hS := (hS.perm (Ax.perm (.c .h (.c .h (.c .h .n))))).A1
  have hq0 : AI.De (A5 V1 ls1 ev1) a = _ := (BB c3)
  have hq : (AI.act (A5 V ls ev) a) = _ := (AI.F6 c1 a).trans ((congrArg (fun X => AI.De X a) hX.symm).trans hq0)
  refine ⟨_, ⟨y3, y4, y5, ?gv2, ?ga2, rfl⟩, hS⟩
  case gv2 => rw [hq]; rfl
  case ga2 => rw [hq]; dsimp only; exact y6
 have c3p := kz c3
 refine Aa ?_
 refine AB (.t3 0 3 4) ?_
 refine AA (CG (Gt (Ah Ki rfl) (Gt (AG rfl A3 .m4 Bu.l0 rfl rfl) (Gt (A8 rfl rfl) (Gm rfl (Ba 53 rfl rfl (fun q => Ah Ki rfl) (Ba 53 rfl rfl (fun q => AG (cF rfl q) A3 .m4 Bu.l0 rfl rfl) ?_)))))))
 refine Ba 53 rfl rfl (fun q => Cj (cF rfl q) rfl) ?_
 refine Gt (BR rfl rfl (fun h => by rw [h]; rfl)) ?_
 refine Gn (.t4 0 3 4 57) ?_
 refine Gc (fun c4 => ?_) (fun c4 => ?_)
 ·
  refine Gs (Gt (BC NB KV rfl (.cons Bm.l0 rfl rfl rfl .nil)) ?_)
  refine AT (AK (AU.id Bm.fl.len Bm.fl.one) rfl rfl rfl KT rfl (.t (.t (.t .h)))) ?_
  refine Gn (.t1 4) (Ab (AD ?_))
  refine AY rfl (.cell rfl .m3 (.inl ⟨(by rw [Bm.fl.len]; exact IZ), rfl⟩) .n) ?_
  intro w1 hS
  have hS := (hS.perm (Ax.perm (.c .h (.c .h (.c .h .n))))).A1
  have hq0 : AI.De (A5 V1 ls1 ev1) a = _ := ((AW c3).trans (BB c4))
  have hq : (AI.act (A5 V ls ev) a) = _ := (AI.F6 c1 a).trans ((congrArg (fun X => AI.De X a) hX.symm).trans hq0)
  refine ⟨_, ⟨V1, ls1, ev1, ?gv3, ?ga3, rfl⟩, hS⟩
  case gv3 => rw [hq]; rfl
  case ga3 => rw [hq]
 have c4p := kz c4
 refine Aa ?_
 refine AB (.t3 0 3 4) ?_
 refine AA (CG (Gt (Ah Sk rfl) (Gt (AG rfl A3 .m4 Bu.l1 rfl rfl) (Gt (A8 rfl rfl) (Gm rfl (Ba 62 rfl rfl (fun q => Ah Sk rfl) (Ba 62 rfl rfl (fun q => AG (cF rfl q) A3 .m4 Bu.l1 rfl rfl) ?_)))))))
 refine Ba 62 rfl rfl (fun q => CN (cF rfl q) rfl) ?_
 refine Gt (BR rfl rfl (fun h => by rw [h]; rfl)) ?_
 refine Gn (.t4 0 3 4 66) ?_
 refine Gc (fun c5 => ?_) (fun c5 => ?_)
 ·
  refine Gs (Gt (BC NB KV rfl (.cons Bm.l0 rfl rfl rfl .nil)) ?_)
  refine AT (AK (AU.id Bm.fl.len Bm.fl.one) rfl rfl rfl KT rfl (.t (.t (.t .h)))) ?_
  refine Gn (.t1 4) (Ab (AD ?_))
  refine AY rfl (.cell rfl .m3 (.inl ⟨(by rw [Bm.fl.len]; exact IZ), rfl⟩) .n) ?_
  intro w1 hS
  have hS := (hS.perm (Ax.perm (.c .h (.c .h (.c .h .n))))).A1
  have hq0 : AI.De (A5 V1 ls1 ev1) a = _ := ((AW c3).trans ((AW c4).trans (BB c5)))
  have hq : (AI.act (A5 V ls ev) a) = _ := (AI.F6 c1 a).trans ((congrArg (fun X => AI.De X a) hX.symm).trans hq0)
  refine ⟨_, ⟨V1, ls1, ev1, ?gv4, ?ga4, rfl⟩, hS⟩
  case gv4 => rw [hq]; rfl
  case ga4 => rw [hq]
 have c5p := kz c5
 have hs : 0 ≤ a.BJ ∧ a.BJ < 4 := ⟨by omega, by omega⟩
 refine Aa ?_
 refine AB (.t3 0 3 4) ?_
 refine AA (Ao ?_)
 refine BE (N := 7) [0, 0, 2, 1, 9, 31, 63] mix (by kernel_rfl) rfl ?_
 refine Pf 0 rfl (AE rfl) (Pf 1 rfl (Ah Sk rfl) (Pf 2 rfl (AG rfl A3 .m4 Bu.l1 rfl rfl) (Pf 3 rfl (BT rfl) (Pf 4 rfl (Ah GP rfl) ?_))))
 refine Pf 5 rfl (AR PL rfl rfl (by first | omega | exact hi.1 | exact hi.2 | exact hs.1 | exact hs.2) (by first | omega | exact hi.1 | exact hi.2 | exact hs.1 | exact hs.2)) ?_
 refine Pf 6 rfl (A0 rfl) ?_
 refine A4 (by kernel_rfl) ?_
 refine AB (.t4 0 3 4 6) ?_
 refine AA (Ao (Ao ?_))
 refine BE (N := 9) [0, 1, 3, 7, 15, 0, 32, 96, 255] mix (by kernel_rfl) rfl ?_
 refine Pf 0 rfl (AE rfl) (Pf 1 rfl (BT rfl) (Pf 2 rfl (Ah I9 rfl) ?_))
 refine Pf 3 rfl (AG rfl A3 .m0 ((AL.l1.comp (AU.ar (n := 4) A2.fl (by first | omega | exact hi | exact hs))).comp A2.l0) rfl rfl) ?_
 refine Pf 4 rfl (Ae rfl rfl) (Pf 5 rfl (Ah Ki rfl) (Pf 6 rfl (AG rfl A3 .m4 Bu.l0 rfl rfl) (Pf 7 rfl (Ae rfl rfl) (Pf 8 rfl (Jg Tryz.underlying4 rfl rfl) ?_))))
 refine A4 (by kernel_rfl) ?_
 refine AB (.t5 0 3 4 6 82) ?_
 refine AA ?_
 refine Gc (fun c6 => ?_) (fun c6 => ?_)
 ·
  refine Gs (Gt (BC NB KV rfl (.cons Bm.l0 rfl rfl rfl .nil)) ?_)
  refine AT (AK (AU.id Bm.fl.len Bm.fl.one) rfl rfl rfl KT rfl (.t (.t (.t .h)))) ?_
  refine Gn (.t1 4) (Ab (AD ?_))
  refine AY rfl (.cell rfl .m3 (.inl ⟨(by rw [Bm.fl.len]; exact IZ), rfl⟩) .n) ?_
  intro w1 hS
  have hS := (hS.perm (Ax.perm (.c .h (.c .h (.c .h .n))))).A1
  have hq0 : AI.De (A5 V1 ls1 ev1) a = _ := ((AW c3).trans ((AW c4).trans ((AW c5).trans (BB (show (decide ((AI.at_ (A5 V1 ls1 ev1) a.BJ).state = 0) != decide (a.kind = 1)) = true by rw [Gf V1 ls1 ev1 hs.1 hs.2]; exact c6)))))
  have hq : (AI.act (A5 V ls ev) a) = _ := (AI.F6 c1 a).trans ((congrArg (fun X => AI.De X a) hX.symm).trans hq0)
  refine ⟨_, ⟨V1, ls1, ev1, ?gv5, ?ga5, rfl⟩, hS⟩
  case gv5 => rw [hq]; rfl
  case ga5 => rw [hq]
 have c6p := kz c6
 refine Aa ?_
 refine AB (.t4 0 3 4 6) ?_
 refine AA (CG (Gt (Ah Ki rfl) (Gt (AG rfl A3 .m4 Bu.l0 rfl rfl) (Gn (.t5 0 3 4 6 85) (Af (Gs (Gt (Ae rfl rfl) ?_)))))))
 refine Ga rfl (Gn (.t6 0 3 4 6 85 86) ?_)
 refine Gc (fun c7 => ?_) (fun c7 => ?_)
 ·
  have c7p := kz c7
  refine AJ (Gm rfl (Gm rfl ?_))
  refine BF rfl dh (.c rfl (.c rfl .n)) (.c .h (.c .h (.c .h .n))) (Qr _ V1 ls1 ev1 a.BJ 0 0 hs hF0 (by omega) (by omega)) (fun w hS => ⟨gl0.pull gm0 hS (.c .h (.c .h (.c .h .n))), gl1.pull gm1 hS (.c .h (.c .h (.c .h .n))), gl2.pull gm2 hS (.c .h (.c .h (.c .h .n))), gl3.pull gm3 hS (.c .h (.c .h (.c .h .n)))⟩) (fun v7 B hv => ?_)
  obtain ⟨y8, y9, y10, rfl, y11, rfl⟩ := hv
  refine AQ (AB (.t1 4) ?_)
  refine AV (AA (Gs (Gt (BC NB KV rfl .nil) ?_)))
  refine AT (AK (AU.id Bm.fl.len Bm.fl.one) rfl rfl rfl KT rfl (.t (.t (.t .h)))) ?_
  refine Gn (.t1 4) (Ab ?_)
  refine AY rfl (.cell rfl .m3 (.inl ⟨(by rw [Bm.fl.len]; exact IZ), rfl⟩) .n) ?_
  intro w1 hS
  have hS := (hS.perm (Ax.perm (.c .h (.c .h (.c .h .n))))).A1
  have hq0 : AI.De (A5 V1 ls1 ev1) a = _ := ((AW c3).trans ((AW c4).trans ((AW c5).trans ((AW (show (decide ((AI.at_ (A5 V1 ls1 ev1) a.BJ).state = 0) != decide (a.kind = 1)) = false by rw [Gf V1 ls1 ev1 hs.1 hs.2]; exact c6)).trans (BB c7)))))
  have hq : (AI.act (A5 V ls ev) a) = _ := (AI.F6 c1 a).trans ((congrArg (fun X => AI.De X a) hX.symm).trans hq0)
  refine ⟨_, ⟨y8, y9, y10, ?gv6, ?ga6, rfl⟩, hS⟩
  case gv6 => rw [hq]; rfl
  case ga6 => rw [hq]; dsimp only; exact y11
 have c7p := kz c7
 refine Gs (Gt (Ae rfl rfl) (Ga rfl (Gn (.t6 0 3 4 6 85 91) ?_)))
 refine Gc (fun c8 => ?_) (fun c8 => ?_)
 ·
  have c8p := kz c8
  refine Gs (Ga rfl (Ga rfl (Gn (.t4 0 3 4 6) (Ao ?_))))
  refine FR (k := a.BJ) hs.1 hs.2 (fun sv sl hsv hlv hln => ?_)
  refine BE (N := 18) [0, 0, 2, 6, 14, 0, 32, 126, 254, 510, 510, 510, 510, 1023, 9215, 25599, 59391, 126975] mix (by kernel_rfl) rfl ?_
  refine Pf 0 rfl (AE rfl) (Pf 1 rfl (AE rfl) (Pf 2 rfl (BT rfl) (Pf 3 rfl (Ah Kj rfl) (Pf 4 rfl (AZ rfl D2 .m3 ((AU.BJ V1 hs.1 hs.2).comp A2.l2) rfl) (Pf 5 rfl (Ah Zp rfl) (Pf 6 rfl (AG rfl CV .m7 Bu.l3 rfl rfl) ?_))))))
  refine BZ 7 rfl rfl (by kernel_rfl) (Lb (K9 (D7 cZ (.c rfl (.c rfl .n)) (fun w hS => L9 _ _ (by omega) w)))) ?_
  refine Pf 8 rfl (AE rfl) (Pf 9 rfl (AM rfl rfl) (Pf 10 rfl (AM rfl rfl) (Pf 11 rfl (AM rfl rfl) (Pf 12 rfl (AM rfl rfl) (Pf 13 rfl (BT rfl) (Pf 14 rfl (Ah Kj rfl) ?_))))))
  refine An 15 rfl (by kernel_rfl) ?_
  refine AT (AK ((AU.BJ V1 hs.1 hs.2).comp A2.l2) rfl rfl rfl KS rfl (.t (.t (.t .h)))) ?_
  refine BN rfl ⟨?_, ?_⟩
  · exact (Pk (Pk (Po rfl (AM rfl rfl) rfl rfl (Po rfl (AM rfl rfl) rfl rfl (Po rfl (AM rfl rfl) rfl rfl (Pk (Pk (Pk (Pk (Pk (Pk (Pk (Pk (Pk (Pk Aq)))))))))))))))
  refine Pf 16 rfl (A0 rfl) (Pf 17 rfl (A0 rfl) ?_)
  refine A4 (by kernel_rfl) ?_
  refine AB (.t5 0 4 6 7 8) ?_
  refine AA (Gs (Gm rfl (Gm rfl (Gt (BT rfl) (Gt (Ah Dw rfl) (Gt (AZ rfl Cy .m3 ((AU.BJ V1 hs.1 hs.2).comp A2.l4) rfl) (Gm rfl ?_)))))))
  refine BA rfl XZ (.c rfl (.c rfl .n)) (fun w hS => EP _ _ (by have h := AP.Vf sv.Dk a.bytes; omega) w) ?_
  refine Gm rfl (Gt (AM rfl rfl) (Gt (AM rfl rfl) (Gt (BT rfl) (Gt (Ah Dw rfl) ?_))))
  refine AT (AK ((AU.BJ V1 hs.1 hs.2).comp A2.l4) rfl rfl rfl Fv rfl (.t (.t (.t .h)))) ?_
  refine Gn (.t4 0 4 6 7) (Gs (Ga rfl (Gn (.t4 0 4 6 7) (CG (Gm rfl (Gm rfl (Gt (BT rfl) ?_)))))))
  refine Gt (Ah K3 rfl) (Gt (AZ rfl Ht .m3 ((AU.BJ V1 hs.1 hs.2).comp A2.l3) rfl) (Gm rfl ?_))
  refine BF rfl ck (.c rfl (.c rfl .n)) .n (OL _ _ _ (by have h := U7 sv.Dk a.bytes; omega)) (fun w hS => (Kn.own .m0) w hS) (fun v12 B hv => ?_)
  rcases hv with ⟨y13, rfl, rfl⟩ | ⟨y14, y15, rfl, y16, rfl⟩
  ·
   refine Gm rfl (Gt (AM rfl rfl) (Gt (AM rfl rfl) (Gt (AM rfl rfl) (Gt (BT rfl) (Gt (Ah K3 rfl) ?_)))))
   refine AT (AK ((AU.BJ V1 hs.1 hs.2).comp A2.l3) rfl rfl rfl MI rfl (.t (.t (.t .h)))) ?_
   refine Ga rfl (Gn (.t4 0 4 6 9) (Ao ?_))
   refine EY (.c .h (.c .h (.c .h (.c .h (.c .h .n))))) ?_
   refine HC hs.1 hs.2 (by rfl) (by rfl) (by rfl) ?_
   refine AJ (Gm rfl (Gt (Cj rfl rfl) (Gn (.t4 0 4 6 134) ?_)))
   refine Gc (fun c9 => ?_) (fun c9 => ?_)
   ·
    have c9p := kz c9
    refine AJ (Gm rfl (Gm rfl ?_))
    refine Ag rfl Tj (.c rfl (.c rfl (.c rfl .n))) (.c .h (.c .h (.c .h .n))) (EL _ (AL.BJ V1 a.BJ (heard sv a.bytes)) (ls1.put a.BJ ⟨sl.queue, sl.wait, sl.told⟩) ev1 a.BJ _ hs (Nat.le_trans (Gj (Ig hs.1 hs.2 (FB (V := V1) (ls := ls1) (ev := ev1) hs.1 hs.2 hsv hlv (HP (u := a.bytes) hln.2.1 hln.1 y13)) hF0) a.BJ hs.1 hs.2) (by omega))) (fun v18 B hv => ?_)
    obtain ⟨y19, y20, y21, rfl, y22, rfl⟩ := hv
    refine Gn (.t2 0 4) (AJ (Gm rfl ?_))
    refine BF rfl SB (.c rfl .n) (.c .h (.c .h (.c .h .n))) (Dq _ y19 y20 y21 1 0 (by rw [y22]; exact (Ig hs.1 hs.2 (FB (V := V1) (ls := ls1) (ev := ev1) hs.1 hs.2 hsv hlv (HP (u := a.bytes) hln.2.1 hln.1 y13)) hF0).tell hs.1 hs.2 (show AI.Mz.length ≤ _ by decide)) (by omega) (by omega)) (fun w hS => ⟨gl0.pull gm0 hS (.c .h (.c .h (.c .h .n))), gl1.pull gm1 hS (.c .h (.c .h (.c .h .n))), gl2.pull gm2 hS (.c .h (.c .h (.c .h .n))), gl3.pull gm3 hS (.c .h (.c .h (.c .h .n)))⟩) (fun v23 B hv => ?_)
    obtain ⟨y24, y25, y26, rfl, y27, rfl⟩ := hv
    refine AQ (AB (.t1 4) ?_)
    refine AV (AA (Gs (Gt (BC NB KV rfl .nil) ?_)))
    refine AT (AK (AU.id Bm.fl.len Bm.fl.one) rfl rfl rfl KT rfl (.t (.t (.t .h)))) ?_
    refine Gn (.t1 4) (Ab ?_)
    refine AY rfl (.cell rfl .m3 (.inl ⟨(by rw [Bm.fl.len]; exact IZ), rfl⟩) .n) ?_
    intro w1 hS
    have hS := (hS.perm (Ax.perm (.c .h (.c .h (.c .h .n))))).A1
    have hq0 : AI.De (A5 V1 ls1 ev1) a = _ := ((AW c3).trans ((AW c4).trans ((AW c5).trans ((AW (show (decide ((AI.at_ (A5 V1 ls1 ev1) a.BJ).state = 0) != decide (a.kind = 1)) = false by rw [Gf V1 ls1 ev1 hs.1 hs.2]; exact c6)).trans ((AW c7).trans (BB c8))))))
    have hq : (AI.act (A5 V ls ev) a) = _ := (AI.F6 c1 a).trans ((congrArg (fun X => AI.De X a) hX.symm).trans hq0)
    refine ⟨_, ⟨y24, y25, y26, ?gv7, ?ga7, rfl⟩, hS⟩
    case gv7 => rw [hq]; rfl
    case ga7 => rw [hq]; dsimp only; exact (LK hs.1 hs.2 (FB (V := V1) (ls := ls1) (ev := ev1) hs.1 hs.2 hsv hlv (HP (u := a.bytes) hln.2.1 hln.1 y13)) (.inl ⟨c9, y22⟩) y27)
   have c9p := kz c9
   refine Aa ?_
   refine AB (.t2 0 4) ?_
   refine AA (AJ (Gm rfl ?_))
   refine BF rfl SB (.c rfl .n) (.c .h (.c .h (.c .h .n))) (Dq _ (AL.BJ V1 a.BJ (heard sv a.bytes)) (ls1.put a.BJ ⟨sl.queue, sl.wait, sl.told⟩) ev1 0 0 (Ig hs.1 hs.2 (FB (V := V1) (ls := ls1) (ev := ev1) hs.1 hs.2 hsv hlv (HP (u := a.bytes) hln.2.1 hln.1 y13)) hF0) (by omega) (by omega)) (fun w hS => ⟨gl0.pull gm0 hS (.c .h (.c .h (.c .h .n))), gl1.pull gm1 hS (.c .h (.c .h (.c .h .n))), gl2.pull gm2 hS (.c .h (.c .h (.c .h .n))), gl3.pull gm3 hS (.c .h (.c .h (.c .h .n)))⟩) (fun v28 B hv => ?_)
   obtain ⟨y29, y30, y31, rfl, y32, rfl⟩ := hv
   refine AQ (AB (.t1 4) ?_)
   refine AV (AA (Gs (Gt (BC NB KV rfl .nil) ?_)))
   refine AT (AK (AU.id Bm.fl.len Bm.fl.one) rfl rfl rfl KT rfl (.t (.t (.t .h)))) ?_
   refine Gn (.t1 4) (Ab ?_)
   refine AY rfl (.cell rfl .m3 (.inl ⟨(by rw [Bm.fl.len]; exact IZ), rfl⟩) .n) ?_
   intro w1 hS
   have hS := (hS.perm (Ax.perm (.c .h (.c .h (.c .h .n))))).A1
   have hq0 : AI.De (A5 V1 ls1 ev1) a = _ := ((AW c3).trans ((AW c4).trans ((AW c5).trans ((AW (show (decide ((AI.at_ (A5 V1 ls1 ev1) a.BJ).state = 0) != decide (a.kind = 1)) = false by rw [Gf V1 ls1 ev1 hs.1 hs.2]; exact c6)).trans ((AW c7).trans (BB c8))))))
   have hq : (AI.act (A5 V ls ev) a) = _ := (AI.F6 c1 a).trans ((congrArg (fun X => AI.De X a) hX.symm).trans hq0)
   refine ⟨_, ⟨y29, y30, y31, ?gv8, ?ga8, rfl⟩, hS⟩
   case gv8 => rw [hq]; rfl
   case ga8 => rw [hq]; dsimp only; exact (LK hs.1 hs.2 (FB (V := V1) (ls := ls1) (ev := ev1) hs.1 hs.2 hsv hlv (HP (u := a.bytes) hln.2.1 hln.1 y13)) (.inr ⟨c9, rfl⟩) y32)
  refine Gm rfl (Gt (AM rfl rfl) (Gt (AM rfl rfl) (Gt (AM rfl rfl) (Gt (BT rfl) (Gt (Ah K3 rfl) ?_)))))
  refine AT (AK ((AU.BJ V1 hs.1 hs.2).comp A2.l3) rfl rfl rfl MI rfl (.t (.t (.t (.t .h))))) ?_
  refine Ga rfl (Gn (.t4 0 4 6 9) (Ao ?_))
  refine EY (.c .h (.c (.t .h) (.c (.t .h) (.c (.t .h) (.c (.t .h) .n))))) ?_
  refine HC hs.1 hs.2 (by rfl) (by rfl) (by rfl) ?_
  refine AJ (Gm rfl (Gt (Cj rfl rfl) (Gn (.t4 0 4 6 134) ?_)))
  refine Gc (fun c10 => ?_) (fun c10 => ?_)
  ·
   have c10p := kz c10
   refine AJ (Gm rfl (Gm rfl ?_))
   refine Ag rfl Tj (.c rfl (.c rfl (.c rfl .n))) (.c .h (.c .h (.c (.t .h) .n))) (EL _ (AL.BJ V1 a.BJ { heard sv a.bytes with EN := ⟨(Bb.feed (Bb.start sv.EN sl.queue) (sv.Dk.DR a.bytes).2.1).now, (Bb.feed (Bb.start sv.EN sl.queue) (sv.Dk.DR a.bytes).2.1).Cr, (Bb.feed (Bb.start sv.EN sl.queue) (sv.Dk.DR a.bytes).2.1).ret, y15⟩ }) (ls1.put a.BJ ⟨(Bb.feed (Bb.start sv.EN sl.queue) (sv.Dk.DR a.bytes).2.1).queue, sl.wait, sl.told⟩) ev1 a.BJ _ hs (Nat.le_trans (Gj (Ig hs.1 hs.2 (FB (V := V1) (ls := ls1) (ev := ev1) hs.1 hs.2 hsv hlv (IN (u := a.bytes) hln.2.1 hln.1 y14 y15)) hF0) a.BJ hs.1 hs.2) (by omega))) (fun v33 B hv => ?_)
   obtain ⟨y34, y35, y36, rfl, y37, rfl⟩ := hv
   refine Gn (.t2 0 4) (AJ (Gm rfl ?_))
   refine BF rfl SB (.c rfl .n) (.c .h (.c .h (.c .h .n))) (Dq _ y34 y35 y36 1 0 (by rw [y37]; exact (Ig hs.1 hs.2 (FB (V := V1) (ls := ls1) (ev := ev1) hs.1 hs.2 hsv hlv (IN (u := a.bytes) hln.2.1 hln.1 y14 y15)) hF0).tell hs.1 hs.2 (show AI.Mz.length ≤ _ by decide)) (by omega) (by omega)) (fun w hS => ⟨gl0.pull gm0 hS (.c .h (.c .h (.c .h .n))), gl1.pull gm1 hS (.c .h (.c .h (.c .h .n))), gl2.pull gm2 hS (.c .h (.c .h (.c .h .n))), gl3.pull gm3 hS (.c .h (.c .h (.c .h .n)))⟩) (fun v38 B hv => ?_)
   obtain ⟨y39, y40, y41, rfl, y42, rfl⟩ := hv
   refine AQ (AB (.t1 4) ?_)
   refine AV (AA (Gs (Gt (BC NB KV rfl .nil) ?_)))
   refine AT (AK (AU.id Bm.fl.len Bm.fl.one) rfl rfl rfl KT rfl (.t (.t (.t (.t .h))))) ?_
   refine Gn (.t1 4) (Ab ?_)
   refine AY rfl (.cell rfl .m4 (.inl ⟨(by rw [Bm.fl.len]; exact IZ), rfl⟩) .n) ?_
   intro w1 hS
   have hS := (hS.perm (Ax.perm (.c .h (.c .h (.c .h .n))))).A1
   have hq0 : AI.De (A5 V1 ls1 ev1) a = _ := ((AW c3).trans ((AW c4).trans ((AW c5).trans ((AW (show (decide ((AI.at_ (A5 V1 ls1 ev1) a.BJ).state = 0) != decide (a.kind = 1)) = false by rw [Gf V1 ls1 ev1 hs.1 hs.2]; exact c6)).trans ((AW c7).trans (BB c8))))))
   have hq : (AI.act (A5 V ls ev) a) = _ := (AI.F6 c1 a).trans ((congrArg (fun X => AI.De X a) hX.symm).trans hq0)
   refine ⟨_, ⟨y39, y40, y41, ?gv9, ?ga9, rfl⟩, hS⟩
   case gv9 => rw [hq]; rfl
   case ga9 => rw [hq]; dsimp only; exact (LK hs.1 hs.2 (FB (V := V1) (ls := ls1) (ev := ev1) hs.1 hs.2 hsv hlv (IN (u := a.bytes) hln.2.1 hln.1 y14 y15)) (.inl ⟨c10, y37⟩) y42)
  have c10p := kz c10
  refine Aa ?_
  refine AB (.t2 0 4) ?_
  refine AA (AJ (Gm rfl ?_))
  refine BF rfl SB (.c rfl .n) (.c .h (.c .h (.c (.t .h) .n))) (Dq _ (AL.BJ V1 a.BJ { heard sv a.bytes with EN := ⟨(Bb.feed (Bb.start sv.EN sl.queue) (sv.Dk.DR a.bytes).2.1).now, (Bb.feed (Bb.start sv.EN sl.queue) (sv.Dk.DR a.bytes).2.1).Cr, (Bb.feed (Bb.start sv.EN sl.queue) (sv.Dk.DR a.bytes).2.1).ret, y15⟩ }) (ls1.put a.BJ ⟨(Bb.feed (Bb.start sv.EN sl.queue) (sv.Dk.DR a.bytes).2.1).queue, sl.wait, sl.told⟩) ev1 0 0 (Ig hs.1 hs.2 (FB (V := V1) (ls := ls1) (ev := ev1) hs.1 hs.2 hsv hlv (IN (u := a.bytes) hln.2.1 hln.1 y14 y15)) hF0) (by omega) (by omega)) (fun w hS => ⟨gl0.pull gm0 hS (.c .h (.c .h (.c (.t .h) .n))), gl1.pull gm1 hS (.c .h (.c .h (.c (.t .h) .n))), gl2.pull gm2 hS (.c .h (.c .h (.c (.t .h) .n))), gl3.pull gm3 hS (.c .h (.c .h (.c (.t .h) .n)))⟩) (fun v43 B hv => ?_)
  obtain ⟨y44, y45, y46, rfl, y47, rfl⟩ := hv
  refine AQ (AB (.t1 4) ?_)
  refine AV (AA (Gs (Gt (BC NB KV rfl .nil) ?_)))
  refine AT (AK (AU.id Bm.fl.len Bm.fl.one) rfl rfl rfl KT rfl (.t (.t (.t (.t .h))))) ?_
  refine Gn (.t1 4) (Ab ?_)
  refine AY rfl (.cell rfl .m4 (.inl ⟨(by rw [Bm.fl.len]; exact IZ), rfl⟩) .n) ?_
  intro w1 hS
  have hS := (hS.perm (Ax.perm (.c .h (.c .h (.c .h .n))))).A1
  have hq0 : AI.De (A5 V1 ls1 ev1) a = _ := ((AW c3).trans ((AW c4).trans ((AW c5).trans ((AW (show (decide ((AI.at_ (A5 V1 ls1 ev1) a.BJ).state = 0) != decide (a.kind = 1)) = false by rw [Gf V1 ls1 ev1 hs.1 hs.2]; exact c6)).trans ((AW c7).trans (BB c8))))))
  have hq : (AI.act (A5 V ls ev) a) = _ := (AI.F6 c1 a).trans ((congrArg (fun X => AI.De X a) hX.symm).trans hq0)
  refine ⟨_, ⟨y44, y45, y46, ?gv10, ?ga10, rfl⟩, hS⟩
  case gv10 => rw [hq]; rfl
  case ga10 => rw [hq]; dsimp only; exact (LK hs.1 hs.2 (FB (V := V1) (ls := ls1) (ev := ev1) hs.1 hs.2 hsv hlv (IN (u := a.bytes) hln.2.1 hln.1 y14 y15)) (.inr ⟨c10, rfl⟩) y47)
 have c8p := kz c8
 refine Gs (Gt (Ae rfl rfl) (Ga rfl (Gn (.t6 0 3 4 6 85 140) ?_)))
 refine Gc (fun c11 => ?_) (fun c11 => ?_)
 ·
  have c11p := kz c11
  refine Gs (Ga rfl (Gn (.t4 0 3 4 6) (Ao ?_)))
  refine FR (k := a.BJ) hs.1 hs.2 (fun sv sl hsv hlv hln => ?_)
  refine BE (N := 15) [0, 0, 2, 6, 14, 0, 32, 126, 254, 510, 510, 1023, 3071, 7167, 16383] mix (by kernel_rfl) rfl ?_
  refine Pf 0 rfl (AE rfl) (Pf 1 rfl (AE rfl) (Pf 2 rfl (BT rfl) (Pf 3 rfl (Ah Dw rfl) (Pf 4 rfl (AZ rfl Cy .m3 ((AU.BJ V1 hs.1 hs.2).comp A2.l4) rfl) (Pf 5 rfl (Ah Xs rfl) (Pf 6 rfl (AG rfl A3 .m7 Bu.l2 rfl rfl) ?_))))))
  refine BZ 7 rfl rfl (by kernel_rfl) (Lb (K9 (D7 da (.c rfl (.c rfl .n)) (fun w hS => M3 _ _ w)))) ?_
  refine Pf 8 rfl (AE rfl) (Pf 9 rfl (AM rfl rfl) (Pf 10 rfl (AM rfl rfl) (Pf 11 rfl (BT rfl) (Pf 12 rfl (Ah Dw rfl) ?_))))
  refine An 13 rfl (by kernel_rfl) ?_
  refine AT (AK ((AU.BJ V1 hs.1 hs.2).comp A2.l4) rfl rfl rfl Fv rfl (.t (.t (.t .h)))) ?_
  refine BN rfl ⟨?_, ?_⟩
  · exact (Pk (Pk (Po rfl (AM rfl rfl) rfl rfl (Pk (Pk (Pk (Pk (Pk (Pk (Pk (Pk (Pk (Pk Aq)))))))))))))
  refine Pf 14 rfl (A0 rfl) ?_
  refine A4 (by kernel_rfl) ?_
  refine AB (.t3 0 4 10) ?_
  refine AA (Ao ?_)
  refine EY (.c .h (.c .h (.c .h (.c .h (.c .h .n))))) ?_
  refine HC hs.1 hs.2 (by rfl) (by rfl) (by rfl) ?_
  refine AJ (Gm rfl ?_)
  refine BF rfl SB (.c rfl .n) (.c .h (.c .h (.c .h .n))) (Dq _ (AL.BJ V1 a.BJ { sv with out := ⟨sv.out.wait, sv.out.shown, sv.out.B7, sv.out.ring.drop (max 0 (min a.n (sv.out.ring.length : Int))).toNat, sv.out.cut⟩ }) (ls1.put a.BJ ⟨sl.queue, sl.wait, sl.told⟩) ev1 0 0 (by rw [(show A5 (AL.BJ V1 a.BJ { sv with out := ⟨sv.out.wait, sv.out.shown, sv.out.B7, sv.out.ring.drop (max 0 (min a.n (sv.out.ring.length : Int))).toNat, sv.out.cut⟩ }) (ls1.put a.BJ ⟨sl.queue, sl.wait, sl.told⟩) ev1 = AI.set (A5 V1 ls1 ev1) a.BJ ((AI.at_ (A5 V1 ls1 ev1) a.BJ).G7 a.n) from Eg hs.1 hs.2 hsv hlv (f := fun x => x.G7 a.n) rfl)]; exact hF0.G7 hs.1 hs.2 a.n) (by omega) (by omega)) (fun w hS => ⟨gl0.pull gm0 hS (.c .h (.c .h (.c .h .n))), gl1.pull gm1 hS (.c .h (.c .h (.c .h .n))), gl2.pull gm2 hS (.c .h (.c .h (.c .h .n))), gl3.pull gm3 hS (.c .h (.c .h (.c .h .n)))⟩) (fun v48 B hv => ?_)
  obtain ⟨y49, y50, y51, rfl, y52, rfl⟩ := hv
  refine Gn (.t2 4 10) (Gs (Gm rfl (Gt (BC NB KV rfl (.cons Bm.l1 rfl rfl rfl .nil)) ?_)))
  refine AT (AK (AU.id Bm.fl.len Bm.fl.one) rfl rfl rfl KT rfl (.t (.t (.t .h)))) ?_
  refine Gn (.t1 4) (Ab (AS (AD ?_)))
  refine AY rfl (.cell rfl .m3 (.inl ⟨(by rw [Bm.fl.len]; exact IZ), rfl⟩) .n) ?_
  intro w1 hS
  have hS := (hS.perm (Ax.perm (.c .h (.c .h (.c .h .n))))).A1
  have hq0 : AI.De (A5 V1 ls1 ev1) a = _ := ((AW c3).trans ((AW c4).trans ((AW c5).trans ((AW (show (decide ((AI.at_ (A5 V1 ls1 ev1) a.BJ).state = 0) != decide (a.kind = 1)) = false by rw [Gf V1 ls1 ev1 hs.1 hs.2]; exact c6)).trans ((AW c7).trans ((AW c8).trans (BB c11)))))))
  have hq : (AI.act (A5 V ls ev) a) = _ := (AI.F6 c1 a).trans ((congrArg (fun X => AI.De X a) hX.symm).trans hq0)
  refine ⟨_, ⟨y49, y50, y51, ?gv11, ?ga11, rfl⟩, hS⟩
  case gv11 => rw [hq]; exact congrArg (fun x => Value.agg (Bm.enc ⟨0, x⟩).toArray) (Ws V1 ls1 ev1 hs.1 hs.2 hsv a.n)
  case ga11 => rw [hq]; dsimp only; exact y52.trans (congrArg AI.BX (show A5 (AL.BJ V1 a.BJ { sv with out := ⟨sv.out.wait, sv.out.shown, sv.out.B7, sv.out.ring.drop (max 0 (min a.n (sv.out.ring.length : Int))).toNat, sv.out.cut⟩ }) (ls1.put a.BJ ⟨sl.queue, sl.wait, sl.told⟩) ev1 = AI.set (A5 V1 ls1 ev1) a.BJ ((AI.at_ (A5 V1 ls1 ev1) a.BJ).G7 a.n) from Eg hs.1 hs.2 hsv hlv (f := fun x => x.G7 a.n) rfl))
 have c11p := kz c11
 refine Gs (Gt (Ae rfl rfl) (Ga rfl (Gn (.t4 0 4 6 159) ?_)))
 refine G0 rfl (decide_eq_true (by omega)) ?_
 refine Gs (Gm rfl (Gm rfl ?_))
 refine BF rfl Zz (.c rfl (.c rfl .n)) (.c .h (.c .h (.c .h .n))) (H7 _ V1 ls1 ev1 a.BJ 0 0 hs hF0 (by omega) (by omega)) (fun w hS => ⟨gl0.pull gm0 hS (.c .h (.c .h (.c .h .n))), gl1.pull gm1 hS (.c .h (.c .h (.c .h .n))), gl2.pull gm2 hS (.c .h (.c .h (.c .h .n))), gl3.pull gm3 hS (.c .h (.c .h (.c .h .n)))⟩) (fun v53 B hv => ?_)
 obtain ⟨y54, y55, y56, rfl, y57, rfl⟩ := hv
 refine Gn (.t2 0 4) (AJ (Gm rfl ?_))
 refine BF rfl SB (.c rfl .n) (.c .h (.c .h (.c .h .n))) (Dq _ y54 y55 y56 11 11 (by rw [y57]; exact hF0.leave hs.1 hs.2) (by omega) (by omega)) (fun w hS => ⟨gl0.pull gm0 hS (.c .h (.c .h (.c .h .n))), gl1.pull gm1 hS (.c .h (.c .h (.c .h .n))), gl2.pull gm2 hS (.c .h (.c .h (.c .h .n))), gl3.pull gm3 hS (.c .h (.c .h (.c .h .n)))⟩) (fun v58 B hv => ?_)
 obtain ⟨y59, y60, y61, rfl, y62, rfl⟩ := hv
 refine AQ (AB (.t1 4) ?_)
 refine AV (AA (Gs (Gt (BC NB KV rfl .nil) ?_)))
 refine AT (AK (AU.id Bm.fl.len Bm.fl.one) rfl rfl rfl KT rfl (.t (.t (.t .h)))) ?_
 refine Gn (.t1 4) (Ab ?_)
 refine AY rfl (.cell rfl .m3 (.inl ⟨(by rw [Bm.fl.len]; exact IZ), rfl⟩) .n) ?_
 intro w1 hS
 have hS := (hS.perm (Ax.perm (.c .h (.c .h (.c .h .n))))).A1
 have hq0 : AI.De (A5 V1 ls1 ev1) a = _ := ((AW c3).trans ((AW c4).trans ((AW c5).trans ((AW (show (decide ((AI.at_ (A5 V1 ls1 ev1) a.BJ).state = 0) != decide (a.kind = 1)) = false by rw [Gf V1 ls1 ev1 hs.1 hs.2]; exact c6)).trans ((AW c7).trans ((AW c8).trans (AW c11)))))))
 have hq : (AI.act (A5 V ls ev) a) = _ := (AI.F6 c1 a).trans ((congrArg (fun X => AI.De X a) hX.symm).trans hq0)
 refine ⟨_, ⟨y59, y60, y61, ?gv12, ?ga12, rfl⟩, hS⟩
 case gv12 => rw [hq]; rfl
 case ga12 => rw [hq]; dsimp only; exact y62.trans (congrArg AI.BX y57)
theorem Qb (b : Nat) (V : AL) (ls : Vector BD 4) (i : Int) (hi : 0 ≤ i ∧ i < 4) (hl : (ls.at i).told.length ≤ 1000000) : JS Tryz.prog 24 #[.pointer (some ⟨b, 0, none⟩), .int .i64 i] [Ac.box b 101 (AL.enc V), Ac.Dz (CH 9 (AL.Aw V) ls)] (fun v B => ∃ h' : Hd, v = h'.val ∧ h'.len = (ls.at i).told.length ∧ B = [Ac.box b 101 (AL.enc V), Ac.Dz (CH 9 (AL.Aw V) ls), Ac.own h' 9 1 ((ls.at i).told.flatMap A7)]) := by
 intro w hS0
 refine Al _ _ Tryz.func24 rfl rfl rfl (hS0) ?_
 refine Gs (Ga rfl (Gn (.t2 0 1) (CG (Gm rfl (Gt (FM Tryz.underlying37 rfl) (Gm rfl ?_))))))
 refine Ds (t := 7) rfl rfl rfl (AE rfl) ?_
 refine Ds (t := 7) rfl rfl rfl (A8 rfl rfl) ?_
 refine Gt (DX rfl rfl) (Gm rfl (Ba 11 rfl rfl (fun q => AE rfl) (Ba 11 rfl rfl (fun q => CN (cF rfl q) rfl) ?_)))
 refine Gt (BR rfl rfl (fun h => by rw [h]; rfl)) ?_
 refine Gn (.t3 0 1 14) ?_
 refine EJ rfl (by rw [Bool.or_eq_false_iff, decide_eq_false_iff_not, decide_eq_false_iff_not]; omega) ?_
 refine Aa ?_
 refine AB (.t2 0 1) ?_
 refine AA (Ao ?_)
 refine FR (k := i) hi.1 hi.2 (fun sv sl hsv hlv hln => ?_)
 have hl2 := hl
 rw [hlv] at hl2
 refine AJ (Gm rfl (Gm rfl (Gt (BT rfl) (Gt (Ah GP rfl) ?_))))
 refine Gt (AR PL rfl rfl (by first | omega | exact hi.1 | exact hi.2) (by first | omega | exact hi.1 | exact hi.2)) ?_
 refine Gt (Ah QX rfl) (Gt (AG rfl FZ .m3 ((AU.BJ V hi.1 hi.2).comp A2.l5) rfl rfl) ?_)
 refine Dh A7 9 1 ?_
 refine Ku (e := A7) rfl Tryz.underlying52 Eo Sh rfl X1 (by decide) rfl rfl (fun w hS => Src.D3 Tryz.underlying52 ((Kn.own .m3) w hS)) rfl rfl (by omega) (fun _ => .h) (fun h1 h1l => ?_)
 refine Ga rfl (Gn (.t1 4) (Ab ?_))
 refine AY rfl (.tmp rfl .n) ?_
 intro w1 hS
 have hS := (hS.perm (Ax.perm (.c (.t .h) (.c (.t .h) (.c (.t .h) (.c (.t .h) (.c (.t .h) (.c .h .n)))))))).A1
 have e1 : V.BJ i sv = V := by rw [← hsv]; exact V.ME hi.1 hi.2
 have e2 : ls.put i ⟨sl.queue, sl.wait, sl.told⟩ = ls := by rw [← hlv]; exact Vector.NP ls hi.1 hi.2
 have hS := St.close' (s := sv) (qs := sl.queue) (ws := sl.wait) (ts := sl.told) hi.1 hi.2 rfl rfl rfl hS
 rw [e1, e2] at hS
 try rw [hsv]
 rw [hlv]
 refine ⟨_, ⟨_, rfl, ?gl, rfl⟩, hS⟩
 case gl => (try simp only [List.length_append, List.length_nil] at *); omega
theorem Nb  (w : World) (gl0 : GV 2 Fu w) (gl1 : GV 0 AH.DG w) (gl2 : Gl 7 w) (gl3 : Gl 8 w) : Ei Tryz.prog 33 #[] w fun v w' => v = .bool true ∧ CB w w' := by
 refine Al [] [] Tryz.func33 rfl rfl rfl (St.start w []) ?_
 refine Gs (Ga rfl (Gn (.nil _) (Gs ?_)))
 refine Ag rfl ae .n .n (Jr ) (fun v1 B hv => ?_)
 obtain ⟨y2, y3, y4, y5, rfl, y6, rfl⟩ := hv
 refine Ga rfl (Gn (.t1 1) (CG (Gm rfl (Gt (FM Tryz.underlying37 rfl) (Gn (.t2 1 8) ?_)))))
 refine EJ rfl rfl ?_
 refine Aa ?_
 refine AB (.t1 1) ?_
 refine AA (Gs (Gm rfl (Gt (BC Zu aD rfl (.cons Bu.l0 rfl rfl rfl (.cons Bu.l1 rfl rfl rfl .nil))) ?_)))
 refine BF rfl YF (.c rfl (.c rfl .n)) (.c .h (.c .h (.c .h .n))) (Iw y2 y3 y4 y5 AI.P6 (by rw [y6]; exact AI.dv) (by decide)) (fun w hS => ⟨gl0.pull (by simp) hS (.c .h (.c .h (.c .h .n))), gl1.pull (by simp) hS (.c .h (.c .h (.c .h .n))), gl2.pull (by simp) hS (.c .h (.c .h (.c .h .n))), gl3.pull (by simp) hS (.c .h (.c .h (.c .h .n)))⟩) (fun v8 B hv => ?_)
 obtain ⟨y9, y10, y11, rfl, y12, rfl⟩ := hv
 refine BH rfl KV rfl (fun b1 => ?_)
 refine AT (AK (AU.id Bm.fl.len Bm.fl.one) rfl rfl rfl KT rfl .h) ?_
 refine Gn (.t2 1 2) (Gs (Gm rfl (Gt (BC Zu aD rfl (.cons Bu.l0 rfl rfl rfl (.cons Bu.l1 rfl rfl rfl (.cons Bu.l3 rfl rfl rfl .nil)))) ?_)))
 refine BF rfl YF (.c rfl (.c rfl .n)) (.c (.t .h) (.c (.t .h) (.c (.t .h) .n))) (Iw y2 y9 y10 y11 AI.type2 (by rw [y12, y6]; exact AI.dq) (by decide)) (fun w hS => ⟨gl0.pull (by simp) hS (.c (.t .h) (.c (.t .h) (.c (.t .h) .n))), gl1.pull (by simp) hS (.c (.t .h) (.c (.t .h) (.c (.t .h) .n))), gl2.pull (by simp) hS (.c (.t .h) (.c (.t .h) (.c (.t .h) .n))), gl3.pull (by simp) hS (.c (.t .h) (.c (.t .h) (.c (.t .h) .n)))⟩) (fun v13 B hv => ?_)
 obtain ⟨y14, y15, y16, rfl, y17, rfl⟩ := hv
 refine Gn (.t2 1 2) (Gs (Gm rfl (Gt (BC Zu aD rfl (.cons Bu.l0 rfl rfl rfl .nil)) ?_)))
 refine BF rfl YF (.c rfl (.c rfl .n)) (.c .h (.c .h (.c .h .n))) (Iw y2 y14 y15 y16 AI.S8 (by rw [y17, y12, y6]; exact AI.dp) (by decide)) (fun w hS => ⟨gl0.pull (by simp) hS (.c .h (.c .h (.c .h .n))), gl1.pull (by simp) hS (.c .h (.c .h (.c .h .n))), gl2.pull (by simp) hS (.c .h (.c .h (.c .h .n))), gl3.pull (by simp) hS (.c .h (.c .h (.c .h .n)))⟩) (fun v18 B hv => ?_)
 obtain ⟨y19, y20, y21, rfl, y22, rfl⟩ := hv
 refine BH rfl KV rfl (fun b2 => ?_)
 refine AT (AK (AU.id Bm.fl.len Bm.fl.one) rfl rfl rfl KT rfl .h) ?_
 refine Gn (.t3 1 2 3) (Ao ?_)
 have hA : A5 y19 y20 y21 = AI.cS := by rw [y22, y17, y12, y6]; rfl
 have hA3 : (A5 y19 y20 y21).Live := by rw [hA]; exact AI.Wb
 refine AJ (Gm rfl ?_)
 refine Ag rfl cD (.c rfl (.c rfl .n)) (.c (.t .h) .n) (Kb y2 y19 2 (by decide)) (fun v23 B hv => ?_)
 obtain ⟨rfl, rfl⟩ := hv
 refine Gm rfl (Gt (AM rfl rfl) (Gt (AM rfl rfl) (Ga rfl (Ga rfl (Gn (.t5 1 2 3 4 5) (Gs (Gt (Ah Xu rfl) ?_)))))))
 refine Gt (AG rfl Y5 .m4 Bm.l0 rfl rfl) (Gt (Ae rfl rfl) (Gm rfl (Bi 26 rfl rfl (fun q => Ah Xu rfl) (Bi 26 rfl rfl (fun q => AG (Bh rfl q) Y5 .m1 Bm.l0 rfl rfl) (Bi 26 rfl rfl (fun q => Ae (Bh rfl q) rfl) (Gt (BK rfl rfl (fun h => h)) (Gm rfl ?_)))))))
 refine Bi 31 rfl rfl (fun q => AE rfl) (Bi 31 rfl rfl (fun q => Ae (Bh rfl q) rfl) (Gt (BK rfl rfl (fun h => h)) (Gm rfl (Bi 35 rfl rfl (fun q => AE rfl) (Bi 35 rfl rfl (fun q => Ae (Bh rfl q) rfl) (Gt (BK rfl rfl (fun h => h)) (Gm rfl ?_)))))))
 refine Bi 39 rfl rfl (fun q => AE rfl) ?_
 refine YJ 39 rfl (fun c1 => ?_) (fun c1 => ?_)
 ·
  refine S2 (t := 39) rfl (by first | rfl | exact dy rfl c1) rfl cV (.c (Bh rfl c1) (.c rfl .n)) (.c .h (.c (.t .h) .n)) (Qb y2 y19 y20 2 (by decide) (hA3.told (by decide) (by decide))) (fun v24 B hv => ?_)
  obtain ⟨y25, rfl, y26, rfl⟩ := hv
  refine Ds (t := 39) rfl rfl rfl (Ar rfl Tryz.underlying52 rfl) ?_
  refine Ds (t := 39) rfl rfl rfl (Cj rfl rfl) ?_
  refine Gt (DS rfl rfl) (Ga rfl (Gn (.t1 0) (Ab ?_)))
  refine AY rfl (.tmp rfl .n) ?_
  intro w1 hS; refine ⟨?_, hS.Am⟩; have hd := AI.de
  rw [← hA, CZ _ _ _ (by decide) (by decide)] at hd
  exact congrArg Value.bool (by rw [y26]; exact hd)
 refine DC (t := 39) rfl rfl rfl rfl ?_
 refine DC (t := 39) rfl rfl rfl rfl ?_
 refine DC (t := 39) rfl rfl rfl rfl ?_
 refine Gt (DX rfl rfl) (Ga rfl (Gn (.t1 0) (Ab ?_)))
 refine AY rfl (.tmp rfl .n) ?_
 intro w1 hS; refine ⟨?_, hS.Am⟩; have hs := Qg y19 y20 y21 (show (0 : Int) ≤ 2 by decide) (by decide)
 rw [hA, AI.dE] at hs
 have hc := c1
 rw [hs, y6, AI.cl, y17, y12, y6, AI.dH] at hc
 cases hc
theorem PV {t0 : Nat} (c : Nat) (f : Hd) (l : List Bu) (hu : ∀ a ∈ l, a.bytes.length ≤ 140737488351232) : FL Tryz.prog 16 #[f.val, .func (.func 31) #[] #[.pointer (some ⟨c, 0, none⟩)]] [Ac.box c 49 (B3 (n := 4) Au (Vector.replicate 4 default))] (fun w => dP w (Cd [Ac.box c 49 (B3 (n := 4) Au (Vector.replicate 4 default))]) f t0 4 (l.flatMap Bu.enc) ∧ (GV 2 Fu w ∧ 2 ∉ Cd [Ac.box c 49 (B3 (n := 4) Au (Vector.replicate 4 default))]) ∧ (GV 0 AH.DG w ∧ 0 ∉ Cd [Ac.box c 49 (B3 (n := 4) Au (Vector.replicate 4 default))]) ∧ (Gl 7 w ∧ 7 ∉ Cd [Ac.box c 49 (B3 (n := 4) Au (Vector.replicate 4 default))]) ∧ (Gl 8 w ∧ 8 ∉ Cd [Ac.box c 49 (B3 (n := 4) Au (Vector.replicate 4 default))])) (fun v B => ∃ p : Option Addr, v = .tuple #[.pointer p, .bool true] ∧ B = []) := by
 intro w hS0 hH
 obtain ⟨r0, ⟨gl0, gm0⟩, ⟨gl1, gm1⟩, ⟨gl2, gm2⟩, ⟨gl3, gm3⟩⟩ := hH
 have hfl := r0.1.Mu Bu.fl (by decide)
 refine Al _ _ Tryz.func16 rfl rfl rfl (hS0) ?_
 refine Gs (Ga rfl (Ga rfl (Gn (.t2 0 1) (CG ?_))))
 refine BA rfl cz .n (fun w hS => Nb w (gl0.stM gm0 hS) (gl1.stM gm1 hS) (gl2.stM gm2 hS) (gl3.stM gm3 hS)) ?_
 refine Gt (BV rfl) (Gn (.t3 0 1 10) ?_)
 refine EJ rfl rfl ?_
 refine Aa ?_
 refine AB (.t2 0 1) ?_
 refine AA (Gs ?_)
 refine Ag rfl ae .n .n (Jr ) (fun v1 B hv => ?_)
 obtain ⟨y2, y3, y4, y5, rfl, y6, rfl⟩ := hv
 refine Ga rfl (Gn (.t3 0 1 6) (CG (Ga rfl (AQ (AA (Af ?_))))))
 refine Bo (.t4 7 0 1 6) ?_
 refine Be (.t (.t (.t .h))) ?_
 refine Be (.t (.t (.t .h))) ?_
 refine Be (.t (.t (.t .h))) ?_
 refine Be (.t (.t (.t .h))) ?_
 refine N3 (fun (k : Int) (V1 : AL) (ls1 : Vector BD 4) (ev1 : List Ing.Event) (W1 : Vector Int 4) => 0 ≤ k ∧ k ≤ 150 ∧ k ≤ (l.length : Int) ∧ A5 V1 ls1 ev1 = (AI.new.run (l.take k.toNat)).1 ∧ (∀ j : Int, 0 ≤ j → j < 4 → W1.at j = ((((AI.new.run (l.take k.toNat)).1).at_ j).queue.length : Int))) (fun (k : Int) (V1 : AL) (ls1 : Vector BD 4) (ev1 : List Ing.Event) (W1 : Vector Int 4) => (150 - k).toNat) (fun (k : Int) (V1 : AL) (ls1 : Vector BD 4) (ev1 : List Ing.Event) (W1 : Vector Int 4) => [(7, .int .i64 k)]) (fun (k : Int) (V1 : AL) (ls1 : Vector BD 4) (ev1 : List Ing.Event) (W1 : Vector Int 4) => [Ac.box y2 101 (AL.enc V1), Ac.Dz (CH 9 (AL.Aw V1) ls1), Ac.own (AL.last V1) 56 16 (ev1.flatMap Ing.Event.enc), Ac.box c 49 (B3 (n := 4) Au W1)]) (0) (y3) (y4) (y5) ((Vector.replicate 4 default)) ?_ rfl rfl (fun k V1 ls1 ev1 W1 hI1 => ?_)
 · exact ⟨by omega, by omega, by omega, y6, fun j j0 j1 => by rw [show (l.take (0 : Int).toNat) = [] from rfl]; show _ = ((AI.new.at_ j).queue.length : Int); rw [AI.MW j0 j1]; rcases four j0 j1 with e | e | e | e <;> subst e <;> rfl⟩
 obtain ⟨hI11, hI12, hI13, hI14, hI15⟩ := hI1
 refine CG (Gm rfl (Gm rfl (Gt (Ar rfl Tryz.underlying22 rfl) (Gt (A8 rfl rfl) (Gm rfl (Bi 16 rfl rfl (fun q => AE rfl) (Bi 16 rfl rfl (fun q => A8 (Bh rfl q) rfl) ?_)))))))
 refine Gt (BK rfl rfl (fun h => h)) (Gn (.t5 0 1 6 7 19) ?_)
 refine Gc (fun c1 => ?_) (fun c1 => ?_)
 ·
  have c1p := kz c1
  refine Aa ?_
  refine AB (.t4 0 1 6 7) ?_
  refine AA (Ao (Af (Gs (Gm rfl (Gm rfl (Gm rfl ?_))))))
  refine Gt (Br aP (by decide) (Kn.Yn r0) rfl rfl (by omega) (by omega)) ?_
  refine Gt (OR rfl Y1 (by decide) Bu.fl (Kn.Yn r0) (by omega)) ?_
  refine BF rfl YF (.c rfl (.c rfl .n)) (.c .h (.c .h (.c .h .n))) (Iw y2 V1 ls1 ev1 (l.getD k.toNat default) (by rw [hI14]; exact AI.Live.run _ AI.LM) (hu _ (Pn (d := default) (xs := l) (i := k.toNat) (by omega)))) (fun w hS => ⟨gl0.pull gm0 hS (.c .h (.c .h (.c .h .n))), gl1.pull gm1 hS (.c .h (.c .h (.c .h .n))), gl2.pull gm2 hS (.c .h (.c .h (.c .h .n))), gl3.pull gm3 hS (.c .h (.c .h (.c .h .n)))⟩) (fun v8 B hv => ?_)
  obtain ⟨y9, y10, y11, rfl, y12, rfl⟩ := hv
  refine BH rfl KV rfl (fun b1 => ?_)
  refine AT (AK (AU.id Bm.fl.len Bm.fl.one) rfl rfl rfl KT rfl .h) ?_
  refine Gn (.t5 0 1 6 7 8) (Ao ?_)
  refine BE (N := 9) [0, 0, 0, 0, 12, 28, 0, 127, 255] mix (by kernel_rfl) rfl ?_
  refine Pf 0 rfl (AE rfl) (Pf 1 rfl (AE rfl) (Pf 2 rfl (AE rfl) (Pf 3 rfl (AE rfl) ?_)))
  refine Pf 4 rfl (Br aP (by decide) (Kn.Yn r0) rfl rfl (by omega) (by omega)) ?_
  refine Pf 5 rfl (OR rfl Y1 (by decide) Bu.fl (Kn.Yn r0) (by omega)) ?_
  refine Pf 6 rfl (AZ rfl IZ .m0 (AU.id Bm.fl.len Bm.fl.one) rfl) ?_
  refine An 7 rfl (by kernel_rfl) ?_
  refine DL rfl dS rfl (.c rfl (.c rfl (.c rfl .n))) (.c (.t .h) (.c (.t .h) (.c (.t (.t .h)) .n))) (KR y2 y9 y10 y11 _ _ c W1 (by rw [y12, hI14]; exact (AI.Live.run _ AI.LM).act _) (Wh (AI.JF.run (l.take k.toNat) AI.W7) (by rw [AI.Rk _ (by show (0 : Int) + _ ≤ 400; rw [List.length_take]; omega)]; show (0 : Int) + _ < 400; rw [List.length_take]; omega) (by rw [y12, hI14]) hI15)) (fun v13 B hv => ?_)
  obtain ⟨y14, rfl, y15, rfl⟩ := hv
  refine Bp rfl ⟨?_, ?_⟩
  · exact (Pk (Pk (Pk (Pk (Pk (Pk (Pk Aq)))))))
  refine Pf 8 rfl (BV rfl) ?_
  refine A4 (by kernel_rfl) ?_
  refine AB (.t5 0 1 6 7 36) ?_
  refine AA ?_
  refine EJ rfl rfl ?_
  refine Aa ?_
  refine AB (.t4 0 1 6 7) ?_
  refine AV (AA (AJ (Gm rfl ?_)))
  refine Gt (Av rfl rfl (IntWalk.i64_in _ (by omega))) ?_
  refine Ga rfl ?_
  refine AQ (AB (.t4 0 1 6 7) ?_)
  refine B9 (.c .h (.c .h (.c (.t (.t .h)) (.c .h .n)))) ?_
  refine CO ?_
  refine IJ (k + 1) _ _ _ _ ?_ ?_ (.t4 7 0 1 6) (.refl _)
  · exact ⟨by omega, by omega, by omega, by rw [AI.RY hI11 (by omega), ← hI14]; exact y12, fun j j0 j1 => by rw [AI.RY hI11 (by omega), ← hI14, ← y12]; exact y15.done j j0 j1⟩
  · omega
 refine Bf (AX (AX (Ai ?_)))
 refine AB (.t1 6) ?_
 refine AA (Gs (Gm rfl (Ga rfl (Ga rfl (Gn (.t2 4 5) (Ab ?_))))))
 refine AY rfl (.tmp rfl (.tmp rfl .n)) ?_
 intro w1 hS
 have hS := (hS.perm (Ax.perm .n)).A1
 exact ⟨_, ⟨_, rfl, rfl⟩, hS⟩
end Go.Proofs.YtoidpggbbfncpaaGreatDoor
