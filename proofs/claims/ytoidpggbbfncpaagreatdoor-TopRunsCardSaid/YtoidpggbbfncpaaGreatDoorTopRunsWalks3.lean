/- What the functions that the law TopRuns reaches compute: walks, part 3. No condition. -/
import Derived.Test.YtoidpggbbfncpaaGreatDoorCards
import Derived.Test.YtoidpggbbfncpaaGreatDoorTie
import Derived.Deep.DeepHandedRow
import Derived.Test.YtoidpggbbfncpaaGreatDoorRows
import Derived.Test.YtoidpggbbfncpaaGreatDoorTopRunsEc3
import Derived.Test.YtoidpggbbfncpaaGreatDoorTopRunsRa1
import Derived.Test.YtoidpggbbfncpaaGreatDoorTopRunsRb1
import Derived.Test.YtoidpggbbfncpaaGreatDoorTopRunsRc1
import Derived.Test.YtoidpggbbfncpaaGreatDoorTopRunsWalks
import Derived.Test.YtoidpggbbfncpaaGreatDoorTopRunsWalks2
set_option linter.unusedSimpArgs false
set_option linter.unusedVariables false
set_option maxRecDepth 100000
set_option maxHeartbeats 1000000
namespace Go.Proofs.YtoidpggbbfncpaaGreatDoor
open Go Go.Ing Go.RowKit Go.ChangeShapes Go.WideShapes Go.ChangeAt
theorem Et (u : Aq) (hu : u.length ≤ 5000000) (w : World) (gl0 : F8 7 w) (gl1 : F8 8 w) : EL Tryz.prog 154 #[BQ u] w fun v w' => v = .tuple #[.int .i64 (Words.D1 u).1, BQ (Words.D1 u).2.1, .bool (Words.D1 u).2.2.1, .int .i64 (Words.D1 u).2.2.2] ∧ B4 w w' := by
 have hcut := Words.MB 46 u
 refine Am [] [] Tryz.func154 rfl rfl rfl (St.start w []) ?_
 refine Gs (Ga rfl (Ga rfl (Ga rfl (Ga rfl (Gn (.t1 0) (B7 (Gm rfl ?_)))))))
 refine Gt (Bs rfl rfl) (Gn (.t2 0 14) ?_)
 refine Gc (fun c1 => ?_) (fun c1 => ?_)
 ·
  refine Gs (Ga rfl (Ga rfl (Ga rfl (Ga rfl (Gn (.t4 2 3 4 5) (Ab (AD ?_)))))))
  refine AY rfl (.tmp rfl (.tmp rfl (.tmp rfl (.tmp rfl .n)))) ?_
  intro w1 hS; refine ⟨?_, hS.Aj⟩; rw [show Words.D1 u = _ from (A9 c1)]; rfl
 have c1p := kz c1
 refine Aa ?_
 refine AB (.t1 0) ?_
 refine AA (B7 (Gm rfl ?_))
 refine A7 rfl Yx (.c rfl (.c rfl .n)) (fun w hS => IQ _ _ w) ?_
 refine Gm rfl (Gt (AK rfl rfl) (Gt (AK rfl rfl) (Ga rfl (Ga rfl (Gn (.t3 0 6 7) (Gs (Gm rfl ?_)))))))
 refine Gm rfl (Bh 21 rfl rfl (fun q => AE rfl) (Bh 21 rfl rfl (fun q => Dj (Bc rfl q) rfl) (Gt (BI rfl rfl (fun h => h)) (Gm rfl (Bh 25 rfl rfl (fun q => AE rfl) ?_)))))
 refine LY (t := 25) rfl rfl rfl (fun q => Dp Xr (.c (Bc rfl q) (.c rfl .n)) (fun w hS => FO _ 46 w)) ?_
 refine Bh 25 rfl rfl (fun q => BS (Bc rfl q)) (Gt (BI rfl rfl (fun h => h)) (Gn (.t3 0 6 29) ?_))
 refine Gc (fun c2 => ?_) (fun c2 => ?_)
 ·
  refine Gs (Gm rfl (Ga rfl (Ga rfl (Ga rfl (Ga rfl (Gn (.t4 2 3 4 5) (Ab ?_)))))))
  refine AD ?_
  refine AY rfl (.tmp rfl (.tmp rfl (.tmp rfl (.tmp rfl .n)))) ?_
  intro w1 hS; refine ⟨?_, hS.Aj⟩; rw [show Words.D1 u = _ from ((AU c1).trans (A9 c2))]; rfl
 have c2p := kz c2
 refine Aa ?_
 refine AB (.t1 0) ?_
 refine AA (Gs (Gm rfl ?_))
 refine A7 rfl ZZ (.c rfl (.c rfl .n)) (fun w hS => Ho _ 46 (by omega) w) ?_
 refine Gm rfl (Gt (AK rfl rfl) (Gt (AK rfl rfl) (Gt (AK rfl rfl) (Ga rfl (Ga rfl (Ga rfl (Gn (.t4 0 8 9 10) ?_)))))))
 refine B7 (Gm rfl (Gt (BS rfl) (Gn (.t4 0 8 9 38) ?_)))
 refine Gc (fun c3 => ?_) (fun c3 => ?_)
 ·
  refine B7 (Gm rfl (Gt (Bs rfl rfl) (Gn (.t2 0 40) ?_)))
  refine Gc (fun c4 => ?_) (fun c4 => ?_)
  ·
   refine Gs (Ga rfl (Ga rfl (Ga rfl (Ga rfl (Gn (.t4 2 3 4 5) (Ab (AD ?_)))))))
   refine AD ?_
   refine AY rfl (.tmp rfl (.tmp rfl (.tmp rfl (.tmp rfl .n)))) ?_
   intro w1 hS; refine ⟨?_, hS.Aj⟩; rw [show Words.D1 u = _ from ((AU c1).trans ((AU c2).trans ((A9 c3).trans (A9 c4))))]; rfl
  refine Aa ?_
  refine AB (.t1 0) ?_
  refine AA (Gs (Gm rfl (Ga rfl (Ga rfl (Ga rfl (Ga rfl (Gn (.t4 2 3 4 5) ?_)))))))
  refine Ab (AD ?_)
  refine AY rfl (.tmp rfl (.tmp rfl (.tmp rfl (.tmp rfl .n)))) ?_
  intro w1 hS; refine ⟨?_, hS.Aj⟩; rw [show Words.D1 u = _ from ((AU c1).trans ((AU c2).trans ((A9 c3).trans (AU c4))))]; rfl
 have c3p := kz c3
 refine Aa ?_
 refine AB (.t2 8 9) ?_
 refine AA (Gs (Gm rfl ?_))
 refine BC rfl Z3 (.c rfl .n) .n (Kj _ (by omega)) (fun w hS => ⟨gl0.st hS, gl1.st hS⟩) (fun v1 B hv => ?_)
 rcases hv with ⟨y2, y3, rfl, rfl⟩ | ⟨y4, y5, y6, y7, rfl, rfl⟩
 ·
  refine Gm rfl (Gt (AK rfl rfl) (Gt (AK rfl rfl) (Ga rfl (Ga rfl (Gn (.t4 8 9 11 12) (B7 (Gm rfl ?_)))))))
  refine Gt (RL Tryz.underlying109 rfl) (Gm rfl ?_)
  refine D4 (t := 49) rfl rfl rfl (AE rfl) ?_
  refine D4 (t := 49) rfl rfl rfl (A6 rfl rfl) ?_
  refine Gt (Di rfl rfl) (Gm rfl (BU 53 rfl rfl (fun q => AE rfl) (BU 53 rfl rfl (fun q => CS (cF rfl q) rfl) ?_)))
  refine Gt (BP rfl rfl (fun h => by rw [h]; rfl)) ?_
  refine Gm rfl (BU 57 rfl rfl (fun q => AE rfl) ?_)
  refine BU 57 rfl rfl (fun q => by have q1 := q; (try simp at q1); exact Bg Tryz.underlying9 (cF rfl q) rfl (by decide) (by first | omega | (have hq := Words.QZ (by assumption); omega))) ?_
  refine BU 57 rfl rfl (fun q => A6 (cF rfl q) rfl) ?_
  refine Gt (BP rfl rfl (fun h => by rw [h]; rfl)) ?_
  refine Gm rfl (BU 62 rfl rfl (fun q => AE rfl) ?_)
  refine BU 62 rfl rfl (fun q => by have q1 := q; (try simp at q1); exact Bg Tryz.underlying9 (cF rfl q) rfl (by decide) (by first | omega | (have hq := Words.QZ (by assumption); omega))) ?_
  refine BU 62 rfl rfl (fun q => CS (cF rfl q) rfl) ?_
  refine Gt (BP rfl rfl (fun h => by rw [h]; rfl)) ?_
  refine Gm rfl (BU 67 rfl rfl (fun q => AE rfl) (BU 67 rfl rfl (fun q => Bs (cF rfl q) rfl) ?_))
  refine Gt (BP rfl rfl (fun h => by rw [h]; rfl)) ?_
  refine Gm rfl (BU 71 rfl rfl (fun q => AE rfl) ?_)
  refine P6 (t := 71) rfl rfl rfl (fun q => by have q1 := q; (try simp at q1); exact Dp Xr (.c (cF rfl q) (.c rfl .n)) (fun w hS => FO _ 46 w)) ?_
  refine Gt (BP rfl rfl (fun h => by rw [h]; rfl)) ?_
  refine Gn (.t3 9 11 74) ?_
  refine Gc (fun c5 => ?_) (fun c5 => ?_)
  ·
   refine Gs (Ga rfl (Ga rfl (Ga rfl (Ga rfl (Gn (.t4 2 3 4 5) (Ab (AD ?_)))))))
   refine AY rfl (.tmp rfl (.tmp rfl (.tmp rfl (.tmp rfl .n)))) ?_
   intro w1 hS; refine ⟨?_, hS.Aj⟩; rw [show Words.D1 u = _ from ((AU c1).trans ((AU c2).trans (AU c3))), Words.S3 y3, A9 c5]; rfl
  refine Aa ?_
  refine AB (.t2 9 11) ?_
  refine AA (Gs (Gm rfl (Gm rfl (Ga rfl (Ga rfl (Ga rfl (Ga rfl ?_)))))))
  refine Gn (.t4 2 3 4 5) (Ab ?_)
  refine AY rfl (.tmp rfl (.tmp rfl (.tmp rfl (.tmp rfl .n)))) ?_
  intro w1 hS; refine ⟨?_, hS.Aj⟩; rw [show Words.D1 u = _ from ((AU c1).trans ((AU c2).trans (AU c3))), Words.S3 y3, AU c5]; rfl
 refine Gm rfl (Gt (AK rfl rfl) (Gt (AK rfl rfl) (Ga rfl (Ga rfl (Gn (.t4 8 9 11 12) (B7 (Gm rfl ?_)))))))
 refine Gt (XE Tryz.underlying109 rfl) (Gm rfl ?_)
 refine Cx (t := 49) rfl rfl rfl rfl ?_
 refine Cx (t := 49) rfl rfl rfl rfl ?_
 refine Gt (DD rfl rfl) (Gm rfl ?_)
 refine Cx (t := 53) rfl rfl rfl rfl ?_
 refine Cx (t := 53) rfl rfl rfl rfl ?_
 refine Gt (DD rfl rfl) (Gm rfl ?_)
 refine Cx (t := 57) rfl rfl rfl rfl ?_
 refine Cx (t := 57) rfl rfl rfl rfl ?_
 refine Cx (t := 57) rfl rfl rfl rfl ?_
 refine Gt (DD rfl rfl) (Gm rfl ?_)
 refine Cx (t := 62) rfl rfl rfl rfl ?_
 refine Cx (t := 62) rfl rfl rfl rfl ?_
 refine Cx (t := 62) rfl rfl rfl rfl ?_
 refine Gt (DD rfl rfl) (Gm rfl ?_)
 refine Cx (t := 67) rfl rfl rfl rfl ?_
 refine Cx (t := 67) rfl rfl rfl rfl ?_
 refine Gt (DD rfl rfl) (Gm rfl ?_)
 refine Cx (t := 71) rfl rfl rfl rfl ?_
 refine Cx (t := 71) rfl rfl rfl rfl ?_
 refine Gt (DD rfl rfl) (Gn (.t3 9 11 74) ?_)
 refine GJ rfl rfl ?_
 refine Gs (Ga rfl (Ga rfl (Ga rfl (Ga rfl (Gn (.t4 2 3 4 5) (Ab (AD ?_)))))))
 refine AY rfl (.tmp rfl (.tmp rfl (.tmp rfl (.tmp rfl .n)))) ?_
 intro w1 hS; refine ⟨?_, hS.Aj⟩; rw [show Words.D1 u = _ from ((AU c1).trans ((AU c2).trans (AU c3))), Words.VX y7]; rfl
theorem IX (z : Int) (w : World) : EL Tryz.prog 155 #[.int .i64 z] w fun v w' => v = .bool (Words.many z) ∧ B4 w w' := by
 refine Am [] [] Tryz.func155 rfl rfl rfl (St.start w []) ?_
 refine Gs (Ga rfl (Gn (.t1 0) (Gs (Gm rfl (Gt (Af rfl rfl) (Gm rfl (BU 5 rfl rfl (fun q => AE rfl) ?_)))))))
 refine BU 5 rfl rfl (fun q => Af (cF rfl q) rfl) ?_
 refine Gt (BP rfl rfl (fun h => by rw [h]; rfl)) ?_
 refine Gm rfl (BU 9 rfl rfl (fun q => AE rfl) (BU 9 rfl rfl (fun q => Af (cF rfl q) rfl) ?_))
 refine Gt (BP rfl rfl (fun h => by rw [h]; rfl)) ?_
 refine Ga rfl (Gn (.t1 2) (Ab ?_))
 refine AY rfl (.tmp rfl .n) ?_
 intro w1 hS; refine ⟨?_, hS.Aj⟩; rfl
theorem Hm (z : Int) (w : World) : EL Tryz.prog 156 #[.int .i64 z] w fun v w' => v = .tuple #[BQ (Words.Nb z).1, .bool (Words.Nb z).2] ∧ B4 w w' := by
 refine Am [] [] Tryz.func156 rfl rfl rfl (St.start w []) ?_
 refine Gs (Ga rfl (Ga rfl (Gn (.t1 0) (B7 (Gm rfl (Gn (.t1 4) (Ae ?_)))))))
 refine Gs (Gt (Af rfl rfl) (Ga rfl (Gn (.t2 4 5) ?_)))
 refine Gc (fun c1 => ?_) (fun c1 => ?_)
 ·
  refine Gs (Ga rfl (Ga rfl (Gn (.t2 2 3) (Ab (AP (AD ?_))))))
  refine AY rfl (.tmp rfl (.tmp rfl .n)) ?_
  intro w1 hS; refine ⟨?_, hS.Aj⟩; rw [show Words.Nb z = _ from (A9 c1)]; rfl
 refine Gs (Gt (Af rfl rfl) (Ga rfl (Gn (.t2 4 7) ?_)))
 refine Gc (fun c2 => ?_) (fun c2 => ?_)
 ·
  refine Gs (Ga rfl (Ga rfl (Gn (.t2 2 3) (Ab (AP (AD ?_))))))
  refine AY rfl (.tmp rfl (.tmp rfl .n)) ?_
  intro w1 hS; refine ⟨?_, hS.Aj⟩; rw [show Words.Nb z = _ from ((AU c1).trans (A9 c2))]; rfl
 refine Gs (Gt (Af rfl rfl) (Ga rfl (Gn (.t1 9) ?_)))
 refine Gc (fun c3 => ?_) (fun c3 => ?_)
 ·
  refine Gs (Ga rfl (Ga rfl (Gn (.t2 2 3) (Ab (AP (AD ?_))))))
  refine AY rfl (.tmp rfl (.tmp rfl .n)) ?_
  intro w1 hS; refine ⟨?_, hS.Aj⟩; rw [show Words.Nb z = _ from ((AU c1).trans ((AU c2).trans (A9 c3)))]; rfl
 refine Aa ?_
 refine AB (.nil _) ?_
 refine AT (AA (Gs (Ga rfl (Ga rfl (AO (AA (Ab ?_)))))))
 refine AY rfl (.tmp rfl (.tmp rfl .n)) ?_
 intro w1 hS; refine ⟨?_, hS.Aj⟩; rw [show Words.Nb z = _ from ((AU c1).trans ((AU c2).trans (AU c3)))]; rfl
theorem LL (s : Aq) (hs : s.length ≤ 4000000) (w : World) (gl0 : GV 0 AH.C0 w) (gl1 : F8 7 w) (gl2 : F8 8 w) : EL Tryz.prog 122 #[BQ s] w fun v w' => v = .tuple #[.agg (Words.parse s).1.enc.toArray, .int .i64 (Words.parse s).2] ∧ B4 w w' := by
 refine Am [] [] Tryz.func122 rfl rfl rfl (St.start w []) ?_
 refine Gs ?_
 refine BF rfl K0 rfl (fun b1 => ?_)
 refine Ga rfl (Gn (.t2 0 2) (Gs (Ga rfl (AO (AA (Gs (Gm rfl ?_)))))))
 refine Ah rfl Y1 (.c rfl .n) .n (LM _ hs) (fun v1 B hv => ?_)
 obtain ⟨y2, rfl, y3, rfl⟩ := hv
 refine Ga rfl (Gn (.t4 0 2 4 5) (B7 (Gm rfl (Gt (Ao rfl Tryz.underlying52 rfl) (Gt (Af rfl rfl) (Gn (.t5 0 2 4 5 20) ?_))))))
 refine Gc (fun c1 => ?_) (fun c1 => ?_)
 ·
  have hlen := y3
  (try simp only [Hd.cut] at c1)
  rw [hlen] at c1
  refine Gs (Gm rfl ?_)
  refine DH rfl He rfl (.c rfl .n) .n (Bn _) (fun v5 B hv => ?_)
  obtain ⟨rfl, rfl⟩ := hv
  refine Gt (AK rfl rfl) (Gt (AK rfl rfl) ?_)
  refine AR (AJ (AS.id Order.fl.len Order.fl.one) rfl rfl rfl Dl rfl (.t .h)) ?_
  refine Ga rfl (Gn (.t2 2 3) (Ab (AD ?_)))
  refine AY rfl (.cell rfl .m1 (.inl ⟨(by rw [Order.fl.len]; exact B2), rfl⟩) (.tmp rfl .n)) ?_
  intro w1 hS; refine ⟨?_, hS.Aj⟩; rw [show Words.parse s = _ from (A9 c1)]; rfl
 have c1p := kz c1
 have hlen := y3
 (try simp only [Hd.cut] at c1)
 rw [hlen] at c1
 refine Aa ?_
 refine AB (.t4 0 2 4 5) ?_
 refine AA (Gs (Gm rfl ?_))
 refine Gt (Bm Ij (by decide) (Kn.own .m0) rfl rfl (by omega) (by first | omega | (simp only [Hd.cut] at *; omega) | (simp [Hd.cut] at q ⊢; omega))) ?_
 refine Gt (DL rfl CN (Kn.own .m0) (by first | omega | (simp only [List.length_drop, Hd.cut] at *; omega) | (simp [Hd.cut] at q ⊢; omega))) ?_
 refine A7 rfl Xj (.c rfl .n) (fun w hS => IW _ w (gl0.st hS)) ?_
 refine Gm rfl (Gt (AK rfl rfl) (Gt (AK rfl rfl) (Ga rfl (Ga rfl (Gn (.t6 0 2 4 5 6 7) (B7 (Gm rfl ?_)))))))
 refine Gt (CK rfl rfl) (Gn (.t7 0 2 4 5 6 7 33) ?_)
 refine Gc (fun c2 => ?_) (fun c2 => ?_)
 ·
  refine Gs (Gm rfl (Gm rfl ?_))
  refine DH rfl He rfl (.c rfl .n) .n (Bn _) (fun v6 B hv => ?_)
  obtain ⟨rfl, rfl⟩ := hv
  refine Gt (AK rfl rfl) (Gt (AK rfl rfl) ?_)
  refine AR (AJ (AS.id Order.fl.len Order.fl.one) rfl rfl rfl Dl rfl (.t .h)) ?_
  refine Ga rfl (Gn (.t2 2 3) (Ab (AD ?_)))
  refine AY rfl (.cell rfl .m1 (.inl ⟨(by rw [Order.fl.len]; exact B2), rfl⟩) (.tmp rfl .n)) ?_
  intro w1 hS; refine ⟨?_, hS.Aj⟩; rw [show Words.parse s = _ from ((AU c1).trans (A9 c2))]; rfl
 have c2p := kz c2
 refine Aa ?_
 refine AB (.t5 0 2 4 5 6) ?_
 refine AA (Gs (Gm rfl (Gt (BA Qe K0 rfl (.cons Order.l0 rfl rfl rfl .nil)) ?_)))
 refine BF rfl K0 rfl (fun b2 => ?_)
 refine AR (AJ (AS.id Order.fl.len Order.fl.one) rfl rfl rfl Dl rfl .h) ?_
 refine Gn (.t6 0 2 4 5 6 8) (Gs (Gm rfl ?_))
 refine F2 DB rfl Tryz.underlying52 Ei rfl rfl (by decide) (by first | omega | (simp only [Hd.cut]; omega) | (simp only [Hd.cut] at *; omega)) (fun _ => (.t .h)) ?_
 refine Ga rfl (Gn (.t6 0 2 4 5 6 8) (Ap (Ae (Gs (Gm rfl (Gt (Af rfl rfl) (Ga rfl ?_)))))))
 refine Gn (.t7 0 2 4 5 6 8 43) ?_
 refine Gc (fun c3 => ?_) (fun c3 => ?_)
 ·
  have c3p := kz c3
  refine Gs (Gm rfl ?_)
  refine A7 rfl Zt (.c rfl (.c rfl .n)) (fun w hS => Ic _ (by omega) w) ?_
  refine A7 rfl ZZ (.c rfl (.c rfl .n)) (fun w hS => Ho _ 32 (by have := Words.Kq 32 s; omega) w) ?_
  refine Gm rfl (Gt (AK rfl rfl) (Gt (AK rfl rfl) (Gt (AK rfl rfl) (Ga rfl (Ga rfl (Ga rfl (Gn (.t4 2 4 8 10) ?_)))))))
  refine B7 (Gm rfl ?_)
  refine A7 rfl Zy (.c rfl (.c rfl .n)) (fun w hS => HL _ (by have h1 := Words.Kq 32 s; have h2 := Words.MB 32 (Words.Ol 32 s); omega) w) ?_
  refine Gt (Ai Pl rfl) ?_
  refine AR (AJ Order.l5 rfl rfl rfl Ei rfl .h) ?_
  refine Gn (.t3 2 4 8) (Gs (Gt (Ai Pl rfl) (Gt (AG rfl CN .m0 Order.l5 rfl rfl) (Gt (Bs rfl rfl) (Gn (.t4 2 4 8 58) ?_)))))
  refine Gc (fun c4 => ?_) (fun c4 => ?_)
  ·
   refine Gs (Gm rfl ?_)
   refine DH rfl He rfl (.c rfl .n) .n (Bn _) (fun v7 B hv => ?_)
   obtain ⟨rfl, rfl⟩ := hv
   refine Gt (AK rfl rfl) (Gt (AK rfl rfl) ?_)
   refine AR (AJ (AS.id Order.fl.len Order.fl.one) rfl rfl rfl Dl rfl (.t (.t .h))) ?_
   refine Ga rfl (Gn (.t2 2 3) (Ab (AD (AP (AD ?_)))))
   refine AY rfl (.cell rfl .m2 (.inl ⟨(by rw [Order.fl.len]; exact B2), rfl⟩) (.tmp rfl .n)) ?_
   intro w1 hS; refine ⟨?_, hS.Aj⟩; rw [show Words.parse s = _ from ((AU c1).trans ((AU c2).trans ((A9 c3).trans (A9 c4))))]; rfl
  refine Aa ?_
  refine AB (.t2 2 8) ?_
  refine AA (Gs (Gt (AZ rfl B2 .m0 (AS.id Order.fl.len Order.fl.one) rfl) ?_))
  refine AR (AJ (AS.id Order.fl.len Order.fl.one) rfl rfl rfl Dl rfl (.t (.t .h))) ?_
  refine Ga rfl (Gn (.t2 2 3) (Ab (AP (AD ?_))))
  refine AY rfl (.cell rfl .m2 (.inl ⟨(by rw [Order.fl.len]; exact B2), rfl⟩) (.tmp rfl .n)) ?_
  intro w1 hS; refine ⟨?_, hS.Aj⟩; rw [show Words.parse s = _ from ((AU c1).trans ((AU c2).trans ((A9 c3).trans (AU c4))))]; rfl
 have c3p := kz c3
 refine Gs (Gm rfl (Gt (HS rfl rfl) (Gm rfl (BU 67 rfl rfl (fun q => AE rfl) (BU 67 rfl rfl (fun q => CL (cF rfl q) rfl) ?_)))))
 refine Gt (BP rfl rfl (fun h => by rw [h]; rfl)) ?_
 refine Ga rfl (Gn (.t6 2 4 5 6 8 64) ?_)
 refine Gc (fun c5 => ?_) (fun c5 => ?_)
 ·
  refine B7 (Gm rfl (Gt (Ao rfl Tryz.underlying52 rfl) (Gt (CS rfl rfl) (Gn (.t4 2 4 8 73) ?_))))
  refine Gc (fun c6 => ?_) (fun c6 => ?_)
  ·
   (try simp only [Hd.cut] at c6)
   rw [hlen] at c6
   refine Gs (Gm rfl ?_)
   refine DH rfl He rfl (.c rfl .n) .n (Bn _) (fun v8 B hv => ?_)
   obtain ⟨rfl, rfl⟩ := hv
   refine Gt (AK rfl rfl) (Gt (AK rfl rfl) ?_)
   refine AR (AJ (AS.id Order.fl.len Order.fl.one) rfl rfl rfl Dl rfl (.t (.t .h))) ?_
   refine Ga rfl (Gn (.t2 2 3) (Ab (AD (AP (AD ?_)))))
   refine AY rfl (.cell rfl .m2 (.inl ⟨(by rw [Order.fl.len]; exact B2), rfl⟩) (.tmp rfl .n)) ?_
   intro w1 hS; refine ⟨?_, hS.Aj⟩; rw [show Words.parse s = _ from ((AU c1).trans ((AU c2).trans ((AU c3).trans ((A9 c5).trans (A9 c6)))))]; rfl
  (try simp only [Hd.cut] at c6)
  rw [hlen] at c6
  refine Aa ?_
  refine AB (.t2 2 8) ?_
  refine AA (Gs (Gt (AZ rfl B2 .m0 (AS.id Order.fl.len Order.fl.one) rfl) ?_))
  refine AR (AJ (AS.id Order.fl.len Order.fl.one) rfl rfl rfl Dl rfl (.t (.t .h))) ?_
  refine Ga rfl (Gn (.t2 2 3) (Ab (AP (AD ?_))))
  refine AY rfl (.cell rfl .m2 (.inl ⟨(by rw [Order.fl.len]; exact B2), rfl⟩) (.tmp rfl .n)) ?_
  intro w1 hS; refine ⟨?_, hS.Aj⟩; rw [show Words.parse s = _ from ((AU c1).trans ((AU c2).trans ((AU c3).trans ((A9 c5).trans (AU c6)))))]; rfl
 have c5p := kz c5
 refine Gs (Gm rfl (Gt (Ao rfl Tryz.underlying52 rfl) (Gt (Af rfl rfl) (Ga rfl (Gn (.t6 2 4 5 6 8 79) ?_)))))
 refine Gc (fun c7 => ?_) (fun c7 => ?_)
 ·
  (try simp only [Hd.cut] at c7)
  rw [hlen] at c7
  refine Gs (Gm rfl ?_)
  refine DH rfl He rfl (.c rfl .n) .n (Bn _) (fun v9 B hv => ?_)
  obtain ⟨rfl, rfl⟩ := hv
  refine Gt (AK rfl rfl) (Gt (AK rfl rfl) ?_)
  refine AR (AJ (AS.id Order.fl.len Order.fl.one) rfl rfl rfl Dl rfl (.t (.t .h))) ?_
  refine Ga rfl (Gn (.t2 2 3) (Ab (AP (AD ?_))))
  refine AY rfl (.cell rfl .m2 (.inl ⟨(by rw [Order.fl.len]; exact B2), rfl⟩) (.tmp rfl .n)) ?_
  intro w1 hS; refine ⟨?_, hS.Aj⟩; rw [show Words.parse s = _ from ((AU c1).trans ((AU c2).trans ((AU c3).trans ((AU c5).trans (A9 c7)))))]; rfl
 have c7p := kz c7
 (try simp only [Hd.cut] at c7)
 rw [hlen] at c7
 refine Aa ?_
 refine AB (.t5 2 4 5 6 8) ?_
 refine AT (AA (B7 (Gm rfl (Gt (Af rfl rfl) (Gm rfl (BU 89 rfl rfl (fun q => AE rfl) (BU 89 rfl rfl (fun q => Af (cF rfl q) rfl) ?_)))))))
 refine Gt (BP rfl rfl (fun h => by rw [h]; rfl)) ?_
 refine Gn (.t6 2 4 5 6 8 92) ?_
 refine Gc (fun c8 => ?_) (fun c8 => ?_)
 ·
  have c8p := kz c8
  refine Gs (Gm rfl ?_)
  refine Gt (Bm Ij (by decide) (Kn.own .m1) rfl rfl (by omega) (by first | omega | (simp only [Hd.cut] at *; omega) | (simp [Hd.cut] at q ⊢; omega))) ?_
  refine Gt (DL rfl CN (Kn.own .m1) (by first | omega | (simp only [List.length_drop, Hd.cut] at *; omega) | (simp [Hd.cut] at q ⊢; omega))) ?_
  refine A7 rfl Xj (.c rfl .n) (fun w hS => IW _ w (gl0.st hS)) ?_
  refine Gm rfl (Gt (AK rfl rfl) (Gt (AK rfl rfl) (Ga rfl (Ga rfl (Gn (.t7 2 4 5 6 8 12 13) (Gs (Gm rfl ?_)))))))
  refine Gt (Af rfl rfl) (Gm rfl (Bh 102 rfl rfl (fun q => AE rfl) (Bh 102 rfl rfl (fun q => A6 (Bc rfl q) rfl) (Gt (BI rfl rfl (fun h => h)) (Gm rfl (Bh 106 rfl rfl (fun q => AE rfl) (Bh 106 rfl rfl (fun q => Ao rfl Tryz.underlying52 (Bc rfl q)) ?_)))))))
  refine Bh 106 rfl rfl (fun q => Af (Bc rfl q) rfl) (Gt (BI rfl rfl (fun h => h)) (Gn (.t7 2 4 5 6 8 12 110) ?_))
  refine Gc (fun c9 => ?_) (fun c9 => ?_)
  ·
   have c9p := kz c9
   (try simp only [Hd.cut] at c9)
   rw [hlen] at c9
   have hd : 0 ≤ (Words.verb (((Words.words s).drop (1 : Int).toNat).getD (0 : Int).toNat [])).1 ∧ (Words.verb (((Words.words s).drop (1 : Int).toNat).getD (0 : Int).toNat [])).1 < 6 := ⟨(Words.Vj _).1, by have h := c9; rw [Bool.and_eq_true, Bool.and_eq_true] at h; exact of_decide_eq_true h.1.2⟩
   refine Gs (Gm rfl ?_)
   refine Gt (AQ V0 rfl rfl (by first | omega | (simp only [Hd.cut]; omega) | (simp only [Hd.cut] at *; omega)) (by first | omega | (simp only [Hd.cut]; omega) | (simp only [Hd.cut] at *; omega))) ?_
   refine Gt (O5 gl0 rfl CN (AH.NS hd.1 hd.2)) (Gt (Ai FE rfl) ?_)
   refine AR (AJ Order.l3 rfl rfl rfl Ei rfl .h) ?_
   refine Gt (Ai Ft rfl) ?_
   refine AR (AJ Order.l1 rfl rfl rfl Cy rfl .h) ?_
   refine Gn (.t2 2 8) (Gs (Gt (AZ rfl B2 .m0 (AS.id Order.fl.len Order.fl.one) rfl) ?_))
   refine AR (AJ (AS.id Order.fl.len Order.fl.one) rfl rfl rfl Dl rfl (.t (.t .h))) ?_
   refine Ga rfl (Gn (.t2 2 3) (Ab (AD ?_)))
   refine AY rfl (.cell rfl .m2 (.inl ⟨(by rw [Order.fl.len]; exact B2), rfl⟩) (.tmp rfl .n)) ?_
   intro w1 hS; refine ⟨?_, hS.Aj⟩; rw [show Words.parse s = _ from ((AU c1).trans ((AU c2).trans ((AU c3).trans ((AU c5).trans ((AU c7).trans ((A9 c8).trans (A9 c9)))))))]; rfl
  have c9p := kz c9
  (try simp only [Hd.cut] at c9)
  rw [hlen] at c9
  refine Aa ?_
  refine AB (.t5 2 4 5 6 8) ?_
  refine AA (B7 (Gm rfl ?_))
  refine Gt (Bm Ij (by decide) (Kn.own .m1) rfl rfl (by omega) (by first | omega | (simp only [Hd.cut] at *; omega) | (simp [Hd.cut] at q ⊢; omega))) ?_
  refine Gt (DL rfl CN (Kn.own .m1) (by first | omega | (simp only [List.length_drop, Hd.cut] at *; omega) | (simp [Hd.cut] at q ⊢; omega))) ?_
  refine A7 rfl Sa (.c rfl .n) (fun w hS => Et _ (by have := Words.LG s 0 1; exact Nat.le_trans this (by omega)) w (gl1.st hS) (gl2.st hS)) ?_
  refine Gm rfl (Gt (AK rfl rfl) (Gt (AK rfl rfl) (Gt (AK rfl rfl) (Gt (AK rfl rfl) (Gt (Ai Ft rfl) ?_)))))
  refine AR (AJ Order.l1 rfl rfl rfl Cy rfl .h) ?_
  refine Gt (Ai FE rfl) ?_
  refine AR (AJ Order.l3 rfl rfl rfl Ei rfl .h) ?_
  refine Gt (Ai GO rfl) ?_
  refine AR (AJ Order.l2 rfl rfl rfl Jf rfl .h) ?_
  refine Ga rfl (Gn (.t6 2 4 5 6 7 8) (Gs (Gm rfl (Gt (CK rfl rfl) (Gm rfl (BU 131 rfl rfl (fun q => Ai GO rfl) (BU 131 rfl rfl (fun q => AG (cF rfl q) DV .m0 Order.l2 rfl rfl) ?_)))))))
  refine BU 131 rfl rfl (fun q => AE (cF rfl q)) ?_
  refine C4 (t := 134) rfl rfl rfl (fun qc q => AE rfl) ?_
  refine Sg (t := 134) rfl rfl rfl (fun qc q => by have q1 := q; have qc1 := qc; (try simp at q1 qc1); exact Dp Xb (.c (Bc rfl (by rw [qc, q]; rfl)) .n) (fun w hS => IX _ w)) ?_
  refine C4 (t := 134) rfl rfl rfl (fun qc q => BS (Bc rfl (by rw [qc, q]; rfl))) ?_
  refine BU 131 rfl rfl (fun q => BI (cF rfl q) rfl (fun h => by rw [q, h]; rfl)) ?_
  refine Gt (BP rfl rfl (fun h => by rw [h]; rfl)) ?_
  refine Gn (.t6 2 4 5 6 8 139) ?_
  refine Gc (fun c10 => ?_) (fun c10 => ?_)
  ·
   refine Gs (Gm rfl ?_)
   refine DH rfl He rfl (.c rfl .n) .n (Bn _) (fun v10 B hv => ?_)
   obtain ⟨rfl, rfl⟩ := hv
   refine Gt (AK rfl rfl) (Gt (AK rfl rfl) ?_)
   refine AR (AJ (AS.id Order.fl.len Order.fl.one) rfl rfl rfl Dl rfl (.t (.t .h))) ?_
   refine Ga rfl (Gn (.t2 2 3) (Ab (AD ?_)))
   refine AY rfl (.cell rfl .m2 (.inl ⟨(by rw [Order.fl.len]; exact B2), rfl⟩) (.tmp rfl .n)) ?_
   intro w1 hS; refine ⟨?_, hS.Aj⟩; rw [show Words.parse s = _ from ((AU c1).trans ((AU c2).trans ((AU c3).trans ((AU c5).trans ((AU c7).trans ((A9 c8).trans ((AU c9).trans (A9 c10))))))))]; rfl
  have c10p := kz c10
  refine Aa ?_
  refine AB (.t5 2 4 5 6 8) ?_
  refine AA (Gs (Gm rfl ?_))
  refine A7 rfl Xk (.c rfl .n) (fun w hS => Hm _ w) ?_
  refine Gm rfl (Gt (AK rfl rfl) (Gt (AK rfl rfl) (Ga rfl (Ga rfl (Gn (.t6 2 4 5 8 14 15) (Gs (Gm rfl ?_)))))))
  refine F2 DB rfl Tryz.underlying52 Ei rfl rfl (by decide) (by first | omega | (simp only [Hd.cut]; omega) | (simp only [Hd.cut] at *; omega)) (fun _ => (.t .h)) ?_
  refine Ga rfl (Gn (.t6 2 4 5 8 14 15) (B7 (Gm rfl (Gt (Ao rfl Tryz.underlying52 rfl) (Gt (CS rfl rfl) (Gm rfl (Bh 154 rfl rfl (fun q => AE rfl) ?_)))))))
  refine Bh 154 rfl rfl (fun q => Dj (Bc rfl q) rfl) (Gt (BI rfl rfl (fun h => h)) (Gm rfl (Bh 158 rfl rfl (fun q => AE rfl) ?_)))
  refine Bh 158 rfl rfl (fun q => by have q1 := q; (try simp at q1); exact Bm Ij (by decide) (Kn.own .m1) (Bc rfl q) rfl (by omega) (by first | omega | (simp only [Hd.cut] at *; omega) | (simp [Hd.cut] at q ⊢; omega))) ?_
  refine Bh 158 rfl rfl (fun q => by have q1 := q; (try simp at q1); exact DL (Bc rfl q) CN (Kn.own .m1) (by first | omega | (simp only [List.length_drop, Hd.cut] at *; omega) | (simp [Hd.cut] at q ⊢; omega))) ?_
  refine Bh 158 rfl rfl (fun q => AE rfl) (Bh 158 rfl rfl (fun q => Bs (Bc rfl q) (Bc rfl q)) (Gt (BI rfl rfl (fun h => h)) (Gn (.t7 2 4 5 8 14 15 164) ?_)))
  refine Gc (fun c11 => ?_) (fun c11 => ?_)
  ·
   have c11p := kz c11
   (try simp only [Hd.cut] at c11)
   rw [hlen] at c11
   refine Gs (Gm rfl ?_)
   refine F2 DB rfl Tryz.underlying52 Ei rfl rfl (by decide) (by first | omega | (simp only [Hd.cut]; omega) | (simp only [Hd.cut] at *; omega)) (fun _ => (.t .h)) ?_
   refine Ga rfl (Gn (.t6 2 4 5 8 14 15) (Gs (Gm rfl (Gt (Ao rfl Tryz.underlying52 rfl) (Gt (Af rfl rfl) (Gn (.t7 2 4 5 8 14 15 169) ?_))))))
   refine Gc (fun c12 => ?_) (fun c12 => ?_)
   ·
    (try simp only [Hd.cut] at c12)
    rw [hlen] at c12
    refine Gs (Gm rfl ?_)
    refine DH rfl He rfl (.c rfl .n) .n (Bn _) (fun v11 B hv => ?_)
    obtain ⟨rfl, rfl⟩ := hv
    refine Gt (AK rfl rfl) (Gt (AK rfl rfl) ?_)
    refine AR (AJ (AS.id Order.fl.len Order.fl.one) rfl rfl rfl Dl rfl (.t (.t .h))) ?_
    refine Ga rfl (Gn (.t2 2 3) (Ab (AD ?_)))
    refine AY rfl (.cell rfl .m2 (.inl ⟨(by rw [Order.fl.len]; exact B2), rfl⟩) (.tmp rfl .n)) ?_
    intro w1 hS; refine ⟨?_, hS.Aj⟩; rw [show Words.parse s = _ from ((AU c1).trans ((AU c2).trans ((AU c3).trans ((AU c5).trans ((AU c7).trans ((A9 c8).trans ((AU c9).trans ((AU c10).trans ((A9 c11).trans (A9 c12))))))))))]; rfl
   have c12p := kz c12
   (try simp only [Hd.cut] at c12)
   rw [hlen] at c12
   refine Aa ?_
   refine AB (.t6 2 4 5 8 14 15) ?_
   refine AA (Ap (Ae (Gs (Gm rfl (Gt (Ao rfl Tryz.underlying52 rfl) (Gt (Af rfl rfl) (Gm rfl ?_)))))))
   refine Bh 178 rfl rfl (fun q => AE rfl) (Bh 178 rfl rfl (fun q => BS (Bc rfl q)) (Gt (BI rfl rfl (fun h => h)) (Ga rfl (Gn (.t6 2 4 5 8 14 174) ?_))))
   refine Gc (fun c13 => ?_) (fun c13 => ?_)
   ·
    (try simp only [Hd.cut] at c13)
    rw [hlen] at c13
    refine Gs (Gt (AZ rfl B2 .m0 (AS.id Order.fl.len Order.fl.one) rfl) ?_)
    refine AR (AJ (AS.id Order.fl.len Order.fl.one) rfl rfl rfl Dl rfl (.t (.t .h))) ?_
    refine Ga rfl (Gn (.t2 2 3) (Ab (AP (AD ?_))))
    refine AY rfl (.cell rfl .m2 (.inl ⟨(by rw [Order.fl.len]; exact B2), rfl⟩) (.tmp rfl .n)) ?_
    intro w1 hS; refine ⟨?_, hS.Aj⟩; rw [show Words.parse s = _ from ((AU c1).trans ((AU c2).trans ((AU c3).trans ((AU c5).trans ((AU c7).trans ((A9 c8).trans ((AU c9).trans ((AU c10).trans ((A9 c11).trans ((AU c12).trans (A9 c13)))))))))))]; rfl
   have c13p := kz c13
   (try simp only [Hd.cut] at c13)
   rw [hlen] at c13
   refine Gs (Gm rfl (Gt (Ao rfl Tryz.underlying52 rfl) (Gt (CK rfl rfl) (Gm rfl (BU 187 rfl rfl (fun q => AE rfl) (BU 187 rfl rfl (fun q => Bs (cF rfl q) rfl) ?_))))))
   refine Gt (BP rfl rfl (fun h => by rw [h]; rfl)) ?_
   refine Ga rfl (Gn (.t5 2 4 5 8 183) ?_)
   refine Gc (fun c14 => ?_) (fun c14 => ?_)
   ·
    (try simp only [Hd.cut] at c14)
    rw [hlen] at c14
    refine Gs (Gm rfl ?_)
    refine DH rfl He rfl (.c rfl .n) .n (Bn _) (fun v12 B hv => ?_)
    obtain ⟨rfl, rfl⟩ := hv
    refine Gt (AK rfl rfl) (Gt (AK rfl rfl) ?_)
    refine AR (AJ (AS.id Order.fl.len Order.fl.one) rfl rfl rfl Dl rfl (.t (.t .h))) ?_
    refine Ga rfl (Gn (.t2 2 3) (Ab (AP (AD ?_))))
    refine AY rfl (.cell rfl .m2 (.inl ⟨(by rw [Order.fl.len]; exact B2), rfl⟩) (.tmp rfl .n)) ?_
    intro w1 hS; refine ⟨?_, hS.Aj⟩; rw [show Words.parse s = _ from ((AU c1).trans ((AU c2).trans ((AU c3).trans ((AU c5).trans ((AU c7).trans ((A9 c8).trans ((AU c9).trans ((AU c10).trans ((A9 c11).trans ((AU c12).trans ((AU c13).trans (A9 c14))))))))))))]; rfl
   have c14p := kz c14
   (try simp only [Hd.cut] at c14)
   rw [hlen] at c14
   refine Aa ?_
   refine AB (.t3 2 5 8) ?_
   refine AT (AA (Gs (Gm rfl ?_)))
   refine Gt (Bm Ij (by decide) (Kn.own .m1) rfl rfl (by omega) (by first | omega | (simp only [Hd.cut] at *; omega) | (simp [Hd.cut] at q ⊢; omega))) ?_
   refine Gt (DL rfl CN (Kn.own .m1) (by first | omega | (simp only [List.length_drop, Hd.cut] at *; omega) | (simp [Hd.cut] at q ⊢; omega))) ?_
   refine Gt (Ai HG rfl) ?_
   refine AR (AJ Order.l4 rfl rfl rfl Ei rfl .h) ?_
   refine Gn (.t2 2 8) (Gs (Gt (AZ rfl B2 .m0 (AS.id Order.fl.len Order.fl.one) rfl) ?_))
   refine AR (AJ (AS.id Order.fl.len Order.fl.one) rfl rfl rfl Dl rfl (.t (.t .h))) ?_
   refine Ga rfl (Gn (.t2 2 3) (Ab ?_))
   refine AY rfl (.cell rfl .m2 (.inl ⟨(by rw [Order.fl.len]; exact B2), rfl⟩) (.tmp rfl .n)) ?_
   intro w1 hS; refine ⟨?_, hS.Aj⟩; rw [show Words.parse s = _ from ((AU c1).trans ((AU c2).trans ((AU c3).trans ((AU c5).trans ((AU c7).trans ((A9 c8).trans ((AU c9).trans ((AU c10).trans ((A9 c11).trans ((AU c12).trans ((AU c13).trans (AU c14))))))))))))]; rfl
  have c11p := kz c11
  (try simp only [Hd.cut] at c11)
  rw [hlen] at c11
  refine Aa ?_
  refine AB (.t6 2 4 5 8 14 15) ?_
  refine AA (Ap (Ae (Gs (Gm rfl (Gt (Ao rfl Tryz.underlying52 rfl) (Gt (Af rfl rfl) (Gm rfl ?_)))))))
  refine Bh 178 rfl rfl (fun q => AE rfl) (Bh 178 rfl rfl (fun q => BS (Bc rfl q)) (Gt (BI rfl rfl (fun h => h)) (Ga rfl (Gn (.t6 2 4 5 8 14 174) ?_))))
  refine Gc (fun c15 => ?_) (fun c15 => ?_)
  ·
   (try simp only [Hd.cut] at c15)
   rw [hlen] at c15
   refine Gs (Gt (AZ rfl B2 .m0 (AS.id Order.fl.len Order.fl.one) rfl) ?_)
   refine AR (AJ (AS.id Order.fl.len Order.fl.one) rfl rfl rfl Dl rfl (.t (.t .h))) ?_
   refine Ga rfl (Gn (.t2 2 3) (Ab (AP (AD ?_))))
   refine AY rfl (.cell rfl .m2 (.inl ⟨(by rw [Order.fl.len]; exact B2), rfl⟩) (.tmp rfl .n)) ?_
   intro w1 hS; refine ⟨?_, hS.Aj⟩; rw [show Words.parse s = _ from ((AU c1).trans ((AU c2).trans ((AU c3).trans ((AU c5).trans ((AU c7).trans ((A9 c8).trans ((AU c9).trans ((AU c10).trans ((AU c11).trans (A9 c15))))))))))]; rfl
  have c15p := kz c15
  (try simp only [Hd.cut] at c15)
  rw [hlen] at c15
  refine Gs (Gm rfl (Gt (Ao rfl Tryz.underlying52 rfl) (Gt (CK rfl rfl) (Gm rfl (BU 187 rfl rfl (fun q => AE rfl) (BU 187 rfl rfl (fun q => Bs (cF rfl q) rfl) ?_))))))
  refine Gt (BP rfl rfl (fun h => by rw [h]; rfl)) ?_
  refine Ga rfl (Gn (.t5 2 4 5 8 183) ?_)
  refine Gc (fun c16 => ?_) (fun c16 => ?_)
  ·
   (try simp only [Hd.cut] at c16)
   rw [hlen] at c16
   refine Gs (Gm rfl ?_)
   refine DH rfl He rfl (.c rfl .n) .n (Bn _) (fun v13 B hv => ?_)
   obtain ⟨rfl, rfl⟩ := hv
   refine Gt (AK rfl rfl) (Gt (AK rfl rfl) ?_)
   refine AR (AJ (AS.id Order.fl.len Order.fl.one) rfl rfl rfl Dl rfl (.t (.t .h))) ?_
   refine Ga rfl (Gn (.t2 2 3) (Ab (AP (AD ?_))))
   refine AY rfl (.cell rfl .m2 (.inl ⟨(by rw [Order.fl.len]; exact B2), rfl⟩) (.tmp rfl .n)) ?_
   intro w1 hS; refine ⟨?_, hS.Aj⟩; rw [show Words.parse s = _ from ((AU c1).trans ((AU c2).trans ((AU c3).trans ((AU c5).trans ((AU c7).trans ((A9 c8).trans ((AU c9).trans ((AU c10).trans ((AU c11).trans ((AU c15).trans (A9 c16)))))))))))]; rfl
  have c16p := kz c16
  (try simp only [Hd.cut] at c16)
  rw [hlen] at c16
  refine Aa ?_
  refine AB (.t3 2 5 8) ?_
  refine AT (AA (Gs (Gm rfl ?_)))
  refine Gt (Bm Ij (by decide) (Kn.own .m1) rfl rfl (by omega) (by first | omega | (simp only [Hd.cut] at *; omega) | (simp [Hd.cut] at q ⊢; omega))) ?_
  refine Gt (DL rfl CN (Kn.own .m1) (by first | omega | (simp only [List.length_drop, Hd.cut] at *; omega) | (simp [Hd.cut] at q ⊢; omega))) ?_
  refine Gt (Ai HG rfl) ?_
  refine AR (AJ Order.l4 rfl rfl rfl Ei rfl .h) ?_
  refine Gn (.t2 2 8) (Gs (Gt (AZ rfl B2 .m0 (AS.id Order.fl.len Order.fl.one) rfl) ?_))
  refine AR (AJ (AS.id Order.fl.len Order.fl.one) rfl rfl rfl Dl rfl (.t (.t .h))) ?_
  refine Ga rfl (Gn (.t2 2 3) (Ab ?_))
  refine AY rfl (.cell rfl .m2 (.inl ⟨(by rw [Order.fl.len]; exact B2), rfl⟩) (.tmp rfl .n)) ?_
  intro w1 hS; refine ⟨?_, hS.Aj⟩; rw [show Words.parse s = _ from ((AU c1).trans ((AU c2).trans ((AU c3).trans ((AU c5).trans ((AU c7).trans ((A9 c8).trans ((AU c9).trans ((AU c10).trans ((AU c11).trans ((AU c15).trans (AU c16)))))))))))]; rfl
 have c8p := kz c8
 refine Aa ?_
 refine AB (.t5 2 4 5 6 8) ?_
 refine AA (B7 (Gm rfl ?_))
 refine Gt (Bm Ij (by decide) (Kn.own .m1) rfl rfl (by omega) (by first | omega | (simp only [Hd.cut] at *; omega) | (simp [Hd.cut] at q ⊢; omega))) ?_
 refine Gt (DL rfl CN (Kn.own .m1) (by first | omega | (simp only [List.length_drop, Hd.cut] at *; omega) | (simp [Hd.cut] at q ⊢; omega))) ?_
 refine A7 rfl Sa (.c rfl .n) (fun w hS => Et _ (by have := Words.LG s 0 1; exact Nat.le_trans this (by omega)) w (gl1.st hS) (gl2.st hS)) ?_
 refine Gm rfl (Gt (AK rfl rfl) (Gt (AK rfl rfl) (Gt (AK rfl rfl) (Gt (AK rfl rfl) (Gt (Ai Ft rfl) ?_)))))
 refine AR (AJ Order.l1 rfl rfl rfl Cy rfl .h) ?_
 refine Gt (Ai FE rfl) ?_
 refine AR (AJ Order.l3 rfl rfl rfl Ei rfl .h) ?_
 refine Gt (Ai GO rfl) ?_
 refine AR (AJ Order.l2 rfl rfl rfl Jf rfl .h) ?_
 refine Ga rfl (Gn (.t6 2 4 5 6 7 8) (Gs (Gm rfl (Gt (CK rfl rfl) (Gm rfl (BU 131 rfl rfl (fun q => Ai GO rfl) (BU 131 rfl rfl (fun q => AG (cF rfl q) DV .m0 Order.l2 rfl rfl) ?_)))))))
 refine BU 131 rfl rfl (fun q => AE (cF rfl q)) ?_
 refine C4 (t := 134) rfl rfl rfl (fun qc q => AE rfl) ?_
 refine Sg (t := 134) rfl rfl rfl (fun qc q => by have q1 := q; have qc1 := qc; (try simp at q1 qc1); exact Dp Xb (.c (Bc rfl (by rw [qc, q]; rfl)) .n) (fun w hS => IX _ w)) ?_
 refine C4 (t := 134) rfl rfl rfl (fun qc q => BS (Bc rfl (by rw [qc, q]; rfl))) ?_
 refine BU 131 rfl rfl (fun q => BI (cF rfl q) rfl (fun h => by rw [q, h]; rfl)) ?_
 refine Gt (BP rfl rfl (fun h => by rw [h]; rfl)) ?_
 refine Gn (.t6 2 4 5 6 8 139) ?_
 refine Gc (fun c17 => ?_) (fun c17 => ?_)
 ·
  refine Gs (Gm rfl ?_)
  refine DH rfl He rfl (.c rfl .n) .n (Bn _) (fun v14 B hv => ?_)
  obtain ⟨rfl, rfl⟩ := hv
  refine Gt (AK rfl rfl) (Gt (AK rfl rfl) ?_)
  refine AR (AJ (AS.id Order.fl.len Order.fl.one) rfl rfl rfl Dl rfl (.t (.t .h))) ?_
  refine Ga rfl (Gn (.t2 2 3) (Ab (AD ?_)))
  refine AY rfl (.cell rfl .m2 (.inl ⟨(by rw [Order.fl.len]; exact B2), rfl⟩) (.tmp rfl .n)) ?_
  intro w1 hS; refine ⟨?_, hS.Aj⟩; rw [show Words.parse s = _ from ((AU c1).trans ((AU c2).trans ((AU c3).trans ((AU c5).trans ((AU c7).trans ((AU c8).trans (A9 c17)))))))]; rfl
 have c17p := kz c17
 refine Aa ?_
 refine AB (.t5 2 4 5 6 8) ?_
 refine AA (Gs (Gm rfl ?_))
 refine A7 rfl Xk (.c rfl .n) (fun w hS => Hm _ w) ?_
 refine Gm rfl (Gt (AK rfl rfl) (Gt (AK rfl rfl) (Ga rfl (Ga rfl (Gn (.t6 2 4 5 8 14 15) (Gs (Gm rfl ?_)))))))
 refine F2 DB rfl Tryz.underlying52 Ei rfl rfl (by decide) (by first | omega | (simp only [Hd.cut]; omega) | (simp only [Hd.cut] at *; omega)) (fun _ => (.t .h)) ?_
 refine Ga rfl (Gn (.t6 2 4 5 8 14 15) (B7 (Gm rfl (Gt (Ao rfl Tryz.underlying52 rfl) (Gt (CS rfl rfl) (Gm rfl (Bh 154 rfl rfl (fun q => AE rfl) ?_)))))))
 refine Bh 154 rfl rfl (fun q => Dj (Bc rfl q) rfl) (Gt (BI rfl rfl (fun h => h)) (Gm rfl (Bh 158 rfl rfl (fun q => AE rfl) ?_)))
 refine Bh 158 rfl rfl (fun q => by have q1 := q; (try simp at q1); exact Bm Ij (by decide) (Kn.own .m1) (Bc rfl q) rfl (by omega) (by first | omega | (simp only [Hd.cut] at *; omega) | (simp [Hd.cut] at q ⊢; omega))) ?_
 refine Bh 158 rfl rfl (fun q => by have q1 := q; (try simp at q1); exact DL (Bc rfl q) CN (Kn.own .m1) (by first | omega | (simp only [List.length_drop, Hd.cut] at *; omega) | (simp [Hd.cut] at q ⊢; omega))) ?_
 refine Bh 158 rfl rfl (fun q => AE rfl) (Bh 158 rfl rfl (fun q => Bs (Bc rfl q) (Bc rfl q)) (Gt (BI rfl rfl (fun h => h)) (Gn (.t7 2 4 5 8 14 15 164) ?_)))
 refine Gc (fun c18 => ?_) (fun c18 => ?_)
 ·
  have c18p := kz c18
  (try simp only [Hd.cut] at c18)
  rw [hlen] at c18
  refine Gs (Gm rfl ?_)
  refine F2 DB rfl Tryz.underlying52 Ei rfl rfl (by decide) (by first | omega | (simp only [Hd.cut]; omega) | (simp only [Hd.cut] at *; omega)) (fun _ => (.t .h)) ?_
  refine Ga rfl (Gn (.t6 2 4 5 8 14 15) (Gs (Gm rfl (Gt (Ao rfl Tryz.underlying52 rfl) (Gt (Af rfl rfl) (Gn (.t7 2 4 5 8 14 15 169) ?_))))))
  refine Gc (fun c19 => ?_) (fun c19 => ?_)
  ·
   (try simp only [Hd.cut] at c19)
   rw [hlen] at c19
   refine Gs (Gm rfl ?_)
   refine DH rfl He rfl (.c rfl .n) .n (Bn _) (fun v15 B hv => ?_)
   obtain ⟨rfl, rfl⟩ := hv
   refine Gt (AK rfl rfl) (Gt (AK rfl rfl) ?_)
   refine AR (AJ (AS.id Order.fl.len Order.fl.one) rfl rfl rfl Dl rfl (.t (.t .h))) ?_
   refine Ga rfl (Gn (.t2 2 3) (Ab (AD ?_)))
   refine AY rfl (.cell rfl .m2 (.inl ⟨(by rw [Order.fl.len]; exact B2), rfl⟩) (.tmp rfl .n)) ?_
   intro w1 hS; refine ⟨?_, hS.Aj⟩; rw [show Words.parse s = _ from ((AU c1).trans ((AU c2).trans ((AU c3).trans ((AU c5).trans ((AU c7).trans ((AU c8).trans ((AU c17).trans ((A9 c18).trans (A9 c19)))))))))]; rfl
  have c19p := kz c19
  (try simp only [Hd.cut] at c19)
  rw [hlen] at c19
  refine Aa ?_
  refine AB (.t6 2 4 5 8 14 15) ?_
  refine AA (Ap (Ae (Gs (Gm rfl (Gt (Ao rfl Tryz.underlying52 rfl) (Gt (Af rfl rfl) (Gm rfl ?_)))))))
  refine Bh 178 rfl rfl (fun q => AE rfl) (Bh 178 rfl rfl (fun q => BS (Bc rfl q)) (Gt (BI rfl rfl (fun h => h)) (Ga rfl (Gn (.t6 2 4 5 8 14 174) ?_))))
  refine Gc (fun c20 => ?_) (fun c20 => ?_)
  ·
   (try simp only [Hd.cut] at c20)
   rw [hlen] at c20
   refine Gs (Gt (AZ rfl B2 .m0 (AS.id Order.fl.len Order.fl.one) rfl) ?_)
   refine AR (AJ (AS.id Order.fl.len Order.fl.one) rfl rfl rfl Dl rfl (.t (.t .h))) ?_
   refine Ga rfl (Gn (.t2 2 3) (Ab (AP (AD ?_))))
   refine AY rfl (.cell rfl .m2 (.inl ⟨(by rw [Order.fl.len]; exact B2), rfl⟩) (.tmp rfl .n)) ?_
   intro w1 hS; refine ⟨?_, hS.Aj⟩; rw [show Words.parse s = _ from ((AU c1).trans ((AU c2).trans ((AU c3).trans ((AU c5).trans ((AU c7).trans ((AU c8).trans ((AU c17).trans ((A9 c18).trans ((AU c19).trans (A9 c20))))))))))]; rfl
  have c20p := kz c20
  (try simp only [Hd.cut] at c20)
  rw [hlen] at c20
  refine Gs (Gm rfl (Gt (Ao rfl Tryz.underlying52 rfl) (Gt (CK rfl rfl) (Gm rfl (BU 187 rfl rfl (fun q => AE rfl) (BU 187 rfl rfl (fun q => Bs (cF rfl q) rfl) ?_))))))
  refine Gt (BP rfl rfl (fun h => by rw [h]; rfl)) ?_
  refine Ga rfl (Gn (.t5 2 4 5 8 183) ?_)
  refine Gc (fun c21 => ?_) (fun c21 => ?_)
  ·
   (try simp only [Hd.cut] at c21)
   rw [hlen] at c21
   refine Gs (Gm rfl ?_)
   refine DH rfl He rfl (.c rfl .n) .n (Bn _) (fun v16 B hv => ?_)
   obtain ⟨rfl, rfl⟩ := hv
   refine Gt (AK rfl rfl) (Gt (AK rfl rfl) ?_)
   refine AR (AJ (AS.id Order.fl.len Order.fl.one) rfl rfl rfl Dl rfl (.t (.t .h))) ?_
   refine Ga rfl (Gn (.t2 2 3) (Ab (AP (AD ?_))))
   refine AY rfl (.cell rfl .m2 (.inl ⟨(by rw [Order.fl.len]; exact B2), rfl⟩) (.tmp rfl .n)) ?_
   intro w1 hS; refine ⟨?_, hS.Aj⟩; rw [show Words.parse s = _ from ((AU c1).trans ((AU c2).trans ((AU c3).trans ((AU c5).trans ((AU c7).trans ((AU c8).trans ((AU c17).trans ((A9 c18).trans ((AU c19).trans ((AU c20).trans (A9 c21)))))))))))]; rfl
  have c21p := kz c21
  (try simp only [Hd.cut] at c21)
  rw [hlen] at c21
  refine Aa ?_
  refine AB (.t3 2 5 8) ?_
  refine AT (AA (Gs (Gm rfl ?_)))
  refine Gt (Bm Ij (by decide) (Kn.own .m1) rfl rfl (by omega) (by first | omega | (simp only [Hd.cut] at *; omega) | (simp [Hd.cut] at q ⊢; omega))) ?_
  refine Gt (DL rfl CN (Kn.own .m1) (by first | omega | (simp only [List.length_drop, Hd.cut] at *; omega) | (simp [Hd.cut] at q ⊢; omega))) ?_
  refine Gt (Ai HG rfl) ?_
  refine AR (AJ Order.l4 rfl rfl rfl Ei rfl .h) ?_
  refine Gn (.t2 2 8) (Gs (Gt (AZ rfl B2 .m0 (AS.id Order.fl.len Order.fl.one) rfl) ?_))
  refine AR (AJ (AS.id Order.fl.len Order.fl.one) rfl rfl rfl Dl rfl (.t (.t .h))) ?_
  refine Ga rfl (Gn (.t2 2 3) (Ab ?_))
  refine AY rfl (.cell rfl .m2 (.inl ⟨(by rw [Order.fl.len]; exact B2), rfl⟩) (.tmp rfl .n)) ?_
  intro w1 hS; refine ⟨?_, hS.Aj⟩; rw [show Words.parse s = _ from ((AU c1).trans ((AU c2).trans ((AU c3).trans ((AU c5).trans ((AU c7).trans ((AU c8).trans ((AU c17).trans ((A9 c18).trans ((AU c19).trans ((AU c20).trans (AU c21)))))))))))]; rfl
 have c18p := kz c18
 (try simp only [Hd.cut] at c18)
 rw [hlen] at c18
 refine Aa ?_
 refine AB (.t6 2 4 5 8 14 15) ?_
 refine AA (Ap (Ae (Gs (Gm rfl (Gt (Ao rfl Tryz.underlying52 rfl) (Gt (Af rfl rfl) (Gm rfl ?_)))))))
 refine Bh 178 rfl rfl (fun q => AE rfl) (Bh 178 rfl rfl (fun q => BS (Bc rfl q)) (Gt (BI rfl rfl (fun h => h)) (Ga rfl (Gn (.t6 2 4 5 8 14 174) ?_))))
 refine Gc (fun c22 => ?_) (fun c22 => ?_)
 ·
  (try simp only [Hd.cut] at c22)
  rw [hlen] at c22
  refine Gs (Gt (AZ rfl B2 .m0 (AS.id Order.fl.len Order.fl.one) rfl) ?_)
  refine AR (AJ (AS.id Order.fl.len Order.fl.one) rfl rfl rfl Dl rfl (.t (.t .h))) ?_
  refine Ga rfl (Gn (.t2 2 3) (Ab (AP (AD ?_))))
  refine AY rfl (.cell rfl .m2 (.inl ⟨(by rw [Order.fl.len]; exact B2), rfl⟩) (.tmp rfl .n)) ?_
  intro w1 hS; refine ⟨?_, hS.Aj⟩; rw [show Words.parse s = _ from ((AU c1).trans ((AU c2).trans ((AU c3).trans ((AU c5).trans ((AU c7).trans ((AU c8).trans ((AU c17).trans ((AU c18).trans (A9 c22)))))))))]; rfl
 have c22p := kz c22
 (try simp only [Hd.cut] at c22)
 rw [hlen] at c22
 refine Gs (Gm rfl (Gt (Ao rfl Tryz.underlying52 rfl) (Gt (CK rfl rfl) (Gm rfl (BU 187 rfl rfl (fun q => AE rfl) (BU 187 rfl rfl (fun q => Bs (cF rfl q) rfl) ?_))))))
 refine Gt (BP rfl rfl (fun h => by rw [h]; rfl)) ?_
 refine Ga rfl (Gn (.t5 2 4 5 8 183) ?_)
 refine Gc (fun c23 => ?_) (fun c23 => ?_)
 ·
  (try simp only [Hd.cut] at c23)
  rw [hlen] at c23
  refine Gs (Gm rfl ?_)
  refine DH rfl He rfl (.c rfl .n) .n (Bn _) (fun v17 B hv => ?_)
  obtain ⟨rfl, rfl⟩ := hv
  refine Gt (AK rfl rfl) (Gt (AK rfl rfl) ?_)
  refine AR (AJ (AS.id Order.fl.len Order.fl.one) rfl rfl rfl Dl rfl (.t (.t .h))) ?_
  refine Ga rfl (Gn (.t2 2 3) (Ab (AP (AD ?_))))
  refine AY rfl (.cell rfl .m2 (.inl ⟨(by rw [Order.fl.len]; exact B2), rfl⟩) (.tmp rfl .n)) ?_
  intro w1 hS; refine ⟨?_, hS.Aj⟩; rw [show Words.parse s = _ from ((AU c1).trans ((AU c2).trans ((AU c3).trans ((AU c5).trans ((AU c7).trans ((AU c8).trans ((AU c17).trans ((AU c18).trans ((AU c22).trans (A9 c23))))))))))]; rfl
 have c23p := kz c23
 (try simp only [Hd.cut] at c23)
 rw [hlen] at c23
 refine Aa ?_
 refine AB (.t3 2 5 8) ?_
 refine AT (AA (Gs (Gm rfl ?_)))
 refine Gt (Bm Ij (by decide) (Kn.own .m1) rfl rfl (by omega) (by first | omega | (simp only [Hd.cut] at *; omega) | (simp [Hd.cut] at q ⊢; omega))) ?_
 refine Gt (DL rfl CN (Kn.own .m1) (by first | omega | (simp only [List.length_drop, Hd.cut] at *; omega) | (simp [Hd.cut] at q ⊢; omega))) ?_
 refine Gt (Ai HG rfl) ?_
 refine AR (AJ Order.l4 rfl rfl rfl Ei rfl .h) ?_
 refine Gn (.t2 2 8) (Gs (Gt (AZ rfl B2 .m0 (AS.id Order.fl.len Order.fl.one) rfl) ?_))
 refine AR (AJ (AS.id Order.fl.len Order.fl.one) rfl rfl rfl Dl rfl (.t (.t .h))) ?_
 refine Ga rfl (Gn (.t2 2 3) (Ab ?_))
 refine AY rfl (.cell rfl .m2 (.inl ⟨(by rw [Order.fl.len]; exact B2), rfl⟩) (.tmp rfl .n)) ?_
 intro w1 hS; refine ⟨?_, hS.Aj⟩; rw [show Words.parse s = _ from ((AU c1).trans ((AU c2).trans ((AU c3).trans ((AU c5).trans ((AU c7).trans ((AU c8).trans ((AU c17).trans ((AU c18).trans ((AU c22).trans (AU c23))))))))))]; rfl
theorem Gq (d : Int) (w : World) : EL Tryz.prog 128 #[.int .i64 d] w fun v w' => v = .int .i64 (AH.opposite d) ∧ B4 w w' := by
 refine Am [] [] Tryz.func128 rfl rfl rfl (St.start w []) ?_
 refine Gs (Ga rfl (Gn (.t1 0) (Gs (Gm rfl (Gt (Kf rfl rfl) (Gt (Ki rfl rfl) ?_))))))
 refine Gt (As rfl rfl (IntWalk.i64_in _ (by omega))) ?_
 refine Gt (MZ rfl rfl (by omega)) ?_
 refine Ga rfl (Gn (.t1 2) (Ab ?_))
 refine AY rfl (.tmp rfl .n) ?_
 intro w1 hS; refine ⟨?_, hS.Aj⟩; rfl
theorem PY (b : Nat) (T : AF) (g : Hd) (d : Int) (hg : g.len = T.out.length) (hF : T.Fit) (hd : 0 ≤ d ∧ d < 6) (hn : T.out.length ≤ 80000) : Ew Tryz.prog 99 #[.pointer (some ⟨b, 0, none⟩), .int .i64 d] [Ad.box b 163 (Ac.enc ⟨T.w, T.b, g⟩), Ad.own g 56 16 (T.out.flatMap Ing.Event.enc)] (fun w => (GV 0 AH.C0 w ∧ 0 ∉ CW [Ad.box b 163 (Ac.enc ⟨T.w, T.b, g⟩), Ad.own g 56 16 (T.out.flatMap Ing.Event.enc)])) (fun v B => ∃ g' : Hd, v = .tuple #[] ∧ g'.len = (T.walk d).out.length ∧ B = [Ad.box b 163 (Ac.enc ⟨(T.walk d).w, (T.walk d).b, g'⟩), Ad.own g' 56 16 ((T.walk d).out.flatMap Ing.Event.enc)]) := by
 intro w hS0 hH
 obtain ⟨gl0, gm0⟩ := hH
 have hb := hF.b
 have hr := hF.room
 have hx := hF.exit hd.1 hd.2
 refine Am _ _ Tryz.func99 rfl rfl rfl (hS0) ?_
 refine Ap ?_
 refine BD (N := 19) [0, 0, 0, 4, 12, 28, 2, 66, 194, 510, 1022, 2046, 1, 4097, 12289, 32767, 65535, 0, 262143] mix (by kernel_rfl) rfl ?_
 refine Pf 0 rfl (AE rfl) (Pf 1 rfl (AE rfl) (Pf 2 rfl (AE rfl) (Pf 3 rfl (BR rfl) (Pf 4 rfl (Ai CE rfl) (Pf 5 rfl (AG rfl A2 .m0 Ac.l1 rfl rfl) (Pf 6 rfl (BR rfl) (Pf 7 rfl (Ai A5 rfl) ?_)))))))
 refine Pf 8 rfl (Ai Bi rfl) ?_
 refine Pf 9 rfl (AQ Cr rfl rfl (by first | omega | exact hb.1 | exact hb.2 | (dsimp only; omega)) (by first | omega | exact hb.1 | exact hb.2 | (dsimp only; omega))) ?_
 refine Pf 10 rfl (Ai Cq rfl) ?_
 refine Pf 11 rfl (AG rfl A2 .m0 (((Ac.l0.comp AH.l2).comp (AS.ar (n := 6) Al.fl (by first | omega | exact hb | (dsimp only; omega)))).comp Al.l3) rfl rfl) ?_
 refine Pf 12 rfl (BR rfl) (Pf 13 rfl (Ai A5 rfl) (Pf 14 rfl (Ai GF rfl) ?_))
 refine Pf 15 rfl (AQ M8 rfl rfl (by first | omega | exact hb.1 | exact hb.2 | (dsimp only; omega)) (by first | omega | exact hb.1 | exact hb.2 | (dsimp only; omega))) ?_
 refine Pf 16 rfl (AZ rfl NC .m0 ((Ac.l0.comp AH.l0).comp (AS.ar (n := 6) Room.fl (by first | omega | exact hb | (dsimp only; omega)))) rfl) ?_
 refine An 17 rfl (by kernel_rfl) ?_
 refine BF rfl NP rfl (fun b1 => ?_)
 refine Bo rfl ⟨?_, ?_⟩
 · exact (Po rfl (AZ rfl NC .m1 ((Ac.l0.comp AH.l0).comp (AS.ar (n := 6) Room.fl (by first | omega | exact hb | (dsimp only; omega)))) rfl) rfl rfl (Po rfl (AQ M8 rfl rfl (by first | omega | exact hb.1 | exact hb.2 | (dsimp only; omega)) (by first | omega | exact hb.1 | exact hb.2 | (dsimp only; omega))) rfl rfl (Po rfl (Ai GF rfl) rfl rfl (Po rfl (Ai A5 rfl) rfl rfl (Po rfl (BR rfl) rfl rfl (Po rfl (AG rfl A2 .m1 (((Ac.l0.comp AH.l2).comp (AS.ar (n := 6) Al.fl (by first | omega | exact hb | (dsimp only; omega)))).comp Al.l3) rfl rfl) rfl rfl (Po rfl (Ai Cq rfl) rfl rfl (Po rfl (AQ Cr rfl rfl (by first | omega | exact hb.1 | exact hb.2 | (dsimp only; omega)) (by first | omega | exact hb.1 | exact hb.2 | (dsimp only; omega))) rfl rfl (Po rfl (Ai Bi rfl) rfl rfl (Po rfl (Ai A5 rfl) rfl rfl (Po rfl (BR rfl) rfl rfl (Po rfl (AG rfl A2 .m1 Ac.l1 rfl rfl) rfl rfl (Po rfl (Ai CE rfl) rfl rfl (Po rfl (BR rfl) rfl rfl (Po rfl (AE rfl) rfl rfl (Po rfl (AE rfl) rfl rfl (Po rfl (AE rfl) rfl rfl Ar)))))))))))))))))
 refine An 18 rfl (by kernel_rfl) ?_
 refine AR (AJ (AS.id Room.fl.len Room.fl.one) rfl rfl rfl PF rfl .h) ?_
 refine BK rfl ⟨?_, ?_⟩
 · exact (Pk (Pk (Pk (Pk (Pk (Pk (Pk (Pk (Pk (Pk (Pk (Pk (Pk (Pk (Pk (Pk (Pk Ar)))))))))))))))))
 refine A1 (by kernel_rfl) ?_
 refine AB (.t3 0 1 4) ?_
 refine AA (Ae (Gs (Gm rfl (Gt (Ai LS rfl) ?_))))
 refine Gt (AQ Qg rfl rfl (by first | omega | exact hb.1 | exact hb.2 | (dsimp only; omega)) (by first | omega | exact hb.1 | exact hb.2 | (dsimp only; omega))) ?_
 refine Gt (AG rfl A2 .m0 (Room.l2.comp (AS.ar (n := 6) Bw (by first | omega | exact hb | (dsimp only; omega)))) rfl rfl) ?_
 refine Gt (Af rfl rfl) (Ga rfl (Gn (.t4 0 1 4 58) ?_))
 refine Gc (fun c1 => ?_) (fun c1 => ?_)
 ·
  have c1p := kz c1
  refine AI (Gm rfl ?_)
  refine Ah rfl Dv (.c rfl (.c rfl .n)) (.c (.t .h) (.c (.t .h) .n)) (BW _ _ _ _ hg hb (by omega)) (fun v1 B hv => ?_)
  obtain ⟨y2, rfl, y3, rfl⟩ := hv
  refine AO (AB (.nil _) ?_)
  refine AT ?_
  refine Be rfl .n ?_
  intro w1 hS
  have hS := (hS.perm (Av.perm (.c .h (.c .h .n)))).Az
  have hq : T.walk d = _ := (A9 c1)
  refine ⟨_, ⟨?gq1, rfl, ?hl1, ?hB1⟩, hS⟩
  case hB1 => rw [hq]; (try rfl)
  case hl1 => rw [hq]; assumption
 have c1p := kz c1
 refine Gs (Gm rfl (Gt (Ai La rfl) ?_))
 refine Gt (AQ TI rfl rfl (by first | omega | exact hb.1 | exact hb.2 | (dsimp only; omega)) (by first | omega | exact hb.1 | exact hb.2 | (dsimp only; omega))) ?_
 refine Gt (AG rfl DV .m0 (Room.l3.comp (AS.ar (n := 6) Gd (by first | omega | exact hb | (dsimp only; omega)))) rfl rfl) ?_
 refine Ga rfl (Gn (.t4 0 1 4 66) ?_)
 refine Gc (fun c2 => ?_) (fun c2 => ?_)
 ·
  have c2p := kz c2
  refine AI (Gm rfl ?_)
  refine Ah rfl Dv (.c rfl (.c rfl .n)) (.c (.t .h) (.c (.t .h) .n)) (BW _ _ _ _ hg hb (by omega)) (fun v4 B hv => ?_)
  obtain ⟨y5, rfl, y6, rfl⟩ := hv
  refine AO (AB (.nil _) ?_)
  refine AT ?_
  refine Be rfl .n ?_
  intro w1 hS
  have hS := (hS.perm (Av.perm (.c .h (.c .h .n)))).Az
  have hq : T.walk d = _ := ((AU c1).trans (A9 c2))
  refine ⟨_, ⟨?gq2, rfl, ?hl2, ?hB2⟩, hS⟩
  case hB2 => rw [hq]; (try rfl)
  case hl2 => rw [hq]; assumption
 have c2p := kz c2
 have gm := AF.R0 (hF.Bj { AF.GA 1 with dir := d }) (r := (T.w.Bv.at T.me.room).DS.at d - 1) (by have h0 : ¬ (T.w.Bv.at (T.w.AV.at T.b).room).DS.at d = 0 := c1p; show 0 ≤ (T.w.Bv.at (T.w.AV.at T.b).room).DS.at d - 1 ∧ (T.w.Bv.at (T.w.AV.at T.b).room).DS.at d - 1 < 6; omega)
 refine Gs (Gm rfl (Gm rfl (Gt (BA MP Hk rfl (.cons Ing.Event.l0 rfl rfl rfl (.cons Ing.Event.l3 rfl rfl rfl (.cons Ing.Event.l4 rfl rfl rfl .nil)))) ?_)))
 refine Ah rfl Mk (.c rfl (.c rfl .n)) (.c (.t .h) (.c (.t .h) .n)) (CC _ T _ { AF.GA 1 with dir := d } hg hb (show (-1 : Int) < 6 by decide) (by omega)) (fun v7 B hv => ?_)
 obtain ⟨y8, rfl, y9, rfl⟩ := hv
 refine Gn (.t3 0 1 4) (Ap ?_)
 refine BD (N := 16) [0, 0, 2, 6, 14, 0, 0, 96, 224, 480, 1, 1025, 3073, 8191, 16383, 32767] mix (by kernel_rfl) rfl ?_
 refine Pf 0 rfl (AE rfl) (Pf 1 rfl (AE rfl) (Pf 2 rfl (BR rfl) (Pf 3 rfl (Ai CE rfl) (Pf 4 rfl (AG rfl A2 .m0 Ac.l1 rfl rfl) (Pf 5 rfl (AE rfl) (Pf 6 rfl (Ai LS rfl) ?_))))))
 refine Pf 7 rfl (AQ Qg rfl rfl (by first | omega | exact hb.1 | exact hb.2 | (dsimp only; omega)) (by first | omega | exact hb.1 | exact hb.2 | (dsimp only; omega))) ?_
 refine Pf 8 rfl (AG rfl A2 .m2 (Room.l2.comp (AS.ar (n := 6) Bw (by first | omega | exact hb | (dsimp only; omega)))) rfl rfl) ?_
 refine Pf 9 rfl (Ex rfl rfl (IntWalk.i64_in _ (by first | omega | exact hb.1 | exact hb.2 | (dsimp only; omega)))) ?_
 refine Pf 10 rfl (BR rfl) (Pf 11 rfl (Ai A5 rfl) (Pf 12 rfl (Ai Bi rfl) ?_))
 refine Pf 13 rfl (AQ Cr rfl rfl (by first | omega | exact hb.1 | exact hb.2 | (dsimp only; omega)) (by first | omega | exact hb.1 | exact hb.2 | (dsimp only; omega))) ?_
 refine Pf 14 rfl (Ai Cq rfl) ?_
 refine An 15 rfl (by kernel_rfl) ?_
 refine AR (AJ (((Ac.l0.comp AH.l2).comp (AS.ar (n := 6) Al.fl (by first | omega | exact hb | (dsimp only; omega)))).comp Al.l3) rfl rfl rfl Cy rfl .h) ?_
 refine BK rfl ⟨?_, ?_⟩
 · exact (Pk (Pk (Pk (Pk (Pk (Pk (Pk (Pk (Pk (Pk (Pk (Pk (Pk (Pk (Pk Ar)))))))))))))))
 refine A1 (by kernel_rfl) ?_
 refine AB (.t2 0 1) ?_
 refine AA (Ap ?_)
 refine BD (N := 11) [0, 0, 2, 6, 14, 1, 33, 97, 255, 511, 1023] mix (by kernel_rfl) rfl ?_
 refine Pf 0 rfl (AE rfl) (Pf 1 rfl (AE rfl) (Pf 2 rfl (BR rfl) (Pf 3 rfl (Ai CE rfl) (Pf 4 rfl (AG rfl A2 .m0 Ac.l1 rfl rfl) (Pf 5 rfl (BR rfl) (Pf 6 rfl (Ai A5 rfl) (Pf 7 rfl (Ai Bi rfl) ?_)))))))
 refine Pf 8 rfl (AQ Cr rfl rfl (by first | omega | exact hb.1 | exact hb.2 | (dsimp only; omega)) (by first | omega | exact hb.1 | exact hb.2 | (dsimp only; omega))) ?_
 refine Pf 9 rfl (Ai Fb rfl) ?_
 refine An 10 rfl (by kernel_rfl) ?_
 refine AR (AJ (((Ac.l0.comp AH.l2).comp (AS.ar (n := 6) Al.fl (by first | omega | exact hb | (dsimp only; omega)))).comp Al.l5) rfl rfl rfl Cy rfl .h) ?_
 refine BK rfl ⟨?_, ?_⟩
 · exact (Pk (Pk (Pk (Pk (Pk (Pk (Pk (Pk (Pk (Pk Ar))))))))))
 refine A1 (by kernel_rfl) ?_
 refine AB (.t2 0 1) ?_
 refine AA (Ap ?_)
 refine FW (fun _ => .h) (congrArg (fun q => Ac.enc ⟨q, _, _⟩) (AF.VQ (T.Bj { AF.GA 1 with dir := d }) hb _)) ?_
 refine AI (Gm rfl (Gm rfl ?_))
 refine A7 rfl Xi (.c rfl .n) (fun w hS => Gq _ w) ?_
 refine Gt (BA MP Hk rfl (.cons Ing.Event.l0 rfl rfl rfl (.cons Ing.Event.l3 rfl rfl rfl (.cons Ing.Event.l4 rfl rfl rfl .nil)))) ?_
 refine Ah rfl Mk (.c rfl (.c rfl .n)) (.c .h (.c .h .n)) (CC _ (AF.Im (T.Bj { AF.GA 1 with dir := d }) ((T.w.Bv.at T.me.room).DS.at d - 1)) _ { AF.GA 2 with dir := AH.opposite d } (by assumption) hb (show (-1 : Int) < 6 by decide) (show (AF.out (T.Bj { AF.GA 1 with dir := d })).length ≤ 100000 by simp only [AF.CR]; omega)) (fun v10 B hv => ?_)
 obtain ⟨y11, rfl, y12, rfl⟩ := hv
 refine Gn (.t1 0) (AI (Gm rfl ?_))
 refine BC rfl Sm (.c rfl .n) (.c .h (.c .h .n)) (GR _ (AF.Bj (AF.Im (T.Bj { AF.GA 1 with dir := d }) ((T.w.Bv.at T.me.room).DS.at d - 1)) { AF.GA 2 with dir := AH.opposite d }) _ (by assumption) hb gm.fit.br (show _ ≤ 90000 by simp only [AF.CR]; show (AF.out (T.Bj { AF.GA 1 with dir := d })).length + 1 ≤ 90000; simp only [AF.CR]; omega)) (fun w hS => gl0.pull gm0 hS (.c .h (.c .h .n))) (fun v13 B hv => ?_)
 obtain ⟨y14, rfl, y15, rfl⟩ := hv
 refine AO (AB (.nil _) ?_)
 refine AT ?_
 refine Be rfl .n ?_
 intro w1 hS
 have hS := (hS.perm (Av.perm (.c .h (.c .h .n)))).Az
 have hq : T.walk d = _ := ((AU c1).trans (AU c2))
 refine ⟨_, ⟨?gq3, rfl, ?hl3, ?hB3⟩, hS⟩
 case hB3 => rw [hq]; (try rfl)
 case hl3 => rw [hq]; assumption
theorem HD (b : Nat) (T : AF) (g : Hd) (hF : T.Fit) : JU Tryz.prog 136 #[.pointer (some ⟨b, 0, none⟩)] [Ad.box b 163 (Ac.enc ⟨T.w, T.b, g⟩)] (fun v B => ∃ f : Hd, v = f.val ∧ f.len = (T.own).length ∧ B = [Ad.box b 163 (Ac.enc ⟨T.w, T.b, g⟩), Ad.own f 3 1 ((T.own).flatMap Au)]) := by
 intro w hS0
 have hb := hF.b
 have hr := hF.room
 refine Am _ _ Tryz.func136 rfl rfl rfl (hS0) ?_
 refine Gs (Ga rfl (Gn (.t1 0) (Ap ?_)))
 refine BD (N := 10) [0, 1, 3, 7, 0, 16, 48, 112, 255, 511] mix (by kernel_rfl) rfl ?_
 refine Pf 0 rfl (AE rfl) (Pf 1 rfl (BR rfl) (Pf 2 rfl (Ai A5 rfl) (Pf 3 rfl (AZ rfl BT .m0 Ac.l0 rfl) (Pf 4 rfl (AE rfl) (Pf 5 rfl (BR rfl) (Pf 6 rfl (Ai CE rfl) (Pf 7 rfl (AG rfl A2 .m0 Ac.l1 rfl rfl) ?_)))))))
 refine An 8 rfl (by kernel_rfl) ?_
 refine Ah rfl QV (.c rfl (.c rfl (.c rfl .n))) .n (En _ _ _) (fun v1 B hv => ?_)
 obtain ⟨y2, rfl, y3, rfl⟩ := hv
 refine Bo rfl ⟨?_, ?_⟩
 · exact (Pk (Pk (Pk (Pk (Pk (Pk (Pk (Pk Ar))))))))
 refine Pf 9 rfl (Ay rfl) ?_
 refine A1 (by kernel_rfl) ?_
 refine AB (.t1 2) ?_
 refine AA (Ab ?_)
 refine AY rfl (.tmp rfl .n) ?_
 intro w1 hS
 have hS := (hS.perm (Av.perm (.c (.t .h) (.c .h .n)))).Az
 exact ⟨_, ⟨_, rfl, by assumption, rfl⟩, hS⟩
theorem Kw (b : Nat) (T : AF) (g : Hd) (hF : T.Fit) : JU Tryz.prog 125 #[.pointer (some ⟨b, 0, none⟩)] [Ad.box b 163 (Ac.enc ⟨T.w, T.b, g⟩)] (fun v B => ∃ F : AH, F = T.Fz.w ∧ v = .tuple #[] ∧ B = [Ad.box b 163 (Ac.enc ⟨F, T.b, g⟩)]) := by
 intro w hS0
 have hb := hF.b
 have hr := hF.room
 have ho9 := T.JN
 refine Am _ _ Tryz.func125 rfl rfl rfl (hS0) ?_
 refine B7 (Gm rfl ?_)
 refine Ah rfl SW (.c rfl .n) (.c .h .n) (HD _ _ _ (by first | assumption | omega)) (fun v1 B hv => ?_)
 obtain ⟨y2, rfl, y3, rfl⟩ := hv
 refine Gt (Ao rfl Tryz.underlying169 rfl) (Gm rfl (Gn (.t4 0 7 8 9) (Ae ?_)))
 refine Bl (.t4 9 0 7 8) ?_
 refine Gj (fun (k : Int) (X : AF) => 0 ≤ k ∧ T.Ca T.own = X.Ca (T.own.drop k.toNat) ∧ X.b = T.b ∧ k ≤ (T.own.length : Int)) (fun (k : Int) (X : AF) => ((T.own.length : Int) - k).toNat) (fun (k : Int) (X : AF) => [(9, .int .i64 k)]) (fun (k : Int) (X : AF) => [Ad.box b 163 (Ac.enc ⟨X.w, X.b, g⟩)]) (0) (_) ?_ rfl rfl (fun k X hI1 => ?_)
 · exact ⟨by omega, rfl, rfl, by omega⟩
 obtain ⟨hI11, hI12, hI13, hI14⟩ := hI1
 refine Gs (Gt (A6 rfl rfl) (AO (AA (Ap ?_))))
 refine Gc (fun c1 => ?_) (fun c1 => ?_)
 ·
  have c1p := kz c1
  have hx := AF.KU (Bb.Ef (xs := T.own) (i := k.toNat) (by omega))
  refine Aa ?_
  refine AB (.t4 0 7 8 9) ?_
  refine AA (Ap (Ae (Gs ?_)))
  refine Gt (Bm F7 (by decide) (Kn.own .m1) rfl rfl (by omega) (by omega)) ?_
  refine Gt (C1 rfl A2 (Kn.own .m1) (by omega)) ?_
  refine Ga rfl (Gn (.t5 0 3 7 8 9) (Gs (Gm rfl (Gm rfl (Gt (BR rfl) (Gt (Ai A5 rfl) (Gt (Ai Ci rfl) ?_)))))))
  refine Gt (AQ Fi rfl rfl (by first | omega | (rw [hI13]; first | exact hb.1 | exact hb.2) | (dsimp only; omega)) (by first | omega | (rw [hI13]; first | exact hb.1 | exact hb.2) | (dsimp only; omega))) ?_
  refine Ga rfl (Gn (.t5 0 4 7 8 9) (B7 (Gm rfl (Gt (BR rfl) (Gt (Ai GG rfl) ?_)))))
  refine Gt (AG rfl A2 .m0 (((Ac.l0.comp AH.l1).comp (AS.arr (n := 9) Ak.fl (by first | omega | (rw [hI13]; first | exact hb.1 | exact hb.2) | (dsimp only; omega)) (by first | omega | (rw [hI13]; first | exact hb.1 | exact hb.2) | (dsimp only; omega)))).comp Ak.l1) rfl rfl) ?_
  refine Gt (Af rfl rfl) (Gn (.t6 0 4 7 8 9 23) ?_)
  refine Gc (fun c2 => ?_) (fun c2 => ?_)
  ·
   have c2p := kz c2
   refine AI (Gm rfl (Gt (BR rfl) (Gt (Ai FX rfl) ?_)))
   refine AR (AJ (((Ac.l0.comp AH.l1).comp (AS.arr (n := 9) Ak.fl (by first | omega | (rw [hI13]; first | exact hb.1 | exact hb.2) | (dsimp only; omega)) (by first | omega | (rw [hI13]; first | exact hb.1 | exact hb.2) | (dsimp only; omega)))).comp Ak.l4) rfl rfl rfl Jf rfl .h) ?_
   refine Gn (.t5 0 4 7 8 9) ?_
   refine BD (N := 19) [0, 0, 0, 0, 8, 24, 56, 4, 132, 388, 1020, 2044, 4092, 8189, 16381, 32765, 65535, 131071, 262143] mix (by kernel_rfl) rfl ?_
   refine Pf 0 rfl (AE rfl) (Pf 1 rfl (AE rfl) (Pf 2 rfl (AE rfl) (Pf 3 rfl (AE rfl) (Pf 4 rfl (BR rfl) (Pf 5 rfl (Ai CE rfl) (Pf 6 rfl (AG rfl A2 .m0 Ac.l1 rfl rfl) (Pf 7 rfl (BR rfl) ?_)))))))
   refine Pf 8 rfl (Ai A5 rfl) (Pf 9 rfl (Ai Bi rfl) ?_)
   refine Pf 10 rfl (AQ Cr rfl rfl (by first | omega | (rw [hI13]; first | exact hb.1 | exact hb.2) | (dsimp only; omega)) (by first | omega | (rw [hI13]; first | exact hb.1 | exact hb.2) | (dsimp only; omega))) ?_
   refine Pf 11 rfl (Ai Cq rfl) ?_
   refine Pf 12 rfl (AG rfl A2 .m0 (((Ac.l0.comp AH.l2).comp (AS.arr (n := 6) Al.fl (by first | omega | (rw [hI13]; first | exact hb.1 | exact hb.2) | (dsimp only; omega)) (by first | omega | (rw [hI13]; first | exact hb.1 | exact hb.2) | (dsimp only; omega)))).comp Al.l3) rfl rfl) ?_
   refine Pf 13 rfl (BR rfl) (Pf 14 rfl (Ai Ez rfl) ?_)
   refine An 15 rfl (by kernel_rfl) ?_
   refine AR (AJ (((Ac.l0.comp AH.l1).comp (AS.arr (n := 9) Ak.fl (by first | omega | (rw [hI13]; first | exact hb.1 | exact hb.2) | (dsimp only; omega)) (by first | omega | (rw [hI13]; first | exact hb.1 | exact hb.2) | (dsimp only; omega)))).comp Ak.l2) rfl rfl rfl Cy rfl .h) ?_
   refine BK rfl ⟨?_, ?_⟩
   · exact (Pk (Pk (Pk (Pk (Pk (Pk (Pk (Pk (Pk (Pk (Pk (Pk (Pk (Po rfl (AE rfl) rfl rfl (Pk Ar)))))))))))))))
   refine Pf 16 rfl (BR rfl) (Pf 17 rfl (Ai Cz rfl) ?_)
   refine An 18 rfl (by kernel_rfl) ?_
   refine AR (AJ (((Ac.l0.comp AH.l1).comp (AS.arr (n := 9) Ak.fl (by first | omega | (rw [hI13]; first | exact hb.1 | exact hb.2) | (dsimp only; omega)) (by first | omega | (rw [hI13]; first | exact hb.1 | exact hb.2) | (dsimp only; omega)))).comp Ak.l3) rfl rfl rfl Cy rfl .h) ?_
   refine BK rfl ⟨?_, ?_⟩
   · exact (Pk (Pk (Pk (Pk (Pk (Pk (Pk (Pk (Pk (Pk (Pk (Pk (Pk (Pk (Pk (Pk (Pk Ar)))))))))))))))))
   refine A1 (by kernel_rfl) ?_
   refine AB (.t4 0 7 8 9) ?_
   refine AT (AA ?_)
   refine FW (fun _ => .h) (congrArg (fun q => Ac.enc ⟨q, _, _⟩) (AF.TF X hx.1 hx.2 c2)) ?_
   refine AI ?_
   refine Gt (As rfl rfl (IntWalk.i64_in _ (by first | omega | (rw [hI13]; first | exact hb.1 | exact hb.2) | (dsimp only; omega)))) ?_
   refine Gm rfl ?_
   refine AO (AB (.t4 0 7 8 9) ?_)
   refine DI (k + 1) _ ?_ ?_ (.t4 9 0 7 8) (.refl _)
   · exact ⟨by omega, by rw [hI12, AF.Ky hI11 (by omega)], hI13, by omega⟩
   · omega
  have c2p := kz c2
  refine Aa ?_
  refine AB (.t5 0 4 7 8 9) ?_
  refine AA ?_
  refine BD (N := 19) [0, 0, 0, 0, 8, 24, 56, 4, 132, 388, 1020, 2044, 4092, 8189, 16381, 32765, 65535, 131071, 262143] mix (by kernel_rfl) rfl ?_
  refine Pf 0 rfl (AE rfl) (Pf 1 rfl (AE rfl) (Pf 2 rfl (AE rfl) (Pf 3 rfl (AE rfl) (Pf 4 rfl (BR rfl) (Pf 5 rfl (Ai CE rfl) (Pf 6 rfl (AG rfl A2 .m0 Ac.l1 rfl rfl) (Pf 7 rfl (BR rfl) ?_)))))))
  refine Pf 8 rfl (Ai A5 rfl) (Pf 9 rfl (Ai Bi rfl) ?_)
  refine Pf 10 rfl (AQ Cr rfl rfl (by first | omega | (rw [hI13]; first | exact hb.1 | exact hb.2) | (dsimp only; omega)) (by first | omega | (rw [hI13]; first | exact hb.1 | exact hb.2) | (dsimp only; omega))) ?_
  refine Pf 11 rfl (Ai Cq rfl) ?_
  refine Pf 12 rfl (AG rfl A2 .m0 (((Ac.l0.comp AH.l2).comp (AS.arr (n := 6) Al.fl (by first | omega | (rw [hI13]; first | exact hb.1 | exact hb.2) | (dsimp only; omega)) (by first | omega | (rw [hI13]; first | exact hb.1 | exact hb.2) | (dsimp only; omega)))).comp Al.l3) rfl rfl) ?_
  refine Pf 13 rfl (BR rfl) (Pf 14 rfl (Ai Ez rfl) ?_)
  refine An 15 rfl (by kernel_rfl) ?_
  refine AR (AJ (((Ac.l0.comp AH.l1).comp (AS.arr (n := 9) Ak.fl (by first | omega | (rw [hI13]; first | exact hb.1 | exact hb.2) | (dsimp only; omega)) (by first | omega | (rw [hI13]; first | exact hb.1 | exact hb.2) | (dsimp only; omega)))).comp Ak.l2) rfl rfl rfl Cy rfl .h) ?_
  refine BK rfl ⟨?_, ?_⟩
  · exact (Pk (Pk (Pk (Pk (Pk (Pk (Pk (Pk (Pk (Pk (Pk (Pk (Pk (Po rfl (AE rfl) rfl rfl (Pk Ar)))))))))))))))
  refine Pf 16 rfl (BR rfl) (Pf 17 rfl (Ai Cz rfl) ?_)
  refine An 18 rfl (by kernel_rfl) ?_
  refine AR (AJ (((Ac.l0.comp AH.l1).comp (AS.arr (n := 9) Ak.fl (by first | omega | (rw [hI13]; first | exact hb.1 | exact hb.2) | (dsimp only; omega)) (by first | omega | (rw [hI13]; first | exact hb.1 | exact hb.2) | (dsimp only; omega)))).comp Ak.l3) rfl rfl rfl Cy rfl .h) ?_
  refine BK rfl ⟨?_, ?_⟩
  · exact (Pk (Pk (Pk (Pk (Pk (Pk (Pk (Pk (Pk (Pk (Pk (Pk (Pk (Pk (Pk (Pk (Pk Ar)))))))))))))))))
  refine A1 (by kernel_rfl) ?_
  refine AB (.t4 0 7 8 9) ?_
  refine AT (AA ?_)
  refine FW (fun _ => .h) (congrArg (fun q => Ac.enc ⟨q, _, _⟩) (AF.TZ X hx.1 hx.2 c2)) ?_
  refine AI ?_
  refine Gt (As rfl rfl (IntWalk.i64_in _ (by first | omega | (rw [hI13]; first | exact hb.1 | exact hb.2) | (dsimp only; omega)))) ?_
  refine Gm rfl ?_
  refine AO (AB (.t4 0 7 8 9) ?_)
  refine DI (k + 1) _ ?_ ?_ (.t4 9 0 7 8) (.refl _)
  · exact ⟨by omega, by rw [hI12, AF.Ky hI11 (by omega)], hI13, by omega⟩
  · omega
 have c1p := kz c1
 obtain rfl : k = (T.own.length : Int) := by omega
 rw [AF.Ix] at hI12
 have hY : X = T.Ca T.own := hI12.symm
 refine BX (AW (AW (Ag ?_)))
 refine AB (.t1 0) ?_
 refine AA (B7 (Gm rfl (AO (AA (Ae ?_)))))
 refine Bl (.t2 45 0) ?_
 refine Gj (fun (k : Int) (Y : AF) => 0 ≤ k ∧ k ≤ 6 ∧ Y = (T.Ca T.own).Dr k.toNat ∧ Y.b = T.b) (fun (k : Int) (Y : AF) => (6 - k).toNat) (fun (k : Int) (Y : AF) => [(45, .int .i64 k)]) (fun (k : Int) (Y : AF) => [Ad.box b 163 (Ac.enc ⟨Y.w, Y.b, g⟩)]) (0) (_) ?_ rfl rfl (fun k Y hI2 => ?_)
 · exact ⟨by omega, by omega, hY, hI13⟩
 obtain ⟨hI21, hI22, hI23, hI24⟩ := hI2
 refine Gs (Gt (A6 rfl rfl) (AO (AA (Ap ?_))))
 refine Gc (fun c3 => ?_) (fun c3 => ?_)
 ·
  have c3p := kz c3
  refine Aa ?_
  refine AB (.t2 0 45) ?_
  refine AA (Ap (Ae (Gs (Gm rfl (Ga rfl (Gn (.t3 0 5 45) (Ap ?_)))))))
  refine BD (N := 14) [0, 0, 1, 5, 13, 31, 63, 127, 0, 256, 768, 1792, 3840, 8191] mix (by kernel_rfl) rfl ?_
  refine Pf 0 rfl (AE rfl) (Pf 1 rfl (AE rfl) (Pf 2 rfl (BR rfl) (Pf 3 rfl (Ai A5 rfl) (Pf 4 rfl (Ai Bi rfl) ?_))))
  refine Pf 5 rfl (AQ Cr rfl rfl (by first | omega | (rw [hI13]; first | exact hb.1 | exact hb.2) | (dsimp only; omega)) (by first | omega | (rw [hI13]; first | exact hb.1 | exact hb.2) | (dsimp only; omega))) ?_
  refine Pf 6 rfl (Ai Fb rfl) ?_
  refine Pf 7 rfl (AG rfl A2 .m0 (((Ac.l0.comp AH.l2).comp (AS.arr (n := 6) Al.fl (by first | omega | (rw [hI13]; first | exact hb.1 | exact hb.2) | (dsimp only; omega)) (by first | omega | (rw [hI13]; first | exact hb.1 | exact hb.2) | (dsimp only; omega)))).comp Al.l5) rfl rfl) ?_
  refine Pf 8 rfl (AE rfl) (Pf 9 rfl (BR rfl) (Pf 10 rfl (Ai CE rfl) (Pf 11 rfl (AG rfl A2 .m0 Ac.l1 rfl rfl) ?_)))
  refine Pf 12 rfl (As rfl rfl (IntWalk.i64_in _ (by first | omega | (rw [hI13]; first | exact hb.1 | exact hb.2) | (dsimp only; omega)))) ?_
  refine Pf 13 rfl (Af rfl rfl) ?_
  refine A1 (by kernel_rfl) ?_
  refine AB (.t4 0 5 45 61) ?_
  refine AA ?_
  refine Gc (fun c4 => ?_) (fun c4 => ?_)
  ·
   have c4p := kz c4
   have hcb : decide ((Y.w.AV.at k).B1 = (T.Ca T.own).b + 1) = true := by rw [(AF.Ht T.own T).1, ← hI24]; exact c4
   refine AI (Gm rfl (Gm rfl (Gt (BR rfl) (Gt (Ai A5 rfl) (Gt (Ai Bi rfl) ?_)))))
   refine Gt (AQ Cr rfl rfl (by first | omega | (rw [hI13]; first | exact hb.1 | exact hb.2) | (dsimp only; omega)) (by first | omega | (rw [hI13]; first | exact hb.1 | exact hb.2) | (dsimp only; omega))) ?_
   refine Gt (Ai Fb rfl) ?_
   refine AR (AJ (((Ac.l0.comp AH.l2).comp (AS.arr (n := 6) Al.fl (by first | omega | (rw [hI13]; first | exact hb.1 | exact hb.2) | (dsimp only; omega)) (by first | omega | (rw [hI13]; first | exact hb.1 | exact hb.2) | (dsimp only; omega)))).comp Al.l5) rfl rfl rfl Cy rfl .h) ?_
   refine AO (AB (.t2 0 45) ?_)
   refine AT (AA (AI ?_))
   refine Gt (As rfl rfl (IntWalk.i64_in _ (by first | omega | (rw [hI13]; first | exact hb.1 | exact hb.2) | (dsimp only; omega)))) ?_
   refine Gm rfl ?_
   refine AO (AB (.t2 0 45) ?_)
   refine DI (k + 1) (Y.DO k 0) ?_ ?_ (.t2 45 0) (.refl _)
   · exact ⟨by omega, by omega, by rw [AF.Na hI21, ← hI23, A9 hcb], hI24⟩
   · omega
  have c4p := kz c4
  have hcb : decide ((Y.w.AV.at k).B1 = (T.Ca T.own).b + 1) = false := by rw [(AF.Ht T.own T).1, ← hI24]; exact c4
  refine Aa ?_
  refine AB (.t2 0 45) ?_
  refine AT (AA (AI ?_))
  refine Gt (As rfl rfl (IntWalk.i64_in _ (by first | omega | (rw [hI13]; first | exact hb.1 | exact hb.2) | (dsimp only; omega)))) ?_
  refine Gm rfl ?_
  refine AO (AB (.t2 0 45) ?_)
  refine DI (k + 1) (Y) ?_ ?_ (.t2 45 0) (.refl _)
  · exact ⟨by omega, by omega, by rw [AF.Na hI21, ← hI23, AU hcb], hI24⟩
  · omega
 have c3p := kz c3
 obtain rfl : k = 6 := by omega
 refine BX (AW (AW (Ag ?_)))
 refine AB (.t1 0) ?_
 refine AA ?_
 refine BD (N := 11) [0, 0, 2, 6, 14, 1, 33, 97, 255, 511, 1023] mix (by kernel_rfl) rfl ?_
 refine Pf 0 rfl (AE rfl) (Pf 1 rfl (AE rfl) (Pf 2 rfl (BR rfl) (Pf 3 rfl (Ai CE rfl) (Pf 4 rfl (AG rfl A2 .m0 Ac.l1 rfl rfl) (Pf 5 rfl (BR rfl) (Pf 6 rfl (Ai A5 rfl) (Pf 7 rfl (Ai Bi rfl) ?_)))))))
 refine Pf 8 rfl (AQ Cr rfl rfl (by first | omega | (rw [hI13]; first | exact hb.1 | exact hb.2) | (dsimp only; omega)) (by first | omega | (rw [hI13]; first | exact hb.1 | exact hb.2) | (dsimp only; omega))) ?_
 refine Pf 9 rfl (Ai Fb rfl) ?_
 refine An 10 rfl (by kernel_rfl) ?_
 refine AR (AJ (((Ac.l0.comp AH.l2).comp (AS.arr (n := 6) Al.fl (by first | omega | (rw [hI13]; first | exact hb.1 | exact hb.2) | (dsimp only; omega)) (by first | omega | (rw [hI13]; first | exact hb.1 | exact hb.2) | (dsimp only; omega)))).comp Al.l5) rfl rfl rfl Cy rfl .h) ?_
 refine BK rfl ⟨?_, ?_⟩
 · exact (Pk (Pk (Pk (Pk (Pk (Pk (Pk (Pk (Pk (Pk Ar))))))))))
 refine A1 (by kernel_rfl) ?_
 refine Be rfl .n ?_
 intro w1 hS
 have hS := (hS.perm (Av.perm (.c .h .n))).Az
 have hq : T.Fz = Y.DO Y.b 0 := by rw [hI24, hI23]; unfold AF.Fz; rfl
 exact ⟨_, ⟨_, rfl, rfl, by rw [hq, ← hI24]; rfl⟩, hS⟩
theorem P9 (b : Nat) (T : AF) (g : Hd) (hg : g.len = T.out.length) (hF : T.Fit) (hn : T.out.length ≤ 90000) : JU Tryz.prog 103 #[.pointer (some ⟨b, 0, none⟩)] [Ad.box b 163 (Ac.enc ⟨T.w, T.b, g⟩), Ad.own g 56 16 (T.out.flatMap Ing.Event.enc)] (fun v B => ∃ g' : Hd, v = .tuple #[] ∧ g'.len = (T.Kp).out.length ∧ B = [Ad.box b 163 (Ac.enc ⟨(T.Kp).w, (T.Kp).b, g'⟩), Ad.own g' 56 16 ((T.Kp).out.flatMap Ing.Event.enc)]) := by
 intro w hS0
 have hb := hF.b
 have hr := hF.room
 refine Am _ _ Tryz.func103 rfl rfl rfl (hS0) ?_
 refine Gs (Gm rfl ?_)
 refine Ah rfl S7 (.c rfl (.c rfl .n)) (.c .h (.c .h .n)) (Fo _ T _ 18 hg hb (by omega)) (fun v1 B hv => ?_)
 obtain ⟨y2, rfl, y3, rfl⟩ := hv
 refine Gn (.t1 0) (Gs (Gm rfl ?_))
 refine Ah rfl XY (.c rfl .n) (.c .h .n) (Kw _ (T.kind 18) _ (hF.O1 rfl rfl)) (fun v4 B hv => ?_)
 obtain ⟨y5, y6, rfl, rfl⟩ := hv
 refine Gn (.t1 0) ?_
 refine BD (N := 11) [0, 0, 2, 6, 14, 0, 1, 65, 193, 511, 1023] mix (by kernel_rfl) rfl ?_
 refine Pf 0 rfl (AE rfl) (Pf 1 rfl (AE rfl) (Pf 2 rfl (BR rfl) (Pf 3 rfl (Ai CE rfl) (Pf 4 rfl (AG rfl A2 .m0 Ac.l1 rfl rfl) (Pf 5 rfl (BA Um Kv rfl .nil) (Pf 6 rfl (BR rfl) (Pf 7 rfl (Ai A5 rfl) ?_)))))))
 refine Pf 8 rfl (Ai Bi rfl) ?_
 refine Pf 9 rfl (AQ Cr rfl rfl (by first | exact hb.1 | exact hb.2 | omega | (dsimp only; omega)) (by first | exact hb.1 | exact hb.2 | omega | (dsimp only; omega))) ?_
 refine An 10 rfl (by kernel_rfl) ?_
 refine AR (AJ ((Ac.l0.comp AH.l2).comp (AS.arr (n := 6) Al.fl (by first | exact hb.1 | exact hb.2 | omega | (dsimp only; omega)) (by first | exact hb.1 | exact hb.2 | omega | (dsimp only; omega)))) rfl rfl rfl Jg rfl .h) ?_
 refine BK rfl ⟨?_, ?_⟩
 · exact (Pk (Pk (Pk (Pk (Pk (Pk (Pk (Pk (Pk (Pk Ar))))))))))
 refine A1 (by kernel_rfl) ?_
 refine Be rfl .n ?_
 intro w1 hS
 have hS := (hS.perm (Av.perm (.c .h (.c .h .n)))).Az
 obtain ⟨hf1, hf2, hf3⟩ := T.V7
 refine ⟨_, ⟨?gq, rfl, ?hl, ?hB⟩, hS⟩
 case hB => rw [hf1, hf2, hf3, ← y6]
 case hl => rw [hf2]; exact y3
theorem Hl (b : Nat) (T : AF) (g : Hd) (u : Aq) (hg : g.len = T.out.length) (hF : T.Fit) (hu : u.length ≤ 5000000) (hn : T.out.length ≤ 99000) : Ew Tryz.prog 131 #[.pointer (some ⟨b, 0, none⟩), BQ u] [Ad.box b 163 (Ac.enc ⟨T.w, T.b, g⟩), Ad.own g 56 16 (T.out.flatMap Ing.Event.enc)] (fun w => (F8 7 w ∧ 7 ∉ CW [Ad.box b 163 (Ac.enc ⟨T.w, T.b, g⟩), Ad.own g 56 16 (T.out.flatMap Ing.Event.enc)]) ∧ (F8 8 w ∧ 8 ∉ CW [Ad.box b 163 (Ac.enc ⟨T.w, T.b, g⟩), Ad.own g 56 16 (T.out.flatMap Ing.Event.enc)])) (fun v B => ∃ g' : Hd, v = .tuple #[.int .i64 (T.BN u).2.1, .bool (T.BN u).2.2] ∧ g'.len = ((T.BN u).1).out.length ∧ B = [Ad.box b 163 (Ac.enc ⟨((T.BN u).1).w, ((T.BN u).1).b, g'⟩), Ad.own g' 56 16 (((T.BN u).1).out.flatMap Ing.Event.enc)]) := by
 intro w hS0 hH
 obtain ⟨⟨gl0, gm0⟩, ⟨gl1, gm1⟩⟩ := hH
 have hb := hF.b
 have hr := hF.room
 refine Am _ _ Tryz.func131 rfl rfl rfl (hS0) ?_
 refine Gs (Ga rfl (Ga rfl (Gn (.t2 0 1) (Gs (Gm rfl ?_)))))
 refine A7 rfl Sa (.c rfl .n) (fun w hS => Et _ (by first | assumption | omega) w (gl0.stM gm0 hS) (gl1.stM gm1 hS)) ?_
 refine Gm rfl (Gt (AK rfl rfl) (Gt (AK rfl rfl) (Gt (AK rfl rfl) (Gt (AK rfl rfl) (Ga rfl (Ga rfl (Ga rfl ?_)))))))
 refine Ga rfl (Gn (.t5 0 6 7 8 9) (B7 (Gm rfl (Gt (Af rfl rfl) (Gm rfl (Bh 20 rfl rfl (fun q => AE rfl) (Bh 20 rfl rfl (fun q => BS (Bc rfl q)) ?_)))))))
 refine Gt (BI rfl rfl (fun h => h)) (Gn (.t4 0 6 7 23) ?_)
 refine Gc (fun c1 => ?_) (fun c1 => ?_)
 ·
  have c1p := kz c1
  have hnf := Words.TK u (of_decide_eq_true (Bool.and_eq_true_iff.1 c1).1)
  refine Gs (Gm rfl (Gn (.t4 0 6 7 24) (Ae ?_)))
  refine Bl (.t4 6 24 0 7) ?_
  refine Gj (fun (k : Int) (n : Int) => 0 ≤ k ∧ k ≤ 6 ∧ T.Hg (Words.D1 u).2.1 6 (Words.D1 u).1 = T.Hg (Words.D1 u).2.1 (6 - k).toNat n ∧ -k ≤ n ∧ n ≤ 99) (fun (k : Int) (n : Int) => (6 - k).toNat) (fun (k : Int) (n : Int) => [(6, .int .i64 n), (24, .int .i64 k)]) (fun (k : Int) (n : Int) => []) (0) (_) ?_ rfl rfl (fun k n hI1 => ?_)
  · exact ⟨by omega, by omega, rfl, by omega, by omega⟩
  obtain ⟨hI11, hI12, hI13, hI14, hI15⟩ := hI1
  refine Gs (Gt (A6 rfl rfl) (AO (AA (Ap ?_))))
  refine Gc (fun c2 => ?_) (fun c2 => ?_)
  ·
   have c2p := kz c2
   refine Aa ?_
   refine AB (.t4 0 6 7 24) ?_
   refine AA (Ap (Ae (Gs (Gm rfl (Ga rfl (Gn (.t5 0 6 7 10 24) (Ap ?_)))))))
   refine Ap ?_
   refine BD (N := 31) [0, 0, 2, 6, 14, 31, 63, 127, 127, 255, 767, 1791, 4095, 8191, 16383, 127, 65535, 131071, 262143, 524287, 1048575, 2097151, 4194303, 524287, 8912895, 25690111, 59244543, 524287, 268435455, 536870911, 1073741823] mix (by kernel_rfl) rfl ?_
   refine Pf 0 rfl (AE rfl) (Pf 1 rfl (AE rfl) (Pf 2 rfl (BR rfl) (Pf 3 rfl (Ai CE rfl) (Pf 4 rfl (AG rfl A2 .m0 Ac.l1 rfl rfl) (Pf 5 rfl (Af rfl rfl) (Pf 6 rfl (AE rfl) (G1 7 33 rfl rfl rfl (fun q => AE rfl) ?_)))))))
   refine G1 8 33 rfl rfl rfl (fun q => AE rfl) (G1 9 33 rfl rfl rfl (fun q => BR (cF rfl q)) (G1 10 33 rfl rfl rfl (fun q => Ai A5 (cF rfl q)) (G1 11 33 rfl rfl rfl (fun q => Ai Bi (cF rfl q)) ?_)))
   refine BV 12 rfl rfl (by kernel_rfl) (GN (t := 33) rfl rfl (fun q => by have q1 := q; (try simp at q1); exact H3 (AQ Cr (cF rfl q) (cF rfl q) (by first | omega | exact hb.1 | exact hb.2 | (dsimp only; omega)) (by first | omega | exact hb.1 | exact hb.2 | (dsimp only; omega))))) ?_
   refine G1 13 33 rfl rfl rfl (fun q => Ai Js (cF rfl q)) ?_
   refine BV 14 rfl rfl (by kernel_rfl) (GN (t := 33) rfl rfl (fun q => by have q1 := q; (try simp at q1); exact H3 (AG (cF rfl q) CN .m0 (((Ac.l0.comp AH.l2).comp (AS.ar (n := 6) Al.fl (by first | omega | exact hb | (dsimp only; omega)))).comp Al.l0) rfl rfl))) ?_
   refine G1 15 33 rfl rfl rfl (fun q => AE rfl) (G1 16 33 rfl rfl rfl (fun q => Dj (cF rfl q) (cF rfl q)) ?_)
   refine Pf 17 rfl (BP rfl rfl (fun h => by rw [h]; rfl)) ?_
   refine Pf 18 rfl (AE rfl) (G1 19 45 rfl rfl rfl (fun q => AE rfl) (G1 20 45 rfl rfl rfl (fun q => BR (cF rfl q)) (G1 21 45 rfl rfl rfl (fun q => Ai A5 (cF rfl q)) (G1 22 45 rfl rfl rfl (fun q => AZ (cF rfl q) BT .m0 Ac.l0 rfl) (G1 23 45 rfl rfl rfl (fun q => AE rfl) (G1 24 45 rfl rfl rfl (fun q => BR (cF rfl q)) (G1 25 45 rfl rfl rfl (fun q => Ai CE (cF rfl q)) ?_)))))))
   refine G1 26 45 rfl rfl rfl (fun q => AG (cF rfl q) A2 .m0 Ac.l1 rfl rfl) (G1 27 45 rfl rfl rfl (fun q => AE rfl) ?_)
   refine BV 28 rfl rfl (by kernel_rfl) (GN (t := 45) rfl rfl (fun q => by have q1 := q; (try simp at q1); exact Jn (Dp Me (.c (cF rfl q) (.c (cF rfl q) (.c (cF rfl q) .n))) (fun w hS => C5 _ _ _ w)))) ?_
   refine G1 29 45 rfl rfl rfl (fun q => BS (cF rfl q)) ?_
   refine Pf 30 rfl (BP rfl rfl (fun h => by rw [h]; rfl)) ?_
   refine A1 (by kernel_rfl) ?_
   refine AB (.t6 0 6 7 10 24 57) ?_
   refine AA ?_
   refine Gc (fun c3 => ?_) (fun c3 => ?_)
   ·
    have c3p := kz c3
    refine BX (AW (Ag ?_))
    refine AB (.t4 0 6 7 24) ?_
    refine AA (AI ?_)
    refine Gt (As rfl rfl (IntWalk.i64_in _ (by first | omega | exact hb.1 | exact hb.2 | (dsimp only; omega)))) ?_
    refine Gm rfl ?_
    refine AO (AB (.t4 0 6 7 24) ?_)
    refine DI (k + 1) (n) ?_ ?_ (.t4 6 24 0 7) (.refl _)
    · exact ⟨by omega, by omega, by rw [hI13, AF.KD hI11 (by omega), A9 c3], by omega, by omega⟩
    · omega
   have c3p := kz c3
   refine Aa ?_
   refine AB (.t5 0 6 7 10 24) ?_
   refine AA (Gs (Gm rfl ?_))
   refine Gt (Ex rfl rfl (IntWalk.i64_in _ (by first | omega | exact hb.1 | exact hb.2 | (dsimp only; omega)))) ?_
   refine Ga rfl (Gn (.t5 0 6 7 10 24) (Gs (Gm rfl (Gt (Af rfl rfl) (Gn (.t6 0 6 7 10 24 61) ?_)))))
   refine Gc (fun c4 => ?_) (fun c4 => ?_)
   ·
    have c4p := kz c4
    refine Gs (Gm rfl (Ga rfl (Ga rfl (Gn (.t2 4 5) (Ab (AP (AD ?_)))))))
    refine AD (AP (AD ?_))
    refine AY rfl (.tmp rfl (.tmp rfl .n)) ?_
    intro w1 hS
    have hS := (hS.perm (Av.perm (.c .h (.c .h .n)))).Az
    have hs : T.Hg (Words.D1 u).2.1 6 (Words.D1 u).1 = some k := by rw [hI13, AF.KD hI11 (by omega), AU c3, A9 c4]
    have hq : T.BN u = (T, k, true) := (show T.BN u = _ from A9 c1).trans (by simp only [hs])
    refine ⟨_, ⟨?gq1, ?hv1, ?hl1, ?hB1⟩, hS⟩
    case hB1 => rw [hq]; (try rfl)
    case hv1 => rw [hq]; (try rfl)
    case hl1 => rw [hq]; assumption
   have c4p := kz c4
   refine Aa ?_
   refine AB (.t4 0 6 7 24) ?_
   refine AT (AA (AI ?_))
   refine Gt (As rfl rfl (IntWalk.i64_in _ (by first | omega | exact hb.1 | exact hb.2 | (dsimp only; omega)))) ?_
   refine Gm rfl ?_
   refine AO (AB (.t4 0 6 7 24) ?_)
   refine DI (k + 1) (n - 1) ?_ ?_ (.t4 6 24 0 7) (.refl _)
   · exact ⟨by omega, by omega, by rw [hI13, AF.KD hI11 (by omega), AU c3, AU c4], by omega, by omega⟩
   · omega
  have c2p := kz c2
  obtain rfl : k = 6 := by omega
  refine BX (AW (AW (Ag ?_)))
  refine AB (.t1 0) ?_
  refine AA (Gs (Gm rfl ?_))
  refine Ah rfl Dv (.c rfl (.c rfl .n)) (.c .h (.c .h .n)) (BW _ _ _ _ hg hb (by omega)) (fun v1 B hv => ?_)
  obtain ⟨y2, rfl, y3, rfl⟩ := hv
  refine Gn (.nil _) (Gs (Ga rfl (Ga rfl (AO (AA (Ab ?_))))))
  refine AY rfl (.tmp rfl (.tmp rfl .n)) ?_
  intro w1 hS
  have hS := (hS.perm (Av.perm (.c .h (.c .h .n)))).Az
  have hs : T.Hg (Words.D1 u).2.1 6 (Words.D1 u).1 = none := by rw [hI13]; rfl
  have hq : T.BN u = (T.tell AF.Md, 0, false) := (show T.BN u = _ from A9 c1).trans (by simp only [hs])
  refine ⟨_, ⟨?gq2, ?hv2, ?hl2, ?hB2⟩, hS⟩
  case hB2 => rw [hq]; (try rfl)
  case hv2 => rw [hq]; (try rfl)
  case hl2 => rw [hq]; assumption
 have c1p := kz c1
 refine Aa ?_
 refine AB (.t1 0) ?_
 refine AA (Gs (Gm rfl ?_))
 refine Ah rfl Dv (.c rfl (.c rfl .n)) (.c .h (.c .h .n)) (BW _ _ _ _ hg hb (by omega)) (fun v4 B hv => ?_)
 obtain ⟨y5, rfl, y6, rfl⟩ := hv
 refine Gn (.nil _) (Gs (Ga rfl (Ga rfl (AO (AA (Ab ?_))))))
 refine AY rfl (.tmp rfl (.tmp rfl .n)) ?_
 intro w1 hS
 have hS := (hS.perm (Av.perm (.c .h (.c .h .n)))).Az
 have hq : T.BN u = (T.tell AF.Md, 0, false) := AU c1
 refine ⟨_, ⟨?gq3, ?hv3, ?hl3, ?hB3⟩, hS⟩
 case hB3 => rw [hq]; (try rfl)
 case hv3 => rw [hq]; (try rfl)
 case hl3 => rw [hq]; assumption
theorem N7 (b : Nat) (T : AF) (g : Hd) (o : Order) (hg : g.len = T.out.length) (hF : T.Fit) (hm : o.name.length ≤ 5000000) (hn : T.out.length ≤ 90000) : Ew Tryz.prog 104 #[.pointer (some ⟨b, 0, none⟩), .agg o.enc.toArray] [Ad.box b 163 (Ac.enc ⟨T.w, T.b, g⟩), Ad.own g 56 16 (T.out.flatMap Ing.Event.enc)] (fun w => (F8 7 w ∧ 7 ∉ CW [Ad.box b 163 (Ac.enc ⟨T.w, T.b, g⟩), Ad.own g 56 16 (T.out.flatMap Ing.Event.enc)]) ∧ (F8 8 w ∧ 8 ∉ CW [Ad.box b 163 (Ac.enc ⟨T.w, T.b, g⟩), Ad.own g 56 16 (T.out.flatMap Ing.Event.enc)])) (fun v B => ∃ g' : Hd, v = .tuple #[] ∧ g'.len = (T.GK o).out.length ∧ B = [Ad.box b 163 (Ac.enc ⟨(T.GK o).w, (T.GK o).b, g'⟩), Ad.own g' 56 16 ((T.GK o).out.flatMap Ing.Event.enc)]) := by
 intro w hS0 hH
 obtain ⟨⟨gl0, gm0⟩, ⟨gl1, gm1⟩⟩ := hH
 have hb := hF.b
 have hr := hF.room
 have hsr := T.KN (if (!decide (o.nth = 1) || o.Bk) = true then [] else o.name)
 have hsb : 0 ≤ (T.BN (if (!decide (o.nth = 1) || o.Bk) = true then [] else o.name)).1.b ∧ (T.BN (if (!decide (o.nth = 1) || o.Bk) = true then [] else o.name)).1.b < 6 := by rw [(T.Nq _).2]; exact hb
 refine Am _ _ Tryz.func104 rfl rfl rfl (hS0) ?_
 refine Gs ?_
 refine B3 rfl rfl rfl (fun b1 => ?_)
 refine Gn (.t2 0 3) (Gs (Gt (Ai FE rfl) (Gt (AG rfl CN .m0 Order.l3 rfl rfl) (Ga rfl (Gn (.t3 0 3 4) (B7 (Gt (Ai Ft rfl) ?_)))))))
 refine Gt (AG rfl A2 .m0 Order.l1 rfl rfl) (Gt (CK rfl rfl) (Gm rfl (BU 12 rfl rfl (fun q => Ai GO rfl) (BU 12 rfl rfl (fun q => AG (cF rfl q) DV .m0 Order.l2 rfl rfl) ?_))))
 refine Gt (BP rfl rfl (fun h => by rw [h]; rfl)) ?_
 refine Gn (.t3 0 4 15) ?_
 refine PD (BQ) (s := (if (!decide (o.nth = 1) || o.Bk) = true then [] else o.name)) rfl rfl rfl rfl rfl ?_
 refine AB (.t2 0 4) ?_
 refine AA (Gs (Gm rfl (Gm rfl ?_)))
 refine BC rfl Xm (.c rfl (.c rfl .n)) (.c (.t .h) (.c (.t .h) .n)) (Hl _ T _ _ hg hF (by split <;> (try simp) <;> omega) (by omega)) (fun w hS => ⟨gl0.pull gm0 hS (.c (.t .h) (.c (.t .h) .n)), gl1.pull gm1 hS (.c (.t .h) (.c (.t .h) .n))⟩) (fun v1 B hv => ?_)
 obtain ⟨y2, rfl, y3, rfl⟩ := hv
 refine Gm rfl (Gt (AK rfl rfl) (Gt (AK rfl rfl) (Ga rfl (Ga rfl (Gn (.t3 0 5 6) (B7 (Gm rfl ?_)))))))
 refine Gt (BS rfl) (Gn (.t3 0 5 23) ?_)
 refine Gc (fun c1 => ?_) (fun c1 => ?_)
 ·
  have c1p := kz c1
  refine Ab (AD ?_)
  refine AY rfl .n ?_
  intro w1 hS
  have hS := (hS.perm (Av.perm (.c .h (.c .h .n)))).Az
  have hq : T.GK o = _ := A9 c1
  refine ⟨_, ⟨?gq1, rfl, ?hl1, ?hB1⟩, hS⟩
  case hB1 => rw [hq]; (try rfl)
  case hl1 => rw [hq]; assumption
 have c1p := kz c1
 refine Aa ?_
 refine AB (.t2 0 5) ?_
 refine AA (Ap ?_)
 refine BD (N := 13) [0, 0, 2, 6, 14, 0, 32, 1, 129, 385, 1023, 2047, 4095] mix (by kernel_rfl) rfl ?_
 refine Pf 0 rfl (AE rfl) (Pf 1 rfl (AE rfl) (Pf 2 rfl (BR rfl) (Pf 3 rfl (Ai CE rfl) (Pf 4 rfl (AG rfl A2 .m0 Ac.l1 rfl rfl) (Pf 5 rfl (AE rfl) ?_)))))
 refine Pf 6 rfl (As rfl rfl (IntWalk.i64_in _ (by first | omega | exact hsb.1 | exact hsb.2 | (dsimp only; omega)))) ?_
 refine Pf 7 rfl (BR rfl) (Pf 8 rfl (Ai A5 rfl) (Pf 9 rfl (Ai Bi rfl) ?_))
 refine Pf 10 rfl (AQ Cr rfl rfl (by first | omega | exact hsb.1 | exact hsb.2 | (dsimp only; omega)) (by first | omega | exact hsb.1 | exact hsb.2 | (dsimp only; omega))) ?_
 refine Pf 11 rfl (Ai Fb rfl) ?_
 refine An 12 rfl (by kernel_rfl) ?_
 refine AR (AJ (((Ac.l0.comp AH.l2).comp (AS.ar (n := 6) Al.fl (by first | omega | exact hsb | (dsimp only; omega)))).comp Al.l5) rfl rfl rfl Cy rfl .h) ?_
 refine BK rfl ⟨?_, ?_⟩
 · exact (Pk (Pk (Pk (Pk (Pk (Pk (Pk (Pk (Pk (Pk (Pk (Pk Ar))))))))))))
 refine A1 (by kernel_rfl) ?_
 refine AB (.t2 0 5) ?_
 refine AA (B7 (Gm rfl (Gm rfl (Gt (BR rfl) (Gt (Ai A5 rfl) (Gt (Ai Bi rfl) ?_))))))
 refine Gt (AQ Cr rfl rfl (by first | omega | exact hsb.1 | exact hsb.2 | (dsimp only; omega)) (by first | omega | exact hsb.1 | exact hsb.2 | (dsimp only; omega))) ?_
 refine Gt (Ai Fb rfl) ?_
 refine Gt (AG rfl A2 .m0 (((Ac.l0.comp AH.l2).comp (AS.ar (n := 6) Al.fl (by first | omega | exact hsb | (dsimp only; omega)))).comp Al.l5) rfl rfl) ?_
 refine Gt (Af rfl rfl) (Gn (.t3 0 5 44) ?_)
 refine Gc (fun c2 => ?_) (fun c2 => ?_)
 ·
  have c2p := kz c2
  refine BD (N := 13) [0, 0, 0, 4, 12, 28, 60, 1, 129, 385, 1023, 2047, 4095] mix (by kernel_rfl) rfl ?_
  refine Pf 0 rfl (AE rfl) (Pf 1 rfl (AE rfl) (Pf 2 rfl (AE rfl) (Pf 3 rfl (BR rfl) (Pf 4 rfl (Ai CE rfl) (Pf 5 rfl (AG rfl A2 .m0 Ac.l1 rfl rfl) ?_)))))
  refine Pf 6 rfl (As rfl rfl (IntWalk.i64_in _ (by first | omega | exact hsb.1 | exact hsb.2 | (dsimp only; omega)))) ?_
  refine Pf 7 rfl (BR rfl) (Pf 8 rfl (Ai A5 rfl) (Pf 9 rfl (Ai Bi rfl) ?_))
  refine Pf 10 rfl (AQ Cr rfl rfl (by first | omega | exact hsb.1 | exact hsb.2 | (dsimp only; omega)) (by first | omega | exact hsb.1 | exact hsb.2 | (dsimp only; omega))) ?_
  refine Pf 11 rfl (Ai Fb rfl) ?_
  refine An 12 rfl (by kernel_rfl) ?_
  refine AR (AJ (((Ac.l0.comp AH.l2).comp (AS.ar (n := 6) Al.fl (by first | omega | exact hsb | (dsimp only; omega)))).comp Al.l5) rfl rfl rfl Cy rfl .h) ?_
  refine BK rfl ⟨?_, ?_⟩
  · exact (Pk (Pk (Pk (Pk (Pk (Pk (Pk (Pk (Pk (Pk (Pk (Pk Ar))))))))))))
  refine A1 (by kernel_rfl) ?_
  refine AB (.t1 0) ?_
  refine AA (AI (Gm rfl ?_))
  refine Ah rfl Dv (.c rfl (.c rfl .n)) (.c .h (.c .h .n)) (BW _ (AF.DO (AF.DO (T.BN (if (!decide (o.nth = 1) || o.Bk) = true then [] else o.name)).1 (T.BN (if (!decide (o.nth = 1) || o.Bk) = true then [] else o.name)).1.b ((T.BN (if (!decide (o.nth = 1) || o.Bk) = true then [] else o.name)).2.1 + 1)) (T.BN (if (!decide (o.nth = 1) || o.Bk) = true then [] else o.name)).2.1 ((T.BN (if (!decide (o.nth = 1) || o.Bk) = true then [] else o.name)).1.b + 1)) _ _ (by assumption) hsb (by show (T.BN (if (!decide (o.nth = 1) || o.Bk) = true then [] else o.name)).1.out.length ≤ 100000; have := T.GX (if (!decide (o.nth = 1) || o.Bk) = true then [] else o.name); omega)) (fun v4 B hv => ?_)
  obtain ⟨y5, rfl, y6, rfl⟩ := hv
  refine AO ?_
  refine Be rfl .n ?_
  intro w1 hS
  have hS := (hS.perm (Av.perm (.c .h (.c .h .n)))).Az
  have hq : T.GK o = _ := (show T.GK o = _ from AU c1).trans (congrArg (fun q => AF.tell q AF.Pv) (A9 c2))
  refine ⟨_, ⟨?gq2, rfl, ?hl2, ?hB2⟩, hS⟩
  case hB2 => rw [hq]; (try rfl)
  case hl2 => rw [hq]; assumption
 have c2p := kz c2
 refine Aa ?_
 refine AB (.t1 0) ?_
 refine AA (AI (Gm rfl ?_))
 refine Ah rfl Dv (.c rfl (.c rfl .n)) (.c .h (.c .h .n)) (BW _ (AF.DO (T.BN (if (!decide (o.nth = 1) || o.Bk) = true then [] else o.name)).1 (T.BN (if (!decide (o.nth = 1) || o.Bk) = true then [] else o.name)).1.b ((T.BN (if (!decide (o.nth = 1) || o.Bk) = true then [] else o.name)).2.1 + 1)) _ _ (by assumption) hsb (by show (T.BN (if (!decide (o.nth = 1) || o.Bk) = true then [] else o.name)).1.out.length ≤ 100000; have := T.GX (if (!decide (o.nth = 1) || o.Bk) = true then [] else o.name); omega)) (fun v7 B hv => ?_)
 obtain ⟨y8, rfl, y9, rfl⟩ := hv
 refine AO ?_
 refine Be rfl .n ?_
 intro w1 hS
 have hS := (hS.perm (Av.perm (.c .h (.c .h .n)))).Az
 have hq : T.GK o = _ := (show T.GK o = _ from AU c1).trans (congrArg (fun q => AF.tell q AF.Pv) (AU c2))
 refine ⟨_, ⟨?gq3, rfl, ?hl3, ?hB3⟩, hS⟩
 case hB3 => rw [hq]; (try rfl)
 case hl3 => rw [hq]; assumption
theorem H8 (b : Nat) (T : AF) (g : Hd) (hF : T.Fit) : JU Tryz.prog 132 #[.pointer (some ⟨b, 0, none⟩)] [Ad.box b 163 (Ac.enc ⟨T.w, T.b, g⟩)] (fun v B => ∃ f : Hd, v = f.val ∧ f.len = (T.seen).length ∧ B = [Ad.box b 163 (Ac.enc ⟨T.w, T.b, g⟩), Ad.own f 3 1 ((T.seen).flatMap Au)]) := by
 intro w hS0
 have hb := hF.b
 have hr := hF.room
 refine Am _ _ Tryz.func132 rfl rfl rfl (hS0) ?_
 refine Gs (Ga rfl (Gn (.t1 0) (Ap ?_)))
 refine BD (N := 12) [0, 0, 2, 6, 14, 1, 33, 97, 255, 511, 1023, 2047] mix (by kernel_rfl) rfl ?_
 refine Pf 0 rfl (AE rfl) (Pf 1 rfl (AE rfl) (Pf 2 rfl (BR rfl) (Pf 3 rfl (Ai CE rfl) (Pf 4 rfl (AG rfl A2 .m0 Ac.l1 rfl rfl) (Pf 5 rfl (BR rfl) (Pf 6 rfl (Ai A5 rfl) (Pf 7 rfl (Ai Bi rfl) ?_)))))))
 refine Pf 8 rfl (AQ Cr rfl rfl (by first | omega | exact hb.1 | exact hb.2 | (dsimp only; omega)) (by first | omega | exact hb.1 | exact hb.2 | (dsimp only; omega))) ?_
 refine Pf 9 rfl (Ai Cq rfl) ?_
 refine Pf 10 rfl (AG rfl A2 .m0 (((Ac.l0.comp AH.l2).comp (AS.ar (n := 6) Al.fl (by first | omega | exact hb | (dsimp only; omega)))).comp Al.l3) rfl rfl) ?_
 refine Pf 11 rfl (Ay rfl) ?_
 refine A1 (by kernel_rfl) ?_
 refine AB (.t2 0 3) ?_
 refine AA (B7 (Gm rfl (Gt (BR rfl) (Gt (Ai A5 rfl) (Gt (AZ rfl BT .m0 Ac.l0 rfl) (Gm rfl ?_))))))
 refine A7 rfl S0 (.c rfl (.c rfl .n)) (fun w hS => EC _ _ w) ?_
 refine Gt (BS rfl) (Gn (.t3 0 3 21) ?_)
 refine Gc (fun c1 => ?_) (fun c1 => ?_)
 ·
  refine Gs (Ga rfl (Gn (.t1 2) (Ab (AD ?_))))
  refine AY rfl (.tmp rfl .n) ?_
  intro w1 hS
  have hS := hS.Cd 3 1
  have hS := (hS.perm (Av.perm (.c (.t .h) (.c .h .n)))).Az
  have hq : T.seen = _ := A9 c1
  exact ⟨_, ⟨⟨none, 0, 0⟩, rfl, by rw [hq]; rfl, by rw [hq]; rfl⟩, hS⟩
 have c1p := kz c1
 refine Aa ?_
 refine AB (.t2 0 3) ?_
 refine AA (Gs (Gm rfl (Gt (BR rfl) (Gt (Ai A5 rfl) (Gt (AZ rfl BT .m0 Ac.l0 rfl) (Gm rfl ?_))))))
 refine Ah rfl QV (.c rfl (.c rfl (.c rfl .n))) .n (En _ _ _) (fun v2 B hv => ?_)
 obtain ⟨y3, rfl, y4, rfl⟩ := hv
 refine Ga rfl (Gn (.t1 2) (Ab ?_))
 refine AY rfl (.tmp rfl .n) ?_
 intro w1 hS
 have hS := (hS.perm (Av.perm (.c (.t .h) (.c .h .n)))).Az
 have hq : T.seen = _ := (AU c1)
 exact ⟨_, ⟨_, rfl, by rw [hq]; first | rfl | assumption, by rw [hq]; rfl⟩, hS⟩
theorem Ec (b : Nat) (T : AF) (g : Hd) (f : Hd) (l : List Int) (z : Int) (u : Aq) (a : Bool) (hF : T.Fit) (hf : f.len = l.length) (hl : l.length ≤ 100) (hi : ∀ i ∈ l, 0 ≤ i ∧ i < 9) : JU Tryz.prog 134 #[.pointer (some ⟨b, 0, none⟩), f.val, .int .i64 z, BQ u, .bool a] [Ad.box b 163 (Ac.enc ⟨T.w, T.b, g⟩), Ad.own f 3 1 (l.flatMap Au)] (fun v B => ∃ h : Hd, v = h.val ∧ h.len = (AF.BO T.w l z u a).length ∧ B = [Ad.box b 163 (Ac.enc ⟨T.w, T.b, g⟩), Ad.own f 3 1 (l.flatMap Au), Ad.own h 3 1 ((AF.BO T.w l z u a).flatMap Au)]) := by
 intro w hS0
 have hb := hF.b
 have hr := hF.room
 refine Am _ _ Tryz.func134 rfl rfl rfl (hS0) ?_
 refine Gs (Ga rfl (Gn (.t5 0 1 2 3 4) (Gs (Ga rfl (AO (AA (B7 ?_)))))))
 refine Gm rfl (Gt (Ao rfl Tryz.underlying169 rfl) (Gm rfl (Gn (.t8 0 2 3 4 11 14 15 16) (Ae ?_))))
 refine Bl (.t8 11 16 0 2 3 4 14 15) ?_
 refine EM Au 3 1 ?_
 refine DX (fun (k : Int) (xs : List Int) (h : Hd) => 0 ≤ k ∧ k ≤ (l.length : Int) ∧ xs = AF.IY T.w u (l.take k.toNat) ∧ h.len = xs.length ∧ xs.length ≤ k.toNat) (fun (k : Int) (xs : List Int) (h : Hd) => ((l.length : Int) - k).toNat) (fun (k : Int) (xs : List Int) (h : Hd) => [(11, h.val), (16, .int .i64 k)]) (fun (k : Int) (xs : List Int) (h : Hd) => [Ad.own h 3 1 (xs.flatMap Au)]) (0) ([]) (_) ?_ rfl rfl (fun k xs h hI1 => ?_)
 · exact ⟨by omega, by omega, rfl, rfl, by simp⟩
 obtain ⟨hI11, hI12, hI13, hI14, hI15⟩ := hI1
 refine Gs (Gt (A6 rfl rfl) (AO (AA (Ap ?_))))
 refine Gc (fun c1 => ?_) (fun c1 => ?_)
 ·
  have c1p := kz c1
  have hx := hi _ (Bb.Ef (xs := l) (i := k.toNat) (by omega))
  refine Aa ?_
  refine AB (.t8 0 2 3 4 11 14 15 16) ?_
  refine AA (Ap (Ae (Gs ?_)))
  refine Gt (Bm F7 (by decide) (Kn.own .m2) rfl rfl (by omega) (by omega)) ?_
  refine Gt (C1 rfl A2 (Kn.own .m2) (by omega)) ?_
  refine Ga rfl (Gn (.t9 0 2 3 4 11 13 14 15 16) (Gs (Gm rfl (Gt (Bs rfl rfl) (Gm rfl (BU 22 rfl rfl (fun q => AE rfl) (BU 22 rfl rfl (fun q => AE rfl) ?_)))))))
  refine BU 22 rfl rfl (fun q => BR (cF rfl q)) (BU 22 rfl rfl (fun q => Ai A5 (cF rfl q)) (BU 22 rfl rfl (fun q => Ai Ci (cF rfl q)) ?_))
  refine BU 22 rfl rfl (fun q => by have q1 := q; (try simp at q1); exact AQ Fi (cF rfl q) (cF rfl q) (by first | omega | exact hb.1 | exact hb.2) (by first | omega | exact hb.1 | exact hb.2)) ?_
  refine BU 22 rfl rfl (fun q => Ai LI (cF rfl q)) ?_
  refine BU 22 rfl rfl (fun q => by have q1 := q; (try simp at q1); exact AG (cF rfl q) CN .m1 (((Ac.l0.comp AH.l1).comp (AS.ar (n := 9) Ak.fl (by first | omega | exact hb))).comp Ak.l0) rfl rfl) ?_
  refine BU 22 rfl rfl (fun q => AE rfl) (BU 22 rfl rfl (fun q => Bs (cF rfl q) (cF rfl q)) ?_)
  refine Gt (BP rfl rfl (fun h => by rw [h]; rfl)) ?_
  refine Gn (.t10 0 2 3 4 11 13 14 15 16 33) ?_
  refine Gc (fun c2 => ?_) (fun c2 => ?_)
  ·
   have c2p := kz c2
   refine AI (Gm rfl (Gm rfl ?_))
   refine Eu Au Bw rfl Tryz.underlying169 Cy Yn rfl (by decide) (by decide) rfl rfl (fun b1 => ?_)
   refine CO Bw rfl Tryz.underlying169 Cy Yn rfl aD (by decide) (by decide) rfl rfl (fun w hS => Src.DU Tryz.underlying169 ((Kn.own .m0) w hS)) (by (try dsimp only); omega) (fun _ => (.t .h)) (fun h1 h1l h1z => ?_)
   refine Ga rfl ?_
   refine AO (AB (.t8 0 2 3 4 11 14 15 16) ?_)
   refine AT (AA (AI ?_))
   refine Gt (As rfl rfl (IntWalk.i64_in _ (by first | omega | exact hb.1 | exact hb.2))) ?_
   refine Gm rfl ?_
   refine AO (AB (.t8 0 2 3 4 11 14 15 16) ?_)
   refine Bt (k + 1) _ _ ?_ ?_ (.t8 11 16 0 2 3 4 14 15) (.cons _ (.refl _))
   · exact ⟨by omega, by omega, by rw [AF.Wl hI11 (by omega) c2, ← hI13], (by (try dsimp only at *) <;> (try simp only [List.length_append, List.length_cons, List.length_nil]) <;> omega), (by (try simp only [List.length_append, List.length_cons, List.length_nil]); omega)⟩
   · omega
  have c2p := kz c2
  refine Aa ?_
  refine AB (.t8 0 2 3 4 11 14 15 16) ?_
  refine AT (AA (AI ?_))
  refine Gt (As rfl rfl (IntWalk.i64_in _ (by first | omega | exact hb.1 | exact hb.2))) ?_
  refine Gm rfl ?_
  refine AO (AB (.t8 0 2 3 4 11 14 15 16) ?_)
  refine Bt (k + 1) _ _ ?_ ?_ (.t8 11 16 0 2 3 4 14 15) (.refl _)
  · exact ⟨by omega, by omega, by rw [AF.Wp hI11 (by omega) c2, ← hI13], (by (try dsimp only at *) <;> (try simp only [List.length_append, List.length_cons, List.length_nil]) <;> omega), (by (try simp only [List.length_append, List.length_cons, List.length_nil]); omega)⟩
  · omega
 have c1p := kz c1
 obtain rfl : k = (l.length : Int) := by omega
 have hx3 := hI13
 rw [show (l.length : Int).toNat = l.length by omega, List.take_length] at hx3
 have hpa := AF.Tx T.w u l
 rw [← hx3] at hpa
 refine BX (AW (AW (Ag ?_)))
 refine AB (.t3 2 4 11) ?_
 refine AA (B7 (Gm rfl (Gn (.t3 2 11 39) ?_)))
 refine Gc (fun c3 => ?_) (fun c3 => ?_)
 ·
  have c3p := kz c3
  refine Gs (Gm rfl (Ga rfl (Gn (.t1 10) (Ab (AD ?_)))))
  refine AY rfl (.tmp rfl .n) ?_
  intro w1 hS
  have hS := (hS.perm (Av.perm (.c (.t .h) (.c (.t .h) (.c .h .n))))).Az
  have hq : AF.BO T.w l z u a = _ := (A9 c3)
  refine ⟨_, ⟨_, rfl, ?hl1, ?hB1⟩, hS⟩
  case hB1 => rw [hq]; (try rw [← hx3]); (try rfl)
  case hl1 => rw [hq]; first | rfl | (rw [← hx3]; first | assumption | (simp only [Hd.cut, List.length_drop, List.length_take]; omega))
 have c3p := kz c3
 refine Aa ?_
 refine AB (.t2 2 11) ?_
 refine AA (B7 (Gm rfl (Gt (A6 rfl rfl) (Gm rfl (BU 43 rfl rfl (fun q => AE rfl) (BU 43 rfl rfl (fun q => AE rfl) (BU 43 rfl rfl (fun q => Ao rfl Tryz.underlying169 (cF rfl q)) ?_)))))))
 refine BU 43 rfl rfl (fun q => CS (cF rfl q) (cF rfl q)) ?_
 refine Gt (BP rfl rfl (fun h => by rw [h]; rfl)) ?_
 refine Gn (.t3 2 11 48) ?_
 refine Gc (fun c4 => ?_) (fun c4 => ?_)
 ·
  have c4p := kz c4
  rw [hI14, hx3] at c4
  refine Gs (Ga rfl (Gn (.t1 10) (Ab (AD ?_))))
  refine AY rfl (.tmp rfl .n) ?_
  intro w1 hS
  have hS := hS.Cd 3 1
  have hS := (hS.perm (Av.perm (.c (.t (.t .h)) (.c (.t (.t .h)) (.c .h .n))))).Az
  have hq : AF.BO T.w l z u a = _ := ((AU c3).trans (A9 c4))
  refine ⟨_, ⟨⟨none, 0, 0⟩, rfl, ?hl2, ?hB2⟩, hS⟩
  case hB2 => rw [hq]; (try rw [← hx3]); (try rfl)
  case hl2 => rw [hq]; first | rfl | (rw [← hx3]; first | assumption | (simp only [Hd.cut, List.length_drop, List.length_take]; omega))
 have c4p := kz c4
 have c4q := c4p
 rw [hI14, hx3] at c4
 refine Aa ?_
 refine AB (.t2 2 11) ?_
 refine AA (Gs (Gm rfl (Gm rfl ?_)))
 refine Gt (Ex rfl rfl (IntWalk.i64_in _ (by first | omega | exact hb.1 | exact hb.2))) ?_
 refine Gm rfl ?_
 refine Re Bw rfl Tryz.underlying169 Cy rfl rfl rfl (by first | omega | exact hb.1 | exact hb.2) (by first | omega | exact hb.1 | exact hb.2) (by first | omega | exact hb.1 | exact hb.2) (fun _ => .h) ?_
 refine Ga rfl (Gn (.t1 10) (Ab ?_))
 refine AY rfl (.tmp rfl .n) ?_
 intro w1 hS
 have hS := (hS.perm (Av.perm (.c (.t .h) (.c (.t .h) (.c .h .n))))).Az
 have hq : AF.BO T.w l z u a = _ := ((AU c3).trans (AU c4))
 refine ⟨_, ⟨_, rfl, ?hl3, ?hB3⟩, hS⟩
 case hB3 => rw [hq]; (try rw [← hx3]); (try rfl)
 case hl3 => rw [hq]; first | rfl | (rw [← hx3]; first | assumption | (simp only [Hd.cut, List.length_drop, List.length_take]; omega))
theorem RH (b : Nat) (T : AF) (g : Hd) (u : Aq) (hF : T.Fit) (hu : u.length ≤ 5000000) : Ew Tryz.prog 161 #[.pointer (some ⟨b, 0, none⟩), BQ u] [Ad.box b 163 (Ac.enc ⟨T.w, T.b, g⟩)] (fun w => (F8 7 w ∧ 7 ∉ CW [Ad.box b 163 (Ac.enc ⟨T.w, T.b, g⟩)]) ∧ (F8 8 w ∧ 8 ∉ CW [Ad.box b 163 (Ac.enc ⟨T.w, T.b, g⟩)])) (fun v B => v = .tuple #[.int .i64 (T.one u).1, .bool (T.one u).2] ∧ B = [Ad.box b 163 (Ac.enc ⟨T.w, T.b, g⟩)]) := by
 intro w hS0 hH
 obtain ⟨⟨gl0, gm0⟩, ⟨gl1, gm1⟩⟩ := hH
 have hb := hF.b
 have hr := hF.room
 have ho9 := T.JN
 have hs9 := T.Hu
 refine Am _ _ Tryz.func161 rfl rfl rfl (hS0) ?_
 refine Gs (Ga rfl (Ga rfl (Gn (.t2 0 1) (Gs (Gm rfl ?_)))))
 refine A7 rfl Sa (.c rfl .n) (fun w hS => Et _ (by first | assumption | omega) w (gl0.stM gm0 hS) (gl1.stM gm1 hS)) ?_
 refine Gm rfl (Gt (AK rfl rfl) (Gt (AK rfl rfl) (Gt (AK rfl rfl) (Gt (AK rfl rfl) (Ga rfl (Ga rfl (Ga rfl ?_)))))))
 refine Ga rfl (Gn (.t5 0 6 7 8 9) (B7 (Gm rfl (Gt (CK rfl rfl) (Gm rfl (BU 20 rfl rfl (fun q => AE rfl) ?_))))))
 refine Gt (BP rfl rfl (fun h => by rw [h]; rfl)) ?_
 refine Gn (.t4 0 6 7 22) ?_
 refine Gc (fun c1 => ?_) (fun c1 => ?_)
 ·
  refine Gs (Ga rfl (Ga rfl (Gn (.t2 4 5) (Ab (AD ?_)))))
  refine AY rfl (.tmp rfl (.tmp rfl .n)) ?_
  intro w1 hS
  have hS := (hS.perm (Av.perm (.c .h .n))).Az
  have hq : T.one u = _ := (A9 c1)
  exact ⟨_, ⟨by rw [hq]; rfl, rfl⟩, hS⟩
 have c1p := kz c1
 refine Aa ?_
 refine AB (.t3 0 6 7) ?_
 refine AA (Gs (Gm rfl (Gm rfl ?_)))
 refine Ah rfl SW (.c rfl .n) (.c .h .n) (HD _ _ _ (by first | assumption | omega)) (fun v1 B hv => ?_)
 obtain ⟨y2, rfl, y3, rfl⟩ := hv
 refine Gm rfl ?_
 refine Ah rfl VC (.c rfl .n) (.c .h .n) (H8 _ _ _ (by first | assumption | omega)) (fun v5 B hv => ?_)
 obtain ⟨y6, rfl, y7, rfl⟩ := hv
 refine CO Bw rfl Tryz.underlying169 Cy Yn rfl aD (by decide) (by decide) rfl rfl (fun w hS => Src.DU Tryz.underlying169 ((Kn.own .m1) w hS)) (by (try dsimp only); omega) (fun _ => (.t (.t .h))) (fun h9 h9l h9z => ?_)
 refine Gm rfl (Gm rfl ?_)
 refine Ah rfl Oe (.c rfl (.c rfl (.c rfl (.c rfl (.c rfl .n))))) (.c .h (.c (.t .h) .n)) (Ec _ T _ _ (T.own ++ T.seen) _ _ _ hF (by rw [List.length_append]; omega) (by rw [List.length_append]; omega) (fun i hi => AF.O6 hi)) (fun v10 B hv => ?_)
 obtain ⟨y11, rfl, y12, rfl⟩ := hv
 refine Ga rfl (Gn (.t1 10) (B7 (Gm rfl (Gt (Ao rfl Tryz.underlying169 rfl) (Gt (Af rfl rfl) (Gn (.t2 10 34) ?_))))))
 refine Gc (fun c2 => ?_) (fun c2 => ?_)
 ·
  have c2p := kz c2
  have hpl := y12
  rw [hpl] at c2 c2p
  refine Gs (Ga rfl (Ga rfl (Gn (.t2 4 5) (Ab (AD ?_)))))
  refine AY rfl (.tmp rfl (.tmp rfl .n)) ?_
  intro w1 hS
  have hS := (hS.perm (Av.perm (.c .h .n))).Az
  have hq : T.one u = _ := ((AU c1).trans (A9 c2))
  exact ⟨_, ⟨by rw [hq]; rfl, rfl⟩, hS⟩
 have c2p := kz c2
 have hpl := y12
 rw [hpl] at c2 c2p
 refine Aa ?_
 refine AB (.t1 10) ?_
 refine AA (Gs (Gm rfl ?_))
 refine Gt (Bm F7 (by decide) (Kn.own .m2) rfl rfl (by omega) (by omega)) ?_
 refine Gt (C1 rfl A2 (Kn.own .m2) (by omega)) ?_
 refine Ga rfl (Ga rfl (Gn (.t2 4 5) (Ab ?_)))
 refine AY rfl (.tmp rfl (.tmp rfl .n)) ?_
 intro w1 hS
 have hS := (hS.perm (Av.perm (.c .h .n))).Az
 have hq : T.one u = _ := ((AU c1).trans (AU c2))
 exact ⟨_, ⟨by rw [hq]; rfl, rfl⟩, hS⟩
theorem Lg (b : Nat) (T : AF) (g : Hd) (u : Aq) (hg : g.len = T.out.length) (hF : T.Fit) (hu : u.length ≤ 5000000) (hn : T.out.length ≤ 99000) : Ew Tryz.prog 133 #[.pointer (some ⟨b, 0, none⟩), BQ u] [Ad.box b 163 (Ac.enc ⟨T.w, T.b, g⟩), Ad.own g 56 16 (T.out.flatMap Ing.Event.enc)] (fun w => (F8 7 w ∧ 7 ∉ CW [Ad.box b 163 (Ac.enc ⟨T.w, T.b, g⟩), Ad.own g 56 16 (T.out.flatMap Ing.Event.enc)]) ∧ (F8 8 w ∧ 8 ∉ CW [Ad.box b 163 (Ac.enc ⟨T.w, T.b, g⟩), Ad.own g 56 16 (T.out.flatMap Ing.Event.enc)])) (fun v B => ∃ g' : Hd, v = .tuple #[.int .i64 (T.box u).2.1, .bool (T.box u).2.2] ∧ g'.len = ((T.box u).1).out.length ∧ B = [Ad.box b 163 (Ac.enc ⟨((T.box u).1).w, ((T.box u).1).b, g'⟩), Ad.own g' 56 16 (((T.box u).1).out.flatMap Ing.Event.enc)]) := by
 intro w hS0 hH
 obtain ⟨⟨gl0, gm0⟩, ⟨gl1, gm1⟩⟩ := hH
 have hb := hF.b
 have hr := hF.room
 have ho := T.Sn u
 refine Am _ _ Tryz.func133 rfl rfl rfl (hS0) ?_
 refine Gs (Ga rfl (Ga rfl (Gn (.t2 0 1) (Gs (Gm rfl (Gm rfl ?_))))))
 refine BC rfl ZC (.c rfl (.c rfl .n)) (.c .h .n) (RH _ T _ _ hF hu) (fun w hS => ⟨gl0.pull gm0 hS (.c .h .n), gl1.pull gm1 hS (.c .h .n)⟩) (fun v1 B hv => ?_)
 obtain ⟨rfl, rfl⟩ := hv
 refine Gm rfl (Gt (AK rfl rfl) (Gt (AK rfl rfl) (Ga rfl (Ga rfl (Gn (.t3 0 6 7) (B7 (Gm rfl ?_)))))))
 refine Gt (BS rfl) (Gm rfl (BU 16 rfl rfl (fun q => AE rfl) (BU 16 rfl rfl (fun q => AE rfl) (BU 16 rfl rfl (fun q => BR (cF rfl q)) (BU 16 rfl rfl (fun q => Ai A5 (cF rfl q)) (BU 16 rfl rfl (fun q => Ai Ci (cF rfl q)) ?_))))))
 refine BU 16 rfl rfl (fun q => by have q1 := q; (try simp at q1); exact AQ Fi (cF rfl q) (cF rfl q) (by first | omega | exact hb.1 | exact hb.2 | (dsimp only; omega)) (by first | omega | exact hb.1 | exact hb.2 | (dsimp only; omega))) ?_
 refine BU 16 rfl rfl (fun q => Ai GG (cF rfl q)) ?_
 refine BU 16 rfl rfl (fun q => by have q1 := q; (try simp at q1); exact AG (cF rfl q) A2 .m0 (((Ac.l0.comp AH.l1).comp (AS.ar (n := 9) Ak.fl (by first | omega | exact hb | (dsimp only; omega)))).comp Ak.l1) rfl rfl) ?_
 refine BU 16 rfl rfl (fun q => CK (cF rfl q) rfl) ?_
 refine Gt (BP rfl rfl (fun h => by rw [h]; rfl)) ?_
 refine Gn (.t3 0 6 26) ?_
 refine Gc (fun c1 => ?_) (fun c1 => ?_)
 ·
  have c1p := kz c1
  refine Gs (Gm rfl ?_)
  refine Ah rfl Dv (.c rfl (.c rfl .n)) (.c .h (.c .h .n)) (BW _ _ _ _ hg hb (by omega)) (fun v2 B hv => ?_)
  obtain ⟨y3, rfl, y4, rfl⟩ := hv
  refine Gn (.nil _) (Gs (Ga rfl (Ga rfl (AO (AA (Ab (AD ?_)))))))
  refine AY rfl (.tmp rfl (.tmp rfl .n)) ?_
  intro w1 hS
  have hS := (hS.perm (Av.perm (.c .h (.c .h .n)))).Az
  have hq : T.box u = _ := (A9 c1)
  refine ⟨_, ⟨?gq1, ?hv1, ?hl1, ?hB1⟩, hS⟩
  case hB1 => rw [hq]; (try rfl)
  case hv1 => rw [hq]; (try rfl)
  case hl1 => rw [hq]; assumption
 have c1p := kz c1
 refine Aa ?_
 refine AB (.t2 0 6) ?_
 refine AA (B7 (Gm rfl (Gm rfl (Gt (BR rfl) (Gt (Ai A5 rfl) (Gt (Ai Ci rfl) ?_))))))
 refine Gt (AQ Fi rfl rfl (by first | omega | exact hb.1 | exact hb.2 | (dsimp only; omega)) (by first | omega | exact hb.1 | exact hb.2 | (dsimp only; omega))) ?_
 refine Gt (Ai FX rfl) ?_
 refine Gt (AG rfl DV .m0 (((Ac.l0.comp AH.l1).comp (AS.ar (n := 9) Ak.fl (by first | omega | exact hb | (dsimp only; omega)))).comp Ak.l4) rfl rfl) ?_
 refine Gt (BS rfl) (Gn (.t3 0 6 37) ?_)
 refine Gc (fun c2 => ?_) (fun c2 => ?_)
 ·
  have c2p := kz c2
  refine Gs (Gm rfl ?_)
  refine Ah rfl Dv (.c rfl (.c rfl .n)) (.c .h (.c .h .n)) (BW _ _ _ _ hg hb (by omega)) (fun v5 B hv => ?_)
  obtain ⟨y6, rfl, y7, rfl⟩ := hv
  refine Gn (.nil _) (Gs (Ga rfl (Ga rfl (AO (AA (Ab (AD ?_)))))))
  refine AY rfl (.tmp rfl (.tmp rfl .n)) ?_
  intro w1 hS
  have hS := (hS.perm (Av.perm (.c .h (.c .h .n)))).Az
  have hq : T.box u = _ := ((AU c1).trans (A9 c2))
  refine ⟨_, ⟨?gq2, ?hv2, ?hl2, ?hB2⟩, hS⟩
  case hB2 => rw [hq]; (try rfl)
  case hv2 => rw [hq]; (try rfl)
  case hl2 => rw [hq]; assumption
 have c2p := kz c2
 refine Aa ?_
 refine AB (.t1 6) ?_
 refine AA (Gs (Gm rfl (Ga rfl (Ga rfl (Gn (.t2 4 5) (Ab ?_))))))
 refine AY rfl (.tmp rfl (.tmp rfl .n)) ?_
 intro w1 hS
 have hS := (hS.perm (Av.perm (.c .h (.c .h .n)))).Az
 have hq : T.box u = _ := ((AU c1).trans (AU c2))
 refine ⟨_, ⟨?gq3, ?hv3, ?hl3, ?hB3⟩, hS⟩
 case hB3 => rw [hq]; (try rfl)
 case hv3 => rw [hq]; (try rfl)
 case hl3 => rw [hq]; assumption
theorem De (b : Nat) (T : AF) (g : Hd) (k i : Int) (hg : g.len = T.out.length) (hb : 0 ≤ T.b ∧ T.b < 6) (hi : 0 ≤ i ∧ i < 9) (hn : T.out.length ≤ 100000) : JU Tryz.prog 135 #[.pointer (some ⟨b, 0, none⟩), .int .i64 k, .int .i64 i] [Ad.box b 163 (Ac.enc ⟨T.w, T.b, g⟩), Ad.own g 56 16 (T.out.flatMap Ing.Event.enc)] (fun v B => ∃ g' : Hd, v = .tuple #[] ∧ g'.len = (T.By k i).out.length ∧ B = [Ad.box b 163 (Ac.enc ⟨(T.By k i).w, (T.By k i).b, g'⟩), Ad.own g' 56 16 ((T.By k i).out.flatMap Ing.Event.enc)]) := by
 intro w hS0
 refine Am _ _ Tryz.func135 rfl rfl rfl (hS0) ?_
 refine AI (Gm rfl (Gm rfl (Gm rfl (Gm rfl (Gt (BR rfl) (Gt (Ai A5 rfl) (Gt (Ai Ci rfl) ?_)))))))
 refine Gt (AQ Fi rfl rfl (by (try dsimp only at *); omega) (by (try dsimp only at *); omega)) ?_
 refine Gt (Ai LI rfl) ?_
 refine Gt (AG rfl CN .m0 (((Ac.l0.comp AH.l1).comp (AS.arr (n := 9) Ak.fl (by (try dsimp only at *); omega) (by (try dsimp only at *); omega))).comp Ak.l0) rfl rfl) ?_
 refine Gt (BA MP Hk rfl (.cons Ing.Event.l0 rfl rfl rfl (.cons Ing.Event.l3 rfl rfl rfl (.cons Ing.Event.l8 rfl rfl rfl .nil)))) ?_
 refine Ah rfl Mk (.c rfl (.c rfl .n)) (.c .h (.c .h .n)) (CC _ _ _ { AF.GA k with By := (T.w.AX.at i).name } hg hb (show (-1 : Int) < 6 by decide) hn) (fun v1 B hv => ?_)
 obtain ⟨y2, rfl, y3, rfl⟩ := hv
 refine AO ?_
 refine Be rfl .n ?_
 intro w1 hS
 have hS := (hS.perm (Av.perm (.c .h (.c .h .n)))).Az
 exact ⟨_, ⟨_, rfl, by assumption, rfl⟩, hS⟩
theorem RA (b : Nat) (T : AF) (g : Hd) (o : Order) (hg : g.len = T.out.length) (hF : T.Fit) (hu : o.second.length ≤ 5000000) (hn : T.out.length ≤ 90000) : Ew Tryz.prog 105 #[.pointer (some ⟨b, 0, none⟩), .agg o.enc.toArray] [Ad.box b 163 (Ac.enc ⟨T.w, T.b, g⟩), Ad.own g 56 16 (T.out.flatMap Ing.Event.enc)] (fun w => (F8 7 w ∧ 7 ∉ CW [Ad.box b 163 (Ac.enc ⟨T.w, T.b, g⟩), Ad.own g 56 16 (T.out.flatMap Ing.Event.enc)]) ∧ (F8 8 w ∧ 8 ∉ CW [Ad.box b 163 (Ac.enc ⟨T.w, T.b, g⟩), Ad.own g 56 16 (T.out.flatMap Ing.Event.enc)])) (fun v B => ∃ g' : Hd, v = .tuple #[] ∧ g'.len = (T.get o).out.length ∧ B = [Ad.box b 163 (Ac.enc ⟨(T.get o).w, (T.get o).b, g'⟩), Ad.own g' 56 16 ((T.get o).out.flatMap Ing.Event.enc)]) := by
 intro w hS0 hH
 obtain ⟨⟨gl0, gm0⟩, ⟨gl1, gm1⟩⟩ := hH
 have hb := hF.b
 have hr := hF.room
 refine Am _ _ Tryz.func105 rfl rfl rfl (hS0) ?_
 refine Gs ?_
 refine B3 rfl rfl rfl (fun b1 => ?_)
 refine Gn (.t2 0 3) (Gs (Gm rfl ?_))
 refine Ah rfl VC (.c rfl .n) (.c (.t .h) .n) (H8 _ _ _ (by first | assumption | omega)) (fun v1 B hv => ?_)
 obtain ⟨y2, rfl, y3, rfl⟩ := hv
 refine Ga rfl (Gn (.t3 0 3 4) (B7 (Gt (Ai HG rfl) (Gt (AG rfl CN .m2 Order.l4 rfl rfl) (Gt (Dj rfl rfl) (Gn (.t4 0 3 4 14) ?_))))))
 refine Gc (fun c1 => ?_) (fun c1 => ?_)
 ·
  have c1p := kz c1
  refine Gs (Gm rfl (Gt (Ai HG rfl) (Gt (AG rfl CN .m2 Order.l4 rfl rfl) ?_)))
  refine BC rfl Xo (.c rfl (.c rfl .n)) (.c .h (.c (.t (.t .h)) .n)) (Lg _ T _ _ hg hF hu (by omega)) (fun w hS => ⟨gl0.pull gm0 hS (.c .h (.c (.t (.t .h)) .n)), gl1.pull gm1 hS (.c .h (.c (.t (.t .h)) .n))⟩) (fun v5 B hv => ?_)
  obtain ⟨y6, rfl, y7, rfl⟩ := hv
  refine Gm rfl (Gt (AK rfl rfl) (Gt (AK rfl rfl) (Ga rfl (Ga rfl (Gn (.t4 0 3 5 6) (B7 (Gm rfl ?_)))))))
  refine Gt (BS rfl) (Gn (.t4 0 3 5 23) ?_)
  refine Gc (fun c2 => ?_) (fun c2 => ?_)
  ·
   have c2p := kz c2
   refine Ab (AD (AD ?_))
   refine AY rfl .n ?_
   intro w1 hS
   have hS := (hS.perm (Av.perm (.c .h (.c .h .n)))).Az
   have hq : T.get o = _ := ((A9 c1).trans (A9 c2))
   refine ⟨_, ⟨?gq1, rfl, ?hl1, ?hB1⟩, hS⟩
   case hB1 => rw [hq]; (try rfl)
   case hl1 => rw [hq]; assumption
  have c2p := kz c2
  refine Aa ?_
  refine AB (.t3 0 3 5) ?_
  refine AA (AI (Gm rfl (Gt (BR rfl) (Gt (Ai A5 rfl) (Gt (AZ rfl BT .m0 Ac.l0 rfl) (Gm rfl ?_))))))
  refine Ah rfl QV (.c rfl (.c rfl (.c rfl .n))) .n (En _ _ _) (fun v8 B hv => ?_)
  obtain ⟨y9, rfl, y10, rfl⟩ := hv
  refine Ga rfl (Gn (.t3 0 3 4) (Gs (Gm rfl (Gm rfl (Gt (Ai Ft rfl) (Gt (AG rfl A2 .m4 Order.l1 rfl rfl) (Gt (Ai FE rfl) ?_)))))))
  refine Gt (AG rfl CN .m4 Order.l3 rfl rfl) (Gt (Ai GO rfl) (Gt (AG rfl DV .m4 Order.l2 rfl rfl) ?_))
  refine Ah rfl Oe (.c rfl (.c rfl (.c rfl (.c rfl (.c rfl .n))))) (.c (.t .h) (.c .h .n)) (Ec _ (T.box o.second).1 _ _ ((T.box o.second).1.w.has 2 (T.box o.second).2.1) _ _ _ (hF.O1 (T.OE _).1 (T.OE _).2) (by assumption) (Nat.le_trans (AH.Ha _ _ _) (by decide)) (fun i hi => AH.GS hi)) (fun v12 B hv => ?_)
  obtain ⟨y13, rfl, y14, rfl⟩ := hv
  refine Ga rfl (Gn (.t2 0 4) (B7 (Gm rfl (Gt (Ao rfl Tryz.underlying169 rfl) (Gt (Af rfl rfl) (Gn (.t3 0 4 41) ?_))))))
  refine Gc (fun c3 => ?_) (fun c3 => ?_)
  ·
   have c3p := kz c3
   rw [y14] at c3
   refine AI (Gm rfl ?_)
   refine Ah rfl Dv (.c rfl (.c rfl .n)) (.c .h (.c (.t (.t .h)) .n)) (BW _ (T.box o.second).1 _ _ (by assumption) (by rw [(T.OE _).2]; exact hb) (by have := T.HA o.second; omega)) (fun v16 B hv => ?_)
   obtain ⟨y17, rfl, y18, rfl⟩ := hv
   refine Gn (.t2 0 4) (Gs (Gm rfl (Gt (Ao rfl Tryz.underlying169 rfl) (Gm rfl (Gn (.t4 0 44 45 46) (Ae ?_))))))
   refine Bl (.t4 46 0 44 45) ?_
   refine BZ (.t .h) ?_
   refine BZ (.t .h) ?_
   refine DX (fun (k : Int) (X : AF) (h : Hd) => 0 ≤ k ∧ k ≤ ((AF.BO (T.box o.second).1.w ((T.box o.second).1.w.has 2 (T.box o.second).2.1) o.nth o.name o.Bk).length : Int) ∧ T.get o = X.DZ ((AF.BO (T.box o.second).1.w ((T.box o.second).1.w.has 2 (T.box o.second).2.1) o.nth o.name o.Bk).drop k.toNat) ∧ X.b = T.b ∧ (X.out.length : Int) ≤ T.out.length + 2 + k ∧ h.len = X.out.length ∧ ((AF.BO (T.box o.second).1.w ((T.box o.second).1.w.has 2 (T.box o.second).2.1) o.nth o.name o.Bk).length : Int) ≤ 9) (fun (k : Int) (X : AF) (h : Hd) => (((AF.BO (T.box o.second).1.w ((T.box o.second).1.w.has 2 (T.box o.second).2.1) o.nth o.name o.Bk).length : Int) - k).toNat) (fun (k : Int) (X : AF) (h : Hd) => [(46, .int .i64 k)]) (fun (k : Int) (X : AF) (h : Hd) => [Ad.box b 163 (Ac.enc ⟨X.w, X.b, h⟩), Ad.own h 56 16 (X.out.flatMap Ing.Event.enc)]) (0) (_) (_) ?_ rfl rfl (fun k X h hI1 => ?_)
   · exact ⟨by omega, by omega, ((A9 c1).trans (AU c2)).trans (congrArg (fun q => AF.DZ q _) (A9 c3)), (T.OE _).2, by have := T.HA o.second; (try simp only [AF.B6]); omega, by assumption, by have := (AF.ET (T.box o.second).1.w ((T.box o.second).1.w.has 2 (T.box o.second).2.1) o.nth o.name o.Bk).length_le; have := AH.Ha (T.box o.second).1.w 2 (T.box o.second).2.1; omega⟩
   obtain ⟨hI11, hI12, hI13, hI14, hI15, hI16, hI17⟩ := hI1
   refine Gs (Gt (A6 rfl rfl) (AO (AA (Ap ?_))))
   refine Gc (fun c4 => ?_) (fun c4 => ?_)
   ·
    have c4p := kz c4
    have hx : 0 ≤ (AF.BO (T.box o.second).1.w ((T.box o.second).1.w.has 2 (T.box o.second).2.1) o.nth o.name o.Bk).getD k.toNat 0 ∧ (AF.BO (T.box o.second).1.w ((T.box o.second).1.w.has 2 (T.box o.second).2.1) o.nth o.name o.Bk).getD k.toNat 0 < 9 := (fun i hi => AH.GS (AF.EV hi)) _ (Bb.Ef (xs := (AF.BO (T.box o.second).1.w ((T.box o.second).1.w.has 2 (T.box o.second).2.1) o.nth o.name o.Bk)) (i := k.toNat) (by omega))
    refine Aa ?_
    refine AB (.t4 0 44 45 46) ?_
    refine AA (Ap (Ae (Gs ?_)))
    refine Gt (Bm F7 (by decide) (Kn.own .m3) rfl rfl (by omega) (by omega)) ?_
    refine Gt (C1 rfl A2 (Kn.own .m3) (by omega)) ?_
    refine Ga rfl (Gn (.t5 0 8 44 45 46) (Gs (Gm rfl (Gm rfl (Gt (BR rfl) (Gt (Ai A5 rfl) (Gt (Ai Ci rfl) ?_)))))))
    refine Gt (AQ Fi rfl rfl (by first | omega | exact hb.1 | exact hb.2 | (dsimp only; omega)) (by first | omega | exact hb.1 | exact hb.2 | (dsimp only; omega))) ?_
    refine Ga rfl (Gn (.t6 0 8 9 44 45 46) (Gs (Gm rfl (Gm rfl (Gm rfl (Gt (BR rfl) (Gt (Ai CE rfl) ?_)))))))
    refine Gt (AG rfl A2 .m0 Ac.l1 rfl rfl) (Gt (BR rfl) (Gt (Ai Ez rfl) ?_))
    refine AR (AJ (((Ac.l0.comp AH.l1).comp (AS.ar (n := 9) Ak.fl (by first | omega | exact hb | (dsimp only; omega)))).comp Ak.l2) rfl rfl rfl Cy rfl .h) ?_
    refine Gt (BR rfl) (Gt (Ai Cz rfl) ?_)
    refine AR (AJ (((Ac.l0.comp AH.l1).comp (AS.ar (n := 9) Ak.fl (by first | omega | exact hb | (dsimp only; omega)))).comp Ak.l3) rfl rfl rfl Cy rfl .h) ?_
    refine Gn (.t5 0 8 44 45 46) ?_
    refine FW (fun _ => .h) (congrArg (fun q => Ac.enc ⟨q, _, _⟩) (AF.Gk X hx.1 hx.2 1 X.b)) ?_
    refine AI (Gm rfl (Gm rfl ?_))
    refine Ah rfl M7 (.c rfl (.c rfl (.c rfl .n))) (.c .h (.c .h .n)) (De _ (X.place ((AF.BO (T.box o.second).1.w ((T.box o.second).1.w.has 2 (T.box o.second).2.1) o.nth o.name o.Bk).getD k.toNat 0) 1 X.b) _ 3 ((AF.BO (T.box o.second).1.w ((T.box o.second).1.w.has 2 (T.box o.second).2.1) o.nth o.name o.Bk).getD k.toNat 0) (by assumption) (show 0 ≤ X.b ∧ X.b < 6 by rw [hI14]; exact hb) hx (show X.out.length ≤ 100000 by omega)) (fun v19 B hv => ?_)
    obtain ⟨y20, rfl, y21, rfl⟩ := hv
    refine AO (AB (.t4 0 44 45 46) ?_)
    refine AT (AA (AI ?_))
    refine Gt (As rfl rfl (IntWalk.i64_in _ (by first | omega | exact hb.1 | exact hb.2 | (dsimp only; omega)))) ?_
    refine Gm rfl ?_
    refine AO (AB (.t4 0 44 45 46) ?_)
    refine Bt (k + 1) _ _ ?_ ?_ (.t4 46 0 44 45) (.refl _)
    · exact ⟨by omega, by omega, by rw [hI13, AF.GW hI11 (by omega)], hI14, (by rw [AF.E6]; show ((X.out.length + 1 : Nat) : Int) ≤ _; omega), by assumption, hI17⟩
    · omega
   have c4p := kz c4
   obtain rfl : k = ((AF.BO (T.box o.second).1.w ((T.box o.second).1.w.has 2 (T.box o.second).2.1) o.nth o.name o.Bk).length : Int) := by omega
   rw [AF.Ix] at hI13
   refine BX (AW (AW (Ag ?_)))
   refine Be rfl .n ?_
   intro w1 hS
   have hS := (hS.perm (Av.perm (.c .h (.c .h .n)))).Az
   refine ⟨_, ⟨?gq2, rfl, ?hl2, ?hB2⟩, hS⟩
   case hB2 => rw [hI13]; rfl
   case hl2 => rw [hI13]; exact hI16
  have c3p := kz c3
  rw [y14] at c3
  refine Aa ?_
  refine AB (.t2 0 4) ?_
  refine AA (Gs (Gm rfl (Gt (Ao rfl Tryz.underlying169 rfl) (Gm rfl (Gn (.t4 0 44 45 46) (Ae ?_))))))
  refine Bl (.t4 46 0 44 45) ?_
  refine BZ (.t (.t (.t .h))) ?_
  refine BZ (.t .h) ?_
  refine DX (fun (k : Int) (X : AF) (h : Hd) => 0 ≤ k ∧ k ≤ ((AF.BO (T.box o.second).1.w ((T.box o.second).1.w.has 2 (T.box o.second).2.1) o.nth o.name o.Bk).length : Int) ∧ T.get o = X.DZ ((AF.BO (T.box o.second).1.w ((T.box o.second).1.w.has 2 (T.box o.second).2.1) o.nth o.name o.Bk).drop k.toNat) ∧ X.b = T.b ∧ (X.out.length : Int) ≤ T.out.length + 2 + k ∧ h.len = X.out.length ∧ ((AF.BO (T.box o.second).1.w ((T.box o.second).1.w.has 2 (T.box o.second).2.1) o.nth o.name o.Bk).length : Int) ≤ 9) (fun (k : Int) (X : AF) (h : Hd) => (((AF.BO (T.box o.second).1.w ((T.box o.second).1.w.has 2 (T.box o.second).2.1) o.nth o.name o.Bk).length : Int) - k).toNat) (fun (k : Int) (X : AF) (h : Hd) => [(46, .int .i64 k)]) (fun (k : Int) (X : AF) (h : Hd) => [Ad.box b 163 (Ac.enc ⟨X.w, X.b, h⟩), Ad.own h 56 16 (X.out.flatMap Ing.Event.enc)]) (0) (_) (_) ?_ rfl rfl (fun k X h hI1 => ?_)
  · exact ⟨by omega, by omega, ((A9 c1).trans (AU c2)).trans (congrArg (fun q => AF.DZ q _) (AU c3)), (T.OE _).2, by have := T.HA o.second; (try simp only [AF.B6]); omega, by assumption, by have := (AF.ET (T.box o.second).1.w ((T.box o.second).1.w.has 2 (T.box o.second).2.1) o.nth o.name o.Bk).length_le; have := AH.Ha (T.box o.second).1.w 2 (T.box o.second).2.1; omega⟩
  obtain ⟨hI11, hI12, hI13, hI14, hI15, hI16, hI17⟩ := hI1
  refine Gs (Gt (A6 rfl rfl) (AO (AA (Ap ?_))))
  refine Gc (fun c5 => ?_) (fun c5 => ?_)
  ·
   have c5p := kz c5
   have hx : 0 ≤ (AF.BO (T.box o.second).1.w ((T.box o.second).1.w.has 2 (T.box o.second).2.1) o.nth o.name o.Bk).getD k.toNat 0 ∧ (AF.BO (T.box o.second).1.w ((T.box o.second).1.w.has 2 (T.box o.second).2.1) o.nth o.name o.Bk).getD k.toNat 0 < 9 := (fun i hi => AH.GS (AF.EV hi)) _ (Bb.Ef (xs := (AF.BO (T.box o.second).1.w ((T.box o.second).1.w.has 2 (T.box o.second).2.1) o.nth o.name o.Bk)) (i := k.toNat) (by omega))
   refine Aa ?_
   refine AB (.t4 0 44 45 46) ?_
   refine AA (Ap (Ae (Gs ?_)))
   refine Gt (Bm F7 (by decide) (Kn.own .m3) rfl rfl (by omega) (by omega)) ?_
   refine Gt (C1 rfl A2 (Kn.own .m3) (by omega)) ?_
   refine Ga rfl (Gn (.t5 0 8 44 45 46) (Gs (Gm rfl (Gm rfl (Gt (BR rfl) (Gt (Ai A5 rfl) (Gt (Ai Ci rfl) ?_)))))))
   refine Gt (AQ Fi rfl rfl (by first | omega | exact hb.1 | exact hb.2 | (dsimp only; omega)) (by first | omega | exact hb.1 | exact hb.2 | (dsimp only; omega))) ?_
   refine Ga rfl (Gn (.t6 0 8 9 44 45 46) (Gs (Gm rfl (Gm rfl (Gm rfl (Gt (BR rfl) (Gt (Ai CE rfl) ?_)))))))
   refine Gt (AG rfl A2 .m0 Ac.l1 rfl rfl) (Gt (BR rfl) (Gt (Ai Ez rfl) ?_))
   refine AR (AJ (((Ac.l0.comp AH.l1).comp (AS.ar (n := 9) Ak.fl (by first | omega | exact hb | (dsimp only; omega)))).comp Ak.l2) rfl rfl rfl Cy rfl .h) ?_
   refine Gt (BR rfl) (Gt (Ai Cz rfl) ?_)
   refine AR (AJ (((Ac.l0.comp AH.l1).comp (AS.ar (n := 9) Ak.fl (by first | omega | exact hb | (dsimp only; omega)))).comp Ak.l3) rfl rfl rfl Cy rfl .h) ?_
   refine Gn (.t5 0 8 44 45 46) ?_
   refine FW (fun _ => .h) (congrArg (fun q => Ac.enc ⟨q, _, _⟩) (AF.Gk X hx.1 hx.2 1 X.b)) ?_
   refine AI (Gm rfl (Gm rfl ?_))
   refine Ah rfl M7 (.c rfl (.c rfl (.c rfl .n))) (.c .h (.c .h .n)) (De _ (X.place ((AF.BO (T.box o.second).1.w ((T.box o.second).1.w.has 2 (T.box o.second).2.1) o.nth o.name o.Bk).getD k.toNat 0) 1 X.b) _ 3 ((AF.BO (T.box o.second).1.w ((T.box o.second).1.w.has 2 (T.box o.second).2.1) o.nth o.name o.Bk).getD k.toNat 0) (by assumption) (show 0 ≤ X.b ∧ X.b < 6 by rw [hI14]; exact hb) hx (show X.out.length ≤ 100000 by omega)) (fun v22 B hv => ?_)
   obtain ⟨y23, rfl, y24, rfl⟩ := hv
   refine AO (AB (.t4 0 44 45 46) ?_)
   refine AT (AA (AI ?_))
   refine Gt (As rfl rfl (IntWalk.i64_in _ (by first | omega | exact hb.1 | exact hb.2 | (dsimp only; omega)))) ?_
   refine Gm rfl ?_
   refine AO (AB (.t4 0 44 45 46) ?_)
   refine Bt (k + 1) _ _ ?_ ?_ (.t4 46 0 44 45) (.refl _)
   · exact ⟨by omega, by omega, by rw [hI13, AF.GW hI11 (by omega)], hI14, (by rw [AF.E6]; show ((X.out.length + 1 : Nat) : Int) ≤ _; omega), by assumption, hI17⟩
   · omega
  have c5p := kz c5
  obtain rfl : k = ((AF.BO (T.box o.second).1.w ((T.box o.second).1.w.has 2 (T.box o.second).2.1) o.nth o.name o.Bk).length : Int) := by omega
  rw [AF.Ix] at hI13
  refine BX (AW (AW (Ag ?_)))
  refine Be rfl .n ?_
  intro w1 hS
  have hS := (hS.perm (Av.perm (.c .h (.c .h .n)))).Az
  refine ⟨_, ⟨?gq3, rfl, ?hl3, ?hB3⟩, hS⟩
  case hB3 => rw [hI13]; rfl
  case hl3 => rw [hI13]; exact hI16
 have c1p := kz c1
 refine Aa ?_
 refine AB (.t3 0 3 4) ?_
 refine AA (Gs (Gm rfl (Gm rfl (Gt (Ai Ft rfl) (Gt (AG rfl A2 .m2 Order.l1 rfl rfl) (Gt (Ai FE rfl) (Gt (AG rfl CN .m2 Order.l3 rfl rfl) ?_)))))))
 refine Gt (Ai GO rfl) (Gt (AG rfl DV .m2 Order.l2 rfl rfl) ?_)
 refine Ah rfl Oe (.c rfl (.c rfl (.c rfl (.c rfl (.c rfl .n))))) (.c .h (.c .h .n)) (Ec _ T _ _ T.seen _ _ _ hF (by assumption) (Nat.le_trans T.Hu (by decide)) (fun i hi => AF.NY hi)) (fun v25 B hv => ?_)
 obtain ⟨y26, rfl, y27, rfl⟩ := hv
 refine Ga rfl (Gn (.t2 0 4) (B7 (Gm rfl (Gt (Ao rfl Tryz.underlying169 rfl) (Gt (Af rfl rfl) (Gn (.t3 0 4 41) ?_))))))
 refine Gc (fun c6 => ?_) (fun c6 => ?_)
 ·
  have c6p := kz c6
  rw [y27] at c6
  refine AI (Gm rfl ?_)
  refine Ah rfl Dv (.c rfl (.c rfl .n)) (.c .h (.c (.t (.t (.t .h))) .n)) (BW _ T _ _ (by assumption) (by exact hb) (by have := T.HA o.second; omega)) (fun v29 B hv => ?_)
  obtain ⟨y30, rfl, y31, rfl⟩ := hv
  refine Gn (.t2 0 4) (Gs (Gm rfl (Gt (Ao rfl Tryz.underlying169 rfl) (Gm rfl (Gn (.t4 0 44 45 46) (Ae ?_))))))
  refine Bl (.t4 46 0 44 45) ?_
  refine BZ (.t .h) ?_
  refine BZ (.t .h) ?_
  refine DX (fun (k : Int) (X : AF) (h : Hd) => 0 ≤ k ∧ k ≤ ((AF.BO T.w T.seen o.nth o.name o.Bk).length : Int) ∧ T.get o = X.DZ ((AF.BO T.w T.seen o.nth o.name o.Bk).drop k.toNat) ∧ X.b = T.b ∧ (X.out.length : Int) ≤ T.out.length + 2 + k ∧ h.len = X.out.length ∧ ((AF.BO T.w T.seen o.nth o.name o.Bk).length : Int) ≤ 9) (fun (k : Int) (X : AF) (h : Hd) => (((AF.BO T.w T.seen o.nth o.name o.Bk).length : Int) - k).toNat) (fun (k : Int) (X : AF) (h : Hd) => [(46, .int .i64 k)]) (fun (k : Int) (X : AF) (h : Hd) => [Ad.box b 163 (Ac.enc ⟨X.w, X.b, h⟩), Ad.own h 56 16 (X.out.flatMap Ing.Event.enc)]) (0) (_) (_) ?_ rfl rfl (fun k X h hI1 => ?_)
  · exact ⟨by omega, by omega, (AU c1).trans (congrArg (fun q => AF.DZ q _) (A9 c6)), rfl, by have := T.HA o.second; (try simp only [AF.B6]); omega, by assumption, by have := (AF.ET T.w T.seen o.nth o.name o.Bk).length_le; have := T.Hu; omega⟩
  obtain ⟨hI11, hI12, hI13, hI14, hI15, hI16, hI17⟩ := hI1
  refine Gs (Gt (A6 rfl rfl) (AO (AA (Ap ?_))))
  refine Gc (fun c7 => ?_) (fun c7 => ?_)
  ·
   have c7p := kz c7
   have hx : 0 ≤ (AF.BO T.w T.seen o.nth o.name o.Bk).getD k.toNat 0 ∧ (AF.BO T.w T.seen o.nth o.name o.Bk).getD k.toNat 0 < 9 := (fun i hi => AF.NY (AF.EV hi)) _ (Bb.Ef (xs := (AF.BO T.w T.seen o.nth o.name o.Bk)) (i := k.toNat) (by omega))
   refine Aa ?_
   refine AB (.t4 0 44 45 46) ?_
   refine AA (Ap (Ae (Gs ?_)))
   refine Gt (Bm F7 (by decide) (Kn.own .m3) rfl rfl (by omega) (by omega)) ?_
   refine Gt (C1 rfl A2 (Kn.own .m3) (by omega)) ?_
   refine Ga rfl (Gn (.t5 0 8 44 45 46) (Gs (Gm rfl (Gm rfl (Gt (BR rfl) (Gt (Ai A5 rfl) (Gt (Ai Ci rfl) ?_)))))))
   refine Gt (AQ Fi rfl rfl (by first | omega | exact hb.1 | exact hb.2 | (dsimp only; omega)) (by first | omega | exact hb.1 | exact hb.2 | (dsimp only; omega))) ?_
   refine Ga rfl (Gn (.t6 0 8 9 44 45 46) (Gs (Gm rfl (Gm rfl (Gm rfl (Gt (BR rfl) (Gt (Ai CE rfl) ?_)))))))
   refine Gt (AG rfl A2 .m0 Ac.l1 rfl rfl) (Gt (BR rfl) (Gt (Ai Ez rfl) ?_))
   refine AR (AJ (((Ac.l0.comp AH.l1).comp (AS.ar (n := 9) Ak.fl (by first | omega | exact hb | (dsimp only; omega)))).comp Ak.l2) rfl rfl rfl Cy rfl .h) ?_
   refine Gt (BR rfl) (Gt (Ai Cz rfl) ?_)
   refine AR (AJ (((Ac.l0.comp AH.l1).comp (AS.ar (n := 9) Ak.fl (by first | omega | exact hb | (dsimp only; omega)))).comp Ak.l3) rfl rfl rfl Cy rfl .h) ?_
   refine Gn (.t5 0 8 44 45 46) ?_
   refine FW (fun _ => .h) (congrArg (fun q => Ac.enc ⟨q, _, _⟩) (AF.Gk X hx.1 hx.2 1 X.b)) ?_
   refine AI (Gm rfl (Gm rfl ?_))
   refine Ah rfl M7 (.c rfl (.c rfl (.c rfl .n))) (.c .h (.c .h .n)) (De _ (X.place ((AF.BO T.w T.seen o.nth o.name o.Bk).getD k.toNat 0) 1 X.b) _ 3 ((AF.BO T.w T.seen o.nth o.name o.Bk).getD k.toNat 0) (by assumption) (show 0 ≤ X.b ∧ X.b < 6 by rw [hI14]; exact hb) hx (show X.out.length ≤ 100000 by omega)) (fun v32 B hv => ?_)
   obtain ⟨y33, rfl, y34, rfl⟩ := hv
   refine AO (AB (.t4 0 44 45 46) ?_)
   refine AT (AA (AI ?_))
   refine Gt (As rfl rfl (IntWalk.i64_in _ (by first | omega | exact hb.1 | exact hb.2 | (dsimp only; omega)))) ?_
   refine Gm rfl ?_
   refine AO (AB (.t4 0 44 45 46) ?_)
   refine Bt (k + 1) _ _ ?_ ?_ (.t4 46 0 44 45) (.refl _)
   · exact ⟨by omega, by omega, by rw [hI13, AF.GW hI11 (by omega)], hI14, (by rw [AF.E6]; show ((X.out.length + 1 : Nat) : Int) ≤ _; omega), by assumption, hI17⟩
   · omega
  have c7p := kz c7
  obtain rfl : k = ((AF.BO T.w T.seen o.nth o.name o.Bk).length : Int) := by omega
  rw [AF.Ix] at hI13
  refine BX (AW (AW (Ag ?_)))
  refine Be rfl .n ?_
  intro w1 hS
  have hS := (hS.perm (Av.perm (.c .h (.c .h .n)))).Az
  refine ⟨_, ⟨?gq4, rfl, ?hl4, ?hB4⟩, hS⟩
  case hB4 => rw [hI13]; rfl
  case hl4 => rw [hI13]; exact hI16
 have c6p := kz c6
 rw [y27] at c6
 refine Aa ?_
 refine AB (.t2 0 4) ?_
 refine AA (Gs (Gm rfl (Gt (Ao rfl Tryz.underlying169 rfl) (Gm rfl (Gn (.t4 0 44 45 46) (Ae ?_))))))
 refine Bl (.t4 46 0 44 45) ?_
 refine BZ (.t (.t (.t (.t .h)))) ?_
 refine BZ (.t .h) ?_
 refine DX (fun (k : Int) (X : AF) (h : Hd) => 0 ≤ k ∧ k ≤ ((AF.BO T.w T.seen o.nth o.name o.Bk).length : Int) ∧ T.get o = X.DZ ((AF.BO T.w T.seen o.nth o.name o.Bk).drop k.toNat) ∧ X.b = T.b ∧ (X.out.length : Int) ≤ T.out.length + 2 + k ∧ h.len = X.out.length ∧ ((AF.BO T.w T.seen o.nth o.name o.Bk).length : Int) ≤ 9) (fun (k : Int) (X : AF) (h : Hd) => (((AF.BO T.w T.seen o.nth o.name o.Bk).length : Int) - k).toNat) (fun (k : Int) (X : AF) (h : Hd) => [(46, .int .i64 k)]) (fun (k : Int) (X : AF) (h : Hd) => [Ad.box b 163 (Ac.enc ⟨X.w, X.b, h⟩), Ad.own h 56 16 (X.out.flatMap Ing.Event.enc)]) (0) (_) (_) ?_ rfl rfl (fun k X h hI1 => ?_)
 · exact ⟨by omega, by omega, (AU c1).trans (congrArg (fun q => AF.DZ q _) (AU c6)), rfl, by have := T.HA o.second; (try simp only [AF.B6]); omega, by assumption, by have := (AF.ET T.w T.seen o.nth o.name o.Bk).length_le; have := T.Hu; omega⟩
 obtain ⟨hI11, hI12, hI13, hI14, hI15, hI16, hI17⟩ := hI1
 refine Gs (Gt (A6 rfl rfl) (AO (AA (Ap ?_))))
 refine Gc (fun c8 => ?_) (fun c8 => ?_)
 ·
  have c8p := kz c8
  have hx : 0 ≤ (AF.BO T.w T.seen o.nth o.name o.Bk).getD k.toNat 0 ∧ (AF.BO T.w T.seen o.nth o.name o.Bk).getD k.toNat 0 < 9 := (fun i hi => AF.NY (AF.EV hi)) _ (Bb.Ef (xs := (AF.BO T.w T.seen o.nth o.name o.Bk)) (i := k.toNat) (by omega))
  refine Aa ?_
  refine AB (.t4 0 44 45 46) ?_
  refine AA (Ap (Ae (Gs ?_)))
  refine Gt (Bm F7 (by decide) (Kn.own .m3) rfl rfl (by omega) (by omega)) ?_
  refine Gt (C1 rfl A2 (Kn.own .m3) (by omega)) ?_
  refine Ga rfl (Gn (.t5 0 8 44 45 46) (Gs (Gm rfl (Gm rfl (Gt (BR rfl) (Gt (Ai A5 rfl) (Gt (Ai Ci rfl) ?_)))))))
  refine Gt (AQ Fi rfl rfl (by first | omega | exact hb.1 | exact hb.2 | (dsimp only; omega)) (by first | omega | exact hb.1 | exact hb.2 | (dsimp only; omega))) ?_
  refine Ga rfl (Gn (.t6 0 8 9 44 45 46) (Gs (Gm rfl (Gm rfl (Gm rfl (Gt (BR rfl) (Gt (Ai CE rfl) ?_)))))))
  refine Gt (AG rfl A2 .m0 Ac.l1 rfl rfl) (Gt (BR rfl) (Gt (Ai Ez rfl) ?_))
  refine AR (AJ (((Ac.l0.comp AH.l1).comp (AS.ar (n := 9) Ak.fl (by first | omega | exact hb | (dsimp only; omega)))).comp Ak.l2) rfl rfl rfl Cy rfl .h) ?_
  refine Gt (BR rfl) (Gt (Ai Cz rfl) ?_)
  refine AR (AJ (((Ac.l0.comp AH.l1).comp (AS.ar (n := 9) Ak.fl (by first | omega | exact hb | (dsimp only; omega)))).comp Ak.l3) rfl rfl rfl Cy rfl .h) ?_
  refine Gn (.t5 0 8 44 45 46) ?_
  refine FW (fun _ => .h) (congrArg (fun q => Ac.enc ⟨q, _, _⟩) (AF.Gk X hx.1 hx.2 1 X.b)) ?_
  refine AI (Gm rfl (Gm rfl ?_))
  refine Ah rfl M7 (.c rfl (.c rfl (.c rfl .n))) (.c .h (.c .h .n)) (De _ (X.place ((AF.BO T.w T.seen o.nth o.name o.Bk).getD k.toNat 0) 1 X.b) _ 3 ((AF.BO T.w T.seen o.nth o.name o.Bk).getD k.toNat 0) (by assumption) (show 0 ≤ X.b ∧ X.b < 6 by rw [hI14]; exact hb) hx (show X.out.length ≤ 100000 by omega)) (fun v35 B hv => ?_)
  obtain ⟨y36, rfl, y37, rfl⟩ := hv
  refine AO (AB (.t4 0 44 45 46) ?_)
  refine AT (AA (AI ?_))
  refine Gt (As rfl rfl (IntWalk.i64_in _ (by first | omega | exact hb.1 | exact hb.2 | (dsimp only; omega)))) ?_
  refine Gm rfl ?_
  refine AO (AB (.t4 0 44 45 46) ?_)
  refine Bt (k + 1) _ _ ?_ ?_ (.t4 46 0 44 45) (.refl _)
  · exact ⟨by omega, by omega, by rw [hI13, AF.GW hI11 (by omega)], hI14, (by rw [AF.E6]; show ((X.out.length + 1 : Nat) : Int) ≤ _; omega), by assumption, hI17⟩
  · omega
 have c8p := kz c8
 obtain rfl : k = ((AF.BO T.w T.seen o.nth o.name o.Bk).length : Int) := by omega
 rw [AF.Ix] at hI13
 refine BX (AW (AW (Ag ?_)))
 refine Be rfl .n ?_
 intro w1 hS
 have hS := (hS.perm (Av.perm (.c .h (.c .h .n)))).Az
 refine ⟨_, ⟨?gq5, rfl, ?hl5, ?hB5⟩, hS⟩
 case hB5 => rw [hI13]; rfl
 case hl5 => rw [hI13]; exact hI16
theorem K6 (X : AH) (i box : Int) (w : World) : EL Tryz.prog 137 #[.agg X.enc.toArray, .int .i64 i, .int .i64 box] w fun v w' => v = .bool (X.X4 i box) ∧ B4 w w' := by
 refine Am [] [] Tryz.func137 rfl rfl rfl (St.start w []) ?_
 refine Gs ?_
 refine B3 rfl rfl rfl (fun b1 => ?_)
 refine Ga rfl (Gn (.t3 1 2 3) (B7 (Gm rfl (AO (AA (Ae ?_))))))
 refine Bl (.t4 1 7 2 3) ?_
 refine Gj (fun (k : Int) (j : Int) => 0 ≤ k ∧ k ≤ 10 ∧ X.X4 i box = X.inside box (10 - k).toNat j) (fun (k : Int) (j : Int) => (10 - k).toNat) (fun (k : Int) (j : Int) => [(1, .int .i64 j), (7, .int .i64 k)]) (fun (k : Int) (j : Int) => []) (0) (i) ?_ rfl rfl (fun k j hI1 => ?_)
 · exact ⟨Int.le_refl _, by omega, rfl⟩
 obtain ⟨hI11, hI12, hI13⟩ := hI1
 refine Gs (Gt (A6 rfl rfl) (AO (AA (Ap ?_))))
 refine Gc (fun c1 => ?_) (fun c1 => ?_)
 ·
  have c1p := kz c1
  rw [show (10 - k).toNat = (10 - (k + 1)).toNat + 1 from by omega, AH.inside] at hI13
  refine Aa ?_
  refine AB (.t4 1 2 3 7) ?_
  refine AA (Ap (Ae (B7 (Gm rfl (Gm rfl (Gt (Af rfl rfl) (Gn (.t5 1 2 3 7 11) ?_)))))))
  refine Gc (fun c2 => ?_) (fun c2 => ?_)
  ·
   refine Gs (Ga rfl (Gn (.t1 6) (Ab (AD (AP (AD (AD ?_)))))))
   refine AP (AD ?_)
   refine AY rfl (.tmp rfl .n) ?_
   intro w1 hS; refine ⟨congrArg Value.bool ?_, hS.Aj⟩; rw [hI13]; simp only [c1, c2, ↓reduceIte, Bool.false_eq_true]
  have c2p := kz c2
  refine Aa ?_
  refine AB (.t4 1 2 3 7) ?_
  refine AA (B7 (Gm rfl (Gt (A6 rfl rfl) (Gm rfl (BU 14 rfl rfl (fun q => AE rfl) (BU 14 rfl rfl (fun q => CL (cF rfl q) rfl) ?_))))))
  refine Gt (BP rfl rfl (fun h => by rw [h]; rfl)) ?_
  refine Gm rfl (BU 18 rfl rfl (fun q => AE rfl) (BU 18 rfl rfl (fun q => Ai Ci rfl) ?_))
  refine BU 18 rfl rfl (fun q => by have q1 := q; (try simp at q1); exact AQ Fi (cF rfl q) (cF rfl q) (by omega) (by omega)) ?_
  refine BU 18 rfl rfl (fun q => Ai Ez (cF rfl q)) ?_
  refine BU 18 rfl rfl (fun q => by have q1 := q; (try simp at q1); exact AG (cF rfl q) A2 .m0 ((AH.l1.comp (AS.ar (n := 9) Ak.fl (by omega))).comp Ak.l2) rfl rfl) ?_
  refine BU 18 rfl rfl (fun q => CK (cF rfl q) rfl) ?_
  refine Gt (BP rfl rfl (fun h => by rw [h]; rfl)) ?_
  refine Gn (.t5 1 2 3 7 25) ?_
  refine Gc (fun c3 => ?_) (fun c3 => ?_)
  ·
   refine Gs (Ga rfl (Gn (.t1 6) (Ab (AD (AP (AD (AD ?_)))))))
   refine AP (AD ?_)
   refine AY rfl (.tmp rfl .n) ?_
   intro w1 hS; refine ⟨congrArg Value.bool ?_, hS.Aj⟩; rw [hI13]; simp only [c1, c2, c3, ↓reduceIte, Bool.false_eq_true]
  have c3p := kz c3
  have h9 : 0 ≤ j ∧ j < 9 := by simp at c3; omega
  refine Aa ?_
  refine AB (.t4 1 2 3 7) ?_
  refine AA (AI (Gm rfl (Gt (Ai Ci rfl) ?_)))
  refine Gt (AQ Fi rfl rfl (by omega) (by omega)) ?_
  refine Gt (Ai Cz rfl) ?_
  refine Gt (AG rfl A2 .m0 ((AH.l1.comp (AS.ar (n := 9) Ak.fl (by omega))).comp Ak.l3) rfl rfl) ?_
  refine Ga rfl ?_
  refine AO (AB (.t4 1 2 3 7) ?_)
  refine AT (AA (AI ?_))
  refine Gt (As rfl rfl (IntWalk.i64_in _ (by omega))) ?_
  refine Gm rfl ?_
  refine AO (AB (.t4 1 2 3 7) ?_)
  refine DI (k + 1) ((X.AX.at j).at_) ?_ ?_ (.t4 1 7 2 3) (.refl _)
  · exact ⟨by omega, by omega, by rw [hI13]; simp only [c1, c2, c3, ↓reduceIte, Bool.false_eq_true]⟩
  · omega
 have c1p := kz c1
 obtain rfl : k = 10 := by omega
 refine BX (AW (AW (Ag ?_)))
 refine AB (.nil _) ?_
 refine AA (Gs (Ga rfl (AO (AA (Ab ?_)))))
 refine AY rfl (.tmp rfl .n) ?_
 intro w1 hS; refine ⟨congrArg Value.bool ?_, hS.Aj⟩; rw [hI13]; rfl
end Go.Proofs.YtoidpggbbfncpaaGreatDoor
