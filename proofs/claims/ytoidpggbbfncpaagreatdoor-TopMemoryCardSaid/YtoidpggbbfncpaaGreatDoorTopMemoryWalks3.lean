/- What the functions that the law TopMemory reaches compute: walks, part 3. No condition. -/
import Derived.Test.YtoidpggbbfncpaaGreatDoorCards
import Derived.Test.YtoidpggbbfncpaaGreatDoorTie
import Derived.Deep.DeepHandedRow
import Derived.Test.YtoidpggbbfncpaaGreatDoorRows
import Derived.Test.YtoidpggbbfncpaaGreatDoorTopMemoryEc3
import Derived.Test.YtoidpggbbfncpaaGreatDoorTopMemoryRa1
import Derived.Test.YtoidpggbbfncpaaGreatDoorTopMemoryRb1
import Derived.Test.YtoidpggbbfncpaaGreatDoorTopMemoryRc1
import Derived.Test.YtoidpggbbfncpaaGreatDoorTopMemoryWalks
import Derived.Test.YtoidpggbbfncpaaGreatDoorTopMemoryWalks2
set_option linter.unusedSimpArgs false
set_option linter.unusedVariables false
set_option maxRecDepth 100000
set_option maxHeartbeats 1000000
namespace Go.Proofs.YtoidpggbbfncpaaGreatDoor
open Go Go.Ing Go.RowKit Go.ChangeShapes Go.WideShapes Go.ChangeAt
theorem E3 (u : Au) (hu : u.length ≤ 5000000) (w : World) (gl0 : F2 7 w) (gl1 : F2 8 w) : EG Tryz.prog 154 #[BO u] w fun v w' => v = .tuple #[.int .i64 (Words.EA u).1, BO (Words.EA u).2.1, .bool (Words.EA u).2.2.1, .int .i64 (Words.EA u).2.2.2] ∧ B6 w w' := by
 have hcut := Words.Mf 46 u
 refine Ai [] [] Tryz.func154 rfl rfl rfl (St.start w []) ?_
 refine Gs (Ga rfl (Ga rfl (Ga rfl (Ga rfl (Gn (.t1 0) (CB (Gm rfl ?_)))))))
 refine Gt (Bo rfl rfl) (Gn (.t2 0 14) ?_)
 refine Gc (fun c1 => ?_) (fun c1 => ?_)
 ·
  refine Gs (Ga rfl (Ga rfl (Ga rfl (Ga rfl (Gn (.t4 2 3 4 5) (Ac (AD ?_)))))))
  refine AY rfl (.tmp rfl (.tmp rfl (.tmp rfl (.tmp rfl .n)))) ?_
  intro w1 hS; refine ⟨?_, hS.Am⟩; rw [show Words.EA u = _ from (BC c1)]; rfl
 have c1p := kz c1
 refine Aa ?_
 refine AB (.t1 0) ?_
 refine AA (CB (Gm rfl ?_))
 refine A8 rfl Z1 (.c rfl (.c rfl .n)) (fun w hS => IY _ _ w) ?_
 refine Gm rfl (Gt (AL rfl rfl) (Gt (AL rfl rfl) (Ga rfl (Ga rfl (Gn (.t3 0 6 7) (Gs (Gm rfl ?_)))))))
 refine Gm rfl (Ba 21 rfl rfl (fun q => AE rfl) (Ba 21 rfl rfl (fun q => DZ (BX rfl q) rfl) (Gt (BH rfl rfl (fun h => h)) (Gm rfl (Ba 25 rfl rfl (fun q => AE rfl) ?_)))))
 refine KE (t := 25) rfl rfl rfl (fun q => Dv YC (.c (BX rfl q) (.c rfl .n)) (fun w hS => Fa _ 46 w)) ?_
 refine Ba 25 rfl rfl (fun q => BQ (BX rfl q)) (Gt (BH rfl rfl (fun h => h)) (Gn (.t3 0 6 29) ?_))
 refine Gc (fun c2 => ?_) (fun c2 => ?_)
 ·
  refine Gs (Gm rfl (Ga rfl (Ga rfl (Ga rfl (Ga rfl (Gn (.t4 2 3 4 5) (Ac ?_)))))))
  refine AD ?_
  refine AY rfl (.tmp rfl (.tmp rfl (.tmp rfl (.tmp rfl .n)))) ?_
  intro w1 hS; refine ⟨?_, hS.Am⟩; rw [show Words.EA u = _ from ((AV c1).trans (BC c2))]; rfl
 have c2p := kz c2
 refine Aa ?_
 refine AB (.t1 0) ?_
 refine AA (Gs (Gm rfl ?_))
 refine A8 rfl aR (.c rfl (.c rfl .n)) (fun w hS => IB _ 46 (by omega) w) ?_
 refine Gm rfl (Gt (AL rfl rfl) (Gt (AL rfl rfl) (Gt (AL rfl rfl) (Ga rfl (Ga rfl (Ga rfl (Gn (.t4 0 8 9 10) ?_)))))))
 refine CB (Gm rfl (Gt (BQ rfl) (Gn (.t4 0 8 9 38) ?_)))
 refine Gc (fun c3 => ?_) (fun c3 => ?_)
 ·
  refine CB (Gm rfl (Gt (Bo rfl rfl) (Gn (.t2 0 40) ?_)))
  refine Gc (fun c4 => ?_) (fun c4 => ?_)
  ·
   refine Gs (Ga rfl (Ga rfl (Ga rfl (Ga rfl (Gn (.t4 2 3 4 5) (Ac (AD ?_)))))))
   refine AD ?_
   refine AY rfl (.tmp rfl (.tmp rfl (.tmp rfl (.tmp rfl .n)))) ?_
   intro w1 hS; refine ⟨?_, hS.Am⟩; rw [show Words.EA u = _ from ((AV c1).trans ((AV c2).trans ((BC c3).trans (BC c4))))]; rfl
  refine Aa ?_
  refine AB (.t1 0) ?_
  refine AA (Gs (Gm rfl (Ga rfl (Ga rfl (Ga rfl (Ga rfl (Gn (.t4 2 3 4 5) ?_)))))))
  refine Ac (AD ?_)
  refine AY rfl (.tmp rfl (.tmp rfl (.tmp rfl (.tmp rfl .n)))) ?_
  intro w1 hS; refine ⟨?_, hS.Am⟩; rw [show Words.EA u = _ from ((AV c1).trans ((AV c2).trans ((BC c3).trans (AV c4))))]; rfl
 have c3p := kz c3
 refine Aa ?_
 refine AB (.t2 8 9) ?_
 refine AA (Gs (Gm rfl ?_))
 refine BF rfl Z0 (.c rfl .n) .n (LB _ (by omega)) (fun w hS => ⟨gl0.st hS, gl1.st hS⟩) (fun v1 B hv => ?_)
 rcases hv with ⟨y2, y3, rfl, rfl⟩ | ⟨y4, y5, y6, y7, rfl, rfl⟩
 ·
  refine Gm rfl (Gt (AL rfl rfl) (Gt (AL rfl rfl) (Ga rfl (Ga rfl (Gn (.t4 8 9 11 12) (CB (Gm rfl ?_)))))))
  refine Gt (Rb Tryz.underlying109 rfl) (Gm rfl ?_)
  refine Cc (t := 49) rfl rfl rfl (AE rfl) ?_
  refine Cc (t := 49) rfl rfl rfl (A5 rfl rfl) ?_
  refine Gt (CX rfl rfl) (Gm rfl (BZ 53 rfl rfl (fun q => AE rfl) (BZ 53 rfl rfl (fun q => Cf (cF rfl q) rfl) ?_)))
  refine Gt (BR rfl rfl (fun h => by rw [h]; rfl)) ?_
  refine Gm rfl (BZ 57 rfl rfl (fun q => AE rfl) ?_)
  refine BZ 57 rfl rfl (fun q => by have q1 := q; (try simp at q1); exact Bi Tryz.underlying9 (cF rfl q) rfl (by decide) (by first | omega | (have hq := Words.Re (by assumption); omega))) ?_
  refine BZ 57 rfl rfl (fun q => A5 (cF rfl q) rfl) ?_
  refine Gt (BR rfl rfl (fun h => by rw [h]; rfl)) ?_
  refine Gm rfl (BZ 62 rfl rfl (fun q => AE rfl) ?_)
  refine BZ 62 rfl rfl (fun q => by have q1 := q; (try simp at q1); exact Bi Tryz.underlying9 (cF rfl q) rfl (by decide) (by first | omega | (have hq := Words.Re (by assumption); omega))) ?_
  refine BZ 62 rfl rfl (fun q => Cf (cF rfl q) rfl) ?_
  refine Gt (BR rfl rfl (fun h => by rw [h]; rfl)) ?_
  refine Gm rfl (BZ 67 rfl rfl (fun q => AE rfl) (BZ 67 rfl rfl (fun q => Bo (cF rfl q) rfl) ?_))
  refine Gt (BR rfl rfl (fun h => by rw [h]; rfl)) ?_
  refine Gm rfl (BZ 71 rfl rfl (fun q => AE rfl) ?_)
  refine P0 (t := 71) rfl rfl rfl (fun q => by have q1 := q; (try simp at q1); exact Dv YC (.c (cF rfl q) (.c rfl .n)) (fun w hS => Fa _ 46 w)) ?_
  refine Gt (BR rfl rfl (fun h => by rw [h]; rfl)) ?_
  refine Gn (.t3 9 11 74) ?_
  refine Gc (fun c5 => ?_) (fun c5 => ?_)
  ·
   refine Gs (Ga rfl (Ga rfl (Ga rfl (Ga rfl (Gn (.t4 2 3 4 5) (Ac (AD ?_)))))))
   refine AY rfl (.tmp rfl (.tmp rfl (.tmp rfl (.tmp rfl .n)))) ?_
   intro w1 hS; refine ⟨?_, hS.Am⟩; rw [show Words.EA u = _ from ((AV c1).trans ((AV c2).trans (AV c3))), Words.TT y3, BC c5]; rfl
  refine Aa ?_
  refine AB (.t2 9 11) ?_
  refine AA (Gs (Gm rfl (Gm rfl (Ga rfl (Ga rfl (Ga rfl (Ga rfl ?_)))))))
  refine Gn (.t4 2 3 4 5) (Ac ?_)
  refine AY rfl (.tmp rfl (.tmp rfl (.tmp rfl (.tmp rfl .n)))) ?_
  intro w1 hS; refine ⟨?_, hS.Am⟩; rw [show Words.EA u = _ from ((AV c1).trans ((AV c2).trans (AV c3))), Words.TT y3, AV c5]; rfl
 refine Gm rfl (Gt (AL rfl rfl) (Gt (AL rfl rfl) (Ga rfl (Ga rfl (Gn (.t4 8 9 11 12) (CB (Gm rfl ?_)))))))
 refine Gt (XU Tryz.underlying109 rfl) (Gm rfl ?_)
 refine Bs (t := 49) rfl rfl rfl rfl ?_
 refine Bs (t := 49) rfl rfl rfl rfl ?_
 refine Gt (Ck rfl rfl) (Gm rfl ?_)
 refine Bs (t := 53) rfl rfl rfl rfl ?_
 refine Bs (t := 53) rfl rfl rfl rfl ?_
 refine Gt (Ck rfl rfl) (Gm rfl ?_)
 refine Bs (t := 57) rfl rfl rfl rfl ?_
 refine Bs (t := 57) rfl rfl rfl rfl ?_
 refine Bs (t := 57) rfl rfl rfl rfl ?_
 refine Gt (Ck rfl rfl) (Gm rfl ?_)
 refine Bs (t := 62) rfl rfl rfl rfl ?_
 refine Bs (t := 62) rfl rfl rfl rfl ?_
 refine Bs (t := 62) rfl rfl rfl rfl ?_
 refine Gt (Ck rfl rfl) (Gm rfl ?_)
 refine Bs (t := 67) rfl rfl rfl rfl ?_
 refine Bs (t := 67) rfl rfl rfl rfl ?_
 refine Gt (Ck rfl rfl) (Gm rfl ?_)
 refine Bs (t := 71) rfl rfl rfl rfl ?_
 refine Bs (t := 71) rfl rfl rfl rfl ?_
 refine Gt (Ck rfl rfl) (Gn (.t3 9 11 74) ?_)
 refine FL rfl rfl ?_
 refine Gs (Ga rfl (Ga rfl (Ga rfl (Ga rfl (Gn (.t4 2 3 4 5) (Ac (AD ?_)))))))
 refine AY rfl (.tmp rfl (.tmp rfl (.tmp rfl (.tmp rfl .n)))) ?_
 intro w1 hS; refine ⟨?_, hS.Am⟩; rw [show Words.EA u = _ from ((AV c1).trans ((AV c2).trans (AV c3))), Words.WL y7]; rfl
theorem Io (z : Int) (w : World) : EG Tryz.prog 155 #[.int .i64 z] w fun v w' => v = .bool (Words.many z) ∧ B6 w w' := by
 refine Ai [] [] Tryz.func155 rfl rfl rfl (St.start w []) ?_
 refine Gs (Ga rfl (Gn (.t1 0) (Gs (Gm rfl (Gt (Aj rfl rfl) (Gm rfl (BZ 5 rfl rfl (fun q => AE rfl) ?_)))))))
 refine BZ 5 rfl rfl (fun q => Aj (cF rfl q) rfl) ?_
 refine Gt (BR rfl rfl (fun h => by rw [h]; rfl)) ?_
 refine Gm rfl (BZ 9 rfl rfl (fun q => AE rfl) (BZ 9 rfl rfl (fun q => Aj (cF rfl q) rfl) ?_))
 refine Gt (BR rfl rfl (fun h => by rw [h]; rfl)) ?_
 refine Ga rfl (Gn (.t1 2) (Ac ?_))
 refine AY rfl (.tmp rfl .n) ?_
 intro w1 hS; refine ⟨?_, hS.Am⟩; rfl
theorem H9 (z : Int) (w : World) : EG Tryz.prog 156 #[.int .i64 z] w fun v w' => v = .tuple #[BO (Words.Nn z).1, .bool (Words.Nn z).2] ∧ B6 w w' := by
 refine Ai [] [] Tryz.func156 rfl rfl rfl (St.start w []) ?_
 refine Gs (Ga rfl (Ga rfl (Gn (.t1 0) (CB (Gm rfl (Gn (.t1 4) (Ae ?_)))))))
 refine Gs (Gt (Aj rfl rfl) (Ga rfl (Gn (.t2 4 5) ?_)))
 refine Gc (fun c1 => ?_) (fun c1 => ?_)
 ·
  refine Gs (Ga rfl (Ga rfl (Gn (.t2 2 3) (Ac (AP (AD ?_))))))
  refine AY rfl (.tmp rfl (.tmp rfl .n)) ?_
  intro w1 hS; refine ⟨?_, hS.Am⟩; rw [show Words.Nn z = _ from (BC c1)]; rfl
 refine Gs (Gt (Aj rfl rfl) (Ga rfl (Gn (.t2 4 7) ?_)))
 refine Gc (fun c2 => ?_) (fun c2 => ?_)
 ·
  refine Gs (Ga rfl (Ga rfl (Gn (.t2 2 3) (Ac (AP (AD ?_))))))
  refine AY rfl (.tmp rfl (.tmp rfl .n)) ?_
  intro w1 hS; refine ⟨?_, hS.Am⟩; rw [show Words.Nn z = _ from ((AV c1).trans (BC c2))]; rfl
 refine Gs (Gt (Aj rfl rfl) (Ga rfl (Gn (.t1 9) ?_)))
 refine Gc (fun c3 => ?_) (fun c3 => ?_)
 ·
  refine Gs (Ga rfl (Ga rfl (Gn (.t2 2 3) (Ac (AP (AD ?_))))))
  refine AY rfl (.tmp rfl (.tmp rfl .n)) ?_
  intro w1 hS; refine ⟨?_, hS.Am⟩; rw [show Words.Nn z = _ from ((AV c1).trans ((AV c2).trans (BC c3)))]; rfl
 refine Aa ?_
 refine AB (.nil _) ?_
 refine AU (AA (Gs (Ga rfl (Ga rfl (AM (AA (Ac ?_)))))))
 refine AY rfl (.tmp rfl (.tmp rfl .n)) ?_
 intro w1 hS; refine ⟨?_, hS.Am⟩; rw [show Words.Nn z = _ from ((AV c1).trans ((AV c2).trans (AV c3)))]; rfl
theorem LZ (s : Au) (hs : s.length ≤ 4000000) (w : World) (gl0 : GV 0 AI.C2 w) (gl1 : F2 7 w) (gl2 : F2 8 w) : EG Tryz.prog 122 #[BO s] w fun v w' => v = .tuple #[.agg (Words.parse s).1.enc.toArray, .int .i64 (Words.parse s).2] ∧ B6 w w' := by
 refine Ai [] [] Tryz.func122 rfl rfl rfl (St.start w []) ?_
 refine Gs ?_
 refine BB rfl Kx rfl (fun b1 => ?_)
 refine Ga rfl (Gn (.t2 0 2) (Gs (Ga rfl (AM (AA (Gs (Gm rfl ?_)))))))
 refine Ag rfl aF (.c rfl .n) .n (LY _ hs) (fun v1 B hv => ?_)
 obtain ⟨y2, rfl, y3, rfl⟩ := hv
 refine Ga rfl (Gn (.t4 0 2 4 5) (CB (Gm rfl (Gt (Aq rfl Tryz.underlying52 rfl) (Gt (Aj rfl rfl) (Gn (.t5 0 2 4 5 20) ?_))))))
 refine Gc (fun c1 => ?_) (fun c1 => ?_)
 ·
  have hlen := y3
  (try simp only [Hd.cut] at c1)
  rw [hlen] at c1
  refine Gs (Gm rfl ?_)
  refine DP rfl Hy rfl (.c rfl .n) .n (Bp _) (fun v5 B hv => ?_)
  obtain ⟨rfl, rfl⟩ := hv
  refine Gt (AL rfl rfl) (Gt (AL rfl rfl) ?_)
  refine AQ (AK (AS.id Order.fl.len Order.fl.one) rfl rfl rfl Ds rfl (.t .h)) ?_
  refine Ga rfl (Gn (.t2 2 3) (Ac (AD ?_)))
  refine AY rfl (.cell rfl .m1 (.inl ⟨(by rw [Order.fl.len]; exact B9), rfl⟩) (.tmp rfl .n)) ?_
  intro w1 hS; refine ⟨?_, hS.Am⟩; rw [show Words.parse s = _ from (BC c1)]; rfl
 have c1p := kz c1
 have hlen := y3
 (try simp only [Hd.cut] at c1)
 rw [hlen] at c1
 refine Aa ?_
 refine AB (.t4 0 2 4 5) ?_
 refine AA (Gs (Gm rfl ?_))
 refine Gt (Bg Gu (by decide) (Kn.own .m0) rfl rfl (by omega) (by first | omega | (simp only [Hd.cut] at *; omega) | (simp [Hd.cut] at q ⊢; omega))) ?_
 refine Gt (C9 rfl CC (Kn.own .m0) (by first | omega | (simp only [List.length_drop, Hd.cut] at *; omega) | (simp [Hd.cut] at q ⊢; omega))) ?_
 refine A8 rfl X6 (.c rfl .n) (fun w hS => Ir _ w (gl0.st hS)) ?_
 refine Gm rfl (Gt (AL rfl rfl) (Gt (AL rfl rfl) (Ga rfl (Ga rfl (Gn (.t6 0 2 4 5 6 7) (CB (Gm rfl ?_)))))))
 refine Gt (CT rfl rfl) (Gn (.t7 0 2 4 5 6 7 33) ?_)
 refine Gc (fun c2 => ?_) (fun c2 => ?_)
 ·
  refine Gs (Gm rfl (Gm rfl ?_))
  refine DP rfl Hy rfl (.c rfl .n) .n (Bp _) (fun v6 B hv => ?_)
  obtain ⟨rfl, rfl⟩ := hv
  refine Gt (AL rfl rfl) (Gt (AL rfl rfl) ?_)
  refine AQ (AK (AS.id Order.fl.len Order.fl.one) rfl rfl rfl Ds rfl (.t .h)) ?_
  refine Ga rfl (Gn (.t2 2 3) (Ac (AD ?_)))
  refine AY rfl (.cell rfl .m1 (.inl ⟨(by rw [Order.fl.len]; exact B9), rfl⟩) (.tmp rfl .n)) ?_
  intro w1 hS; refine ⟨?_, hS.Am⟩; rw [show Words.parse s = _ from ((AV c1).trans (BC c2))]; rfl
 have c2p := kz c2
 refine Aa ?_
 refine AB (.t5 0 2 4 5 6) ?_
 refine AA (Gs (Gm rfl (Gt (BD Qa Kx rfl (.cons Order.l0 rfl rfl rfl .nil)) ?_)))
 refine BB rfl Kx rfl (fun b2 => ?_)
 refine AQ (AK (AS.id Order.fl.len Order.fl.one) rfl rfl rfl Ds rfl .h) ?_
 refine Gn (.t6 0 2 4 5 6 8) (Gs (Gm rfl ?_))
 refine F5 DB rfl Tryz.underlying52 EM rfl rfl (by decide) (by first | omega | (simp only [Hd.cut]; omega) | (simp only [Hd.cut] at *; omega)) (fun _ => (.t .h)) ?_
 refine Ga rfl (Gn (.t6 0 2 4 5 6 8) (Ao (Ae (Gs (Gm rfl (Gt (Aj rfl rfl) (Ga rfl ?_)))))))
 refine Gn (.t7 0 2 4 5 6 8 43) ?_
 refine Gc (fun c3 => ?_) (fun c3 => ?_)
 ·
  have c3p := kz c3
  refine Gs (Gm rfl ?_)
  refine A8 rfl Z6 (.c rfl (.c rfl .n)) (fun w hS => Iz _ (by omega) w) ?_
  refine A8 rfl aR (.c rfl (.c rfl .n)) (fun w hS => IB _ 32 (by have := Words.Km 32 s; omega) w) ?_
  refine Gm rfl (Gt (AL rfl rfl) (Gt (AL rfl rfl) (Gt (AL rfl rfl) (Ga rfl (Ga rfl (Ga rfl (Gn (.t4 2 4 8 10) ?_)))))))
  refine CB (Gm rfl ?_)
  refine A8 rfl Zl (.c rfl (.c rfl .n)) (fun w hS => HX _ (by have h1 := Words.Km 32 s; have h2 := Words.Mf 32 (Words.PM 32 s); omega) w) ?_
  refine Gt (Ah P9 rfl) ?_
  refine AQ (AK Order.l5 rfl rfl rfl EM rfl .h) ?_
  refine Gn (.t3 2 4 8) (Gs (Gt (Ah P9 rfl) (Gt (AF rfl CC .m0 Order.l5 rfl rfl) (Gt (Bo rfl rfl) (Gn (.t4 2 4 8 58) ?_)))))
  refine Gc (fun c4 => ?_) (fun c4 => ?_)
  ·
   refine Gs (Gm rfl ?_)
   refine DP rfl Hy rfl (.c rfl .n) .n (Bp _) (fun v7 B hv => ?_)
   obtain ⟨rfl, rfl⟩ := hv
   refine Gt (AL rfl rfl) (Gt (AL rfl rfl) ?_)
   refine AQ (AK (AS.id Order.fl.len Order.fl.one) rfl rfl rfl Ds rfl (.t (.t .h))) ?_
   refine Ga rfl (Gn (.t2 2 3) (Ac (AD (AP (AD ?_)))))
   refine AY rfl (.cell rfl .m2 (.inl ⟨(by rw [Order.fl.len]; exact B9), rfl⟩) (.tmp rfl .n)) ?_
   intro w1 hS; refine ⟨?_, hS.Am⟩; rw [show Words.parse s = _ from ((AV c1).trans ((AV c2).trans ((BC c3).trans (BC c4))))]; rfl
  refine Aa ?_
  refine AB (.t2 2 8) ?_
  refine AA (Gs (Gt (AZ rfl B9 .m0 (AS.id Order.fl.len Order.fl.one) rfl) ?_))
  refine AQ (AK (AS.id Order.fl.len Order.fl.one) rfl rfl rfl Ds rfl (.t (.t .h))) ?_
  refine Ga rfl (Gn (.t2 2 3) (Ac (AP (AD ?_))))
  refine AY rfl (.cell rfl .m2 (.inl ⟨(by rw [Order.fl.len]; exact B9), rfl⟩) (.tmp rfl .n)) ?_
  intro w1 hS; refine ⟨?_, hS.Am⟩; rw [show Words.parse s = _ from ((AV c1).trans ((AV c2).trans ((BC c3).trans (AV c4))))]; rfl
 have c3p := kz c3
 refine Gs (Gm rfl (Gt (Hr rfl rfl) (Gm rfl (BZ 67 rfl rfl (fun q => AE rfl) (BZ 67 rfl rfl (fun q => CI (cF rfl q) rfl) ?_)))))
 refine Gt (BR rfl rfl (fun h => by rw [h]; rfl)) ?_
 refine Ga rfl (Gn (.t6 2 4 5 6 8 64) ?_)
 refine Gc (fun c5 => ?_) (fun c5 => ?_)
 ·
  refine CB (Gm rfl (Gt (Aq rfl Tryz.underlying52 rfl) (Gt (Cf rfl rfl) (Gn (.t4 2 4 8 73) ?_))))
  refine Gc (fun c6 => ?_) (fun c6 => ?_)
  ·
   (try simp only [Hd.cut] at c6)
   rw [hlen] at c6
   refine Gs (Gm rfl ?_)
   refine DP rfl Hy rfl (.c rfl .n) .n (Bp _) (fun v8 B hv => ?_)
   obtain ⟨rfl, rfl⟩ := hv
   refine Gt (AL rfl rfl) (Gt (AL rfl rfl) ?_)
   refine AQ (AK (AS.id Order.fl.len Order.fl.one) rfl rfl rfl Ds rfl (.t (.t .h))) ?_
   refine Ga rfl (Gn (.t2 2 3) (Ac (AD (AP (AD ?_)))))
   refine AY rfl (.cell rfl .m2 (.inl ⟨(by rw [Order.fl.len]; exact B9), rfl⟩) (.tmp rfl .n)) ?_
   intro w1 hS; refine ⟨?_, hS.Am⟩; rw [show Words.parse s = _ from ((AV c1).trans ((AV c2).trans ((AV c3).trans ((BC c5).trans (BC c6)))))]; rfl
  (try simp only [Hd.cut] at c6)
  rw [hlen] at c6
  refine Aa ?_
  refine AB (.t2 2 8) ?_
  refine AA (Gs (Gt (AZ rfl B9 .m0 (AS.id Order.fl.len Order.fl.one) rfl) ?_))
  refine AQ (AK (AS.id Order.fl.len Order.fl.one) rfl rfl rfl Ds rfl (.t (.t .h))) ?_
  refine Ga rfl (Gn (.t2 2 3) (Ac (AP (AD ?_))))
  refine AY rfl (.cell rfl .m2 (.inl ⟨(by rw [Order.fl.len]; exact B9), rfl⟩) (.tmp rfl .n)) ?_
  intro w1 hS; refine ⟨?_, hS.Am⟩; rw [show Words.parse s = _ from ((AV c1).trans ((AV c2).trans ((AV c3).trans ((BC c5).trans (AV c6)))))]; rfl
 have c5p := kz c5
 refine Gs (Gm rfl (Gt (Aq rfl Tryz.underlying52 rfl) (Gt (Aj rfl rfl) (Ga rfl (Gn (.t6 2 4 5 6 8 79) ?_)))))
 refine Gc (fun c7 => ?_) (fun c7 => ?_)
 ·
  (try simp only [Hd.cut] at c7)
  rw [hlen] at c7
  refine Gs (Gm rfl ?_)
  refine DP rfl Hy rfl (.c rfl .n) .n (Bp _) (fun v9 B hv => ?_)
  obtain ⟨rfl, rfl⟩ := hv
  refine Gt (AL rfl rfl) (Gt (AL rfl rfl) ?_)
  refine AQ (AK (AS.id Order.fl.len Order.fl.one) rfl rfl rfl Ds rfl (.t (.t .h))) ?_
  refine Ga rfl (Gn (.t2 2 3) (Ac (AP (AD ?_))))
  refine AY rfl (.cell rfl .m2 (.inl ⟨(by rw [Order.fl.len]; exact B9), rfl⟩) (.tmp rfl .n)) ?_
  intro w1 hS; refine ⟨?_, hS.Am⟩; rw [show Words.parse s = _ from ((AV c1).trans ((AV c2).trans ((AV c3).trans ((AV c5).trans (BC c7)))))]; rfl
 have c7p := kz c7
 (try simp only [Hd.cut] at c7)
 rw [hlen] at c7
 refine Aa ?_
 refine AB (.t5 2 4 5 6 8) ?_
 refine AU (AA (CB (Gm rfl (Gt (Aj rfl rfl) (Gm rfl (BZ 89 rfl rfl (fun q => AE rfl) (BZ 89 rfl rfl (fun q => Aj (cF rfl q) rfl) ?_)))))))
 refine Gt (BR rfl rfl (fun h => by rw [h]; rfl)) ?_
 refine Gn (.t6 2 4 5 6 8 92) ?_
 refine Gc (fun c8 => ?_) (fun c8 => ?_)
 ·
  have c8p := kz c8
  refine Gs (Gm rfl ?_)
  refine Gt (Bg Gu (by decide) (Kn.own .m1) rfl rfl (by omega) (by first | omega | (simp only [Hd.cut] at *; omega) | (simp [Hd.cut] at q ⊢; omega))) ?_
  refine Gt (C9 rfl CC (Kn.own .m1) (by first | omega | (simp only [List.length_drop, Hd.cut] at *; omega) | (simp [Hd.cut] at q ⊢; omega))) ?_
  refine A8 rfl X6 (.c rfl .n) (fun w hS => Ir _ w (gl0.st hS)) ?_
  refine Gm rfl (Gt (AL rfl rfl) (Gt (AL rfl rfl) (Ga rfl (Ga rfl (Gn (.t7 2 4 5 6 8 12 13) (Gs (Gm rfl ?_)))))))
  refine Gt (Aj rfl rfl) (Gm rfl (Ba 102 rfl rfl (fun q => AE rfl) (Ba 102 rfl rfl (fun q => A5 (BX rfl q) rfl) (Gt (BH rfl rfl (fun h => h)) (Gm rfl (Ba 106 rfl rfl (fun q => AE rfl) (Ba 106 rfl rfl (fun q => Aq rfl Tryz.underlying52 (BX rfl q)) ?_)))))))
  refine Ba 106 rfl rfl (fun q => Aj (BX rfl q) rfl) (Gt (BH rfl rfl (fun h => h)) (Gn (.t7 2 4 5 6 8 12 110) ?_))
  refine Gc (fun c9 => ?_) (fun c9 => ?_)
  ·
   have c9p := kz c9
   (try simp only [Hd.cut] at c9)
   rw [hlen] at c9
   have hd : 0 ≤ (Words.verb (((Words.words s).drop (1 : Int).toNat).getD (0 : Int).toNat [])).1 ∧ (Words.verb (((Words.words s).drop (1 : Int).toNat).getD (0 : Int).toNat [])).1 < 6 := ⟨(Words.WH _).1, by have h := c9; rw [Bool.and_eq_true, Bool.and_eq_true] at h; exact of_decide_eq_true h.1.2⟩
   refine Gs (Gm rfl ?_)
   refine Gt (AR Wa rfl rfl (by first | omega | (simp only [Hd.cut]; omega) | (simp only [Hd.cut] at *; omega)) (by first | omega | (simp only [Hd.cut]; omega) | (simp only [Hd.cut] at *; omega))) ?_
   refine Gt (Pb gl0 rfl CC (AI.NF hd.1 hd.2)) (Gt (Ah FQ rfl) ?_)
   refine AQ (AK Order.l3 rfl rfl rfl EM rfl .h) ?_
   refine Gt (Ah Fv rfl) ?_
   refine AQ (AK Order.l1 rfl rfl rfl C5 rfl .h) ?_
   refine Gn (.t2 2 8) (Gs (Gt (AZ rfl B9 .m0 (AS.id Order.fl.len Order.fl.one) rfl) ?_))
   refine AQ (AK (AS.id Order.fl.len Order.fl.one) rfl rfl rfl Ds rfl (.t (.t .h))) ?_
   refine Ga rfl (Gn (.t2 2 3) (Ac (AD ?_)))
   refine AY rfl (.cell rfl .m2 (.inl ⟨(by rw [Order.fl.len]; exact B9), rfl⟩) (.tmp rfl .n)) ?_
   intro w1 hS; refine ⟨?_, hS.Am⟩; rw [show Words.parse s = _ from ((AV c1).trans ((AV c2).trans ((AV c3).trans ((AV c5).trans ((AV c7).trans ((BC c8).trans (BC c9)))))))]; rfl
  have c9p := kz c9
  (try simp only [Hd.cut] at c9)
  rw [hlen] at c9
  refine Aa ?_
  refine AB (.t5 2 4 5 6 8) ?_
  refine AA (CB (Gm rfl ?_))
  refine Gt (Bg Gu (by decide) (Kn.own .m1) rfl rfl (by omega) (by first | omega | (simp only [Hd.cut] at *; omega) | (simp [Hd.cut] at q ⊢; omega))) ?_
  refine Gt (C9 rfl CC (Kn.own .m1) (by first | omega | (simp only [List.length_drop, Hd.cut] at *; omega) | (simp [Hd.cut] at q ⊢; omega))) ?_
  refine A8 rfl S4 (.c rfl .n) (fun w hS => E3 _ (by have := Words.L4 s 0 1; exact Nat.le_trans this (by omega)) w (gl1.st hS) (gl2.st hS)) ?_
  refine Gm rfl (Gt (AL rfl rfl) (Gt (AL rfl rfl) (Gt (AL rfl rfl) (Gt (AL rfl rfl) (Gt (Ah Fv rfl) ?_)))))
  refine AQ (AK Order.l1 rfl rfl rfl C5 rfl .h) ?_
  refine Gt (Ah FQ rfl) ?_
  refine AQ (AK Order.l3 rfl rfl rfl EM rfl .h) ?_
  refine Gt (Ah Gi rfl) ?_
  refine AQ (AK Order.l2 rfl rfl rfl Jt rfl .h) ?_
  refine Ga rfl (Gn (.t6 2 4 5 6 7 8) (Gs (Gm rfl (Gt (CT rfl rfl) (Gm rfl (BZ 131 rfl rfl (fun q => Ah Gi rfl) (BZ 131 rfl rfl (fun q => AF (cF rfl q) Ct .m0 Order.l2 rfl rfl) ?_)))))))
  refine BZ 131 rfl rfl (fun q => AE (cF rfl q)) ?_
  refine DE (t := 134) rfl rfl rfl (fun qc q => AE rfl) ?_
  refine S2 (t := 134) rfl rfl rfl (fun qc q => by have q1 := q; have qc1 := qc; (try simp at q1 qc1); exact Dv Xy (.c (BX rfl (by rw [qc, q]; rfl)) .n) (fun w hS => Io _ w)) ?_
  refine DE (t := 134) rfl rfl rfl (fun qc q => BQ (BX rfl (by rw [qc, q]; rfl))) ?_
  refine BZ 131 rfl rfl (fun q => BH (cF rfl q) rfl (fun h => by rw [q, h]; rfl)) ?_
  refine Gt (BR rfl rfl (fun h => by rw [h]; rfl)) ?_
  refine Gn (.t6 2 4 5 6 8 139) ?_
  refine Gc (fun c10 => ?_) (fun c10 => ?_)
  ·
   refine Gs (Gm rfl ?_)
   refine DP rfl Hy rfl (.c rfl .n) .n (Bp _) (fun v10 B hv => ?_)
   obtain ⟨rfl, rfl⟩ := hv
   refine Gt (AL rfl rfl) (Gt (AL rfl rfl) ?_)
   refine AQ (AK (AS.id Order.fl.len Order.fl.one) rfl rfl rfl Ds rfl (.t (.t .h))) ?_
   refine Ga rfl (Gn (.t2 2 3) (Ac (AD ?_)))
   refine AY rfl (.cell rfl .m2 (.inl ⟨(by rw [Order.fl.len]; exact B9), rfl⟩) (.tmp rfl .n)) ?_
   intro w1 hS; refine ⟨?_, hS.Am⟩; rw [show Words.parse s = _ from ((AV c1).trans ((AV c2).trans ((AV c3).trans ((AV c5).trans ((AV c7).trans ((BC c8).trans ((AV c9).trans (BC c10))))))))]; rfl
  have c10p := kz c10
  refine Aa ?_
  refine AB (.t5 2 4 5 6 8) ?_
  refine AA (Gs (Gm rfl ?_))
  refine A8 rfl X0 (.c rfl .n) (fun w hS => H9 _ w) ?_
  refine Gm rfl (Gt (AL rfl rfl) (Gt (AL rfl rfl) (Ga rfl (Ga rfl (Gn (.t6 2 4 5 8 14 15) (Gs (Gm rfl ?_)))))))
  refine F5 DB rfl Tryz.underlying52 EM rfl rfl (by decide) (by first | omega | (simp only [Hd.cut]; omega) | (simp only [Hd.cut] at *; omega)) (fun _ => (.t .h)) ?_
  refine Ga rfl (Gn (.t6 2 4 5 8 14 15) (CB (Gm rfl (Gt (Aq rfl Tryz.underlying52 rfl) (Gt (Cf rfl rfl) (Gm rfl (Ba 154 rfl rfl (fun q => AE rfl) ?_)))))))
  refine Ba 154 rfl rfl (fun q => DZ (BX rfl q) rfl) (Gt (BH rfl rfl (fun h => h)) (Gm rfl (Ba 158 rfl rfl (fun q => AE rfl) ?_)))
  refine Ba 158 rfl rfl (fun q => by have q1 := q; (try simp at q1); exact Bg Gu (by decide) (Kn.own .m1) (BX rfl q) rfl (by omega) (by first | omega | (simp only [Hd.cut] at *; omega) | (simp [Hd.cut] at q ⊢; omega))) ?_
  refine Ba 158 rfl rfl (fun q => by have q1 := q; (try simp at q1); exact C9 (BX rfl q) CC (Kn.own .m1) (by first | omega | (simp only [List.length_drop, Hd.cut] at *; omega) | (simp [Hd.cut] at q ⊢; omega))) ?_
  refine Ba 158 rfl rfl (fun q => AE rfl) (Ba 158 rfl rfl (fun q => Bo (BX rfl q) (BX rfl q)) (Gt (BH rfl rfl (fun h => h)) (Gn (.t7 2 4 5 8 14 15 164) ?_)))
  refine Gc (fun c11 => ?_) (fun c11 => ?_)
  ·
   have c11p := kz c11
   (try simp only [Hd.cut] at c11)
   rw [hlen] at c11
   refine Gs (Gm rfl ?_)
   refine F5 DB rfl Tryz.underlying52 EM rfl rfl (by decide) (by first | omega | (simp only [Hd.cut]; omega) | (simp only [Hd.cut] at *; omega)) (fun _ => (.t .h)) ?_
   refine Ga rfl (Gn (.t6 2 4 5 8 14 15) (Gs (Gm rfl (Gt (Aq rfl Tryz.underlying52 rfl) (Gt (Aj rfl rfl) (Gn (.t7 2 4 5 8 14 15 169) ?_))))))
   refine Gc (fun c12 => ?_) (fun c12 => ?_)
   ·
    (try simp only [Hd.cut] at c12)
    rw [hlen] at c12
    refine Gs (Gm rfl ?_)
    refine DP rfl Hy rfl (.c rfl .n) .n (Bp _) (fun v11 B hv => ?_)
    obtain ⟨rfl, rfl⟩ := hv
    refine Gt (AL rfl rfl) (Gt (AL rfl rfl) ?_)
    refine AQ (AK (AS.id Order.fl.len Order.fl.one) rfl rfl rfl Ds rfl (.t (.t .h))) ?_
    refine Ga rfl (Gn (.t2 2 3) (Ac (AD ?_)))
    refine AY rfl (.cell rfl .m2 (.inl ⟨(by rw [Order.fl.len]; exact B9), rfl⟩) (.tmp rfl .n)) ?_
    intro w1 hS; refine ⟨?_, hS.Am⟩; rw [show Words.parse s = _ from ((AV c1).trans ((AV c2).trans ((AV c3).trans ((AV c5).trans ((AV c7).trans ((BC c8).trans ((AV c9).trans ((AV c10).trans ((BC c11).trans (BC c12))))))))))]; rfl
   have c12p := kz c12
   (try simp only [Hd.cut] at c12)
   rw [hlen] at c12
   refine Aa ?_
   refine AB (.t6 2 4 5 8 14 15) ?_
   refine AA (Ao (Ae (Gs (Gm rfl (Gt (Aq rfl Tryz.underlying52 rfl) (Gt (Aj rfl rfl) (Gm rfl ?_)))))))
   refine Ba 178 rfl rfl (fun q => AE rfl) (Ba 178 rfl rfl (fun q => BQ (BX rfl q)) (Gt (BH rfl rfl (fun h => h)) (Ga rfl (Gn (.t6 2 4 5 8 14 174) ?_))))
   refine Gc (fun c13 => ?_) (fun c13 => ?_)
   ·
    (try simp only [Hd.cut] at c13)
    rw [hlen] at c13
    refine Gs (Gt (AZ rfl B9 .m0 (AS.id Order.fl.len Order.fl.one) rfl) ?_)
    refine AQ (AK (AS.id Order.fl.len Order.fl.one) rfl rfl rfl Ds rfl (.t (.t .h))) ?_
    refine Ga rfl (Gn (.t2 2 3) (Ac (AP (AD ?_))))
    refine AY rfl (.cell rfl .m2 (.inl ⟨(by rw [Order.fl.len]; exact B9), rfl⟩) (.tmp rfl .n)) ?_
    intro w1 hS; refine ⟨?_, hS.Am⟩; rw [show Words.parse s = _ from ((AV c1).trans ((AV c2).trans ((AV c3).trans ((AV c5).trans ((AV c7).trans ((BC c8).trans ((AV c9).trans ((AV c10).trans ((BC c11).trans ((AV c12).trans (BC c13)))))))))))]; rfl
   have c13p := kz c13
   (try simp only [Hd.cut] at c13)
   rw [hlen] at c13
   refine Gs (Gm rfl (Gt (Aq rfl Tryz.underlying52 rfl) (Gt (CT rfl rfl) (Gm rfl (BZ 187 rfl rfl (fun q => AE rfl) (BZ 187 rfl rfl (fun q => Bo (cF rfl q) rfl) ?_))))))
   refine Gt (BR rfl rfl (fun h => by rw [h]; rfl)) ?_
   refine Ga rfl (Gn (.t5 2 4 5 8 183) ?_)
   refine Gc (fun c14 => ?_) (fun c14 => ?_)
   ·
    (try simp only [Hd.cut] at c14)
    rw [hlen] at c14
    refine Gs (Gm rfl ?_)
    refine DP rfl Hy rfl (.c rfl .n) .n (Bp _) (fun v12 B hv => ?_)
    obtain ⟨rfl, rfl⟩ := hv
    refine Gt (AL rfl rfl) (Gt (AL rfl rfl) ?_)
    refine AQ (AK (AS.id Order.fl.len Order.fl.one) rfl rfl rfl Ds rfl (.t (.t .h))) ?_
    refine Ga rfl (Gn (.t2 2 3) (Ac (AP (AD ?_))))
    refine AY rfl (.cell rfl .m2 (.inl ⟨(by rw [Order.fl.len]; exact B9), rfl⟩) (.tmp rfl .n)) ?_
    intro w1 hS; refine ⟨?_, hS.Am⟩; rw [show Words.parse s = _ from ((AV c1).trans ((AV c2).trans ((AV c3).trans ((AV c5).trans ((AV c7).trans ((BC c8).trans ((AV c9).trans ((AV c10).trans ((BC c11).trans ((AV c12).trans ((AV c13).trans (BC c14))))))))))))]; rfl
   have c14p := kz c14
   (try simp only [Hd.cut] at c14)
   rw [hlen] at c14
   refine Aa ?_
   refine AB (.t3 2 5 8) ?_
   refine AU (AA (Gs (Gm rfl ?_)))
   refine Gt (Bg Gu (by decide) (Kn.own .m1) rfl rfl (by omega) (by first | omega | (simp only [Hd.cut] at *; omega) | (simp [Hd.cut] at q ⊢; omega))) ?_
   refine Gt (C9 rfl CC (Kn.own .m1) (by first | omega | (simp only [List.length_drop, Hd.cut] at *; omega) | (simp [Hd.cut] at q ⊢; omega))) ?_
   refine Gt (Ah HR rfl) ?_
   refine AQ (AK Order.l4 rfl rfl rfl EM rfl .h) ?_
   refine Gn (.t2 2 8) (Gs (Gt (AZ rfl B9 .m0 (AS.id Order.fl.len Order.fl.one) rfl) ?_))
   refine AQ (AK (AS.id Order.fl.len Order.fl.one) rfl rfl rfl Ds rfl (.t (.t .h))) ?_
   refine Ga rfl (Gn (.t2 2 3) (Ac ?_))
   refine AY rfl (.cell rfl .m2 (.inl ⟨(by rw [Order.fl.len]; exact B9), rfl⟩) (.tmp rfl .n)) ?_
   intro w1 hS; refine ⟨?_, hS.Am⟩; rw [show Words.parse s = _ from ((AV c1).trans ((AV c2).trans ((AV c3).trans ((AV c5).trans ((AV c7).trans ((BC c8).trans ((AV c9).trans ((AV c10).trans ((BC c11).trans ((AV c12).trans ((AV c13).trans (AV c14))))))))))))]; rfl
  have c11p := kz c11
  (try simp only [Hd.cut] at c11)
  rw [hlen] at c11
  refine Aa ?_
  refine AB (.t6 2 4 5 8 14 15) ?_
  refine AA (Ao (Ae (Gs (Gm rfl (Gt (Aq rfl Tryz.underlying52 rfl) (Gt (Aj rfl rfl) (Gm rfl ?_)))))))
  refine Ba 178 rfl rfl (fun q => AE rfl) (Ba 178 rfl rfl (fun q => BQ (BX rfl q)) (Gt (BH rfl rfl (fun h => h)) (Ga rfl (Gn (.t6 2 4 5 8 14 174) ?_))))
  refine Gc (fun c15 => ?_) (fun c15 => ?_)
  ·
   (try simp only [Hd.cut] at c15)
   rw [hlen] at c15
   refine Gs (Gt (AZ rfl B9 .m0 (AS.id Order.fl.len Order.fl.one) rfl) ?_)
   refine AQ (AK (AS.id Order.fl.len Order.fl.one) rfl rfl rfl Ds rfl (.t (.t .h))) ?_
   refine Ga rfl (Gn (.t2 2 3) (Ac (AP (AD ?_))))
   refine AY rfl (.cell rfl .m2 (.inl ⟨(by rw [Order.fl.len]; exact B9), rfl⟩) (.tmp rfl .n)) ?_
   intro w1 hS; refine ⟨?_, hS.Am⟩; rw [show Words.parse s = _ from ((AV c1).trans ((AV c2).trans ((AV c3).trans ((AV c5).trans ((AV c7).trans ((BC c8).trans ((AV c9).trans ((AV c10).trans ((AV c11).trans (BC c15))))))))))]; rfl
  have c15p := kz c15
  (try simp only [Hd.cut] at c15)
  rw [hlen] at c15
  refine Gs (Gm rfl (Gt (Aq rfl Tryz.underlying52 rfl) (Gt (CT rfl rfl) (Gm rfl (BZ 187 rfl rfl (fun q => AE rfl) (BZ 187 rfl rfl (fun q => Bo (cF rfl q) rfl) ?_))))))
  refine Gt (BR rfl rfl (fun h => by rw [h]; rfl)) ?_
  refine Ga rfl (Gn (.t5 2 4 5 8 183) ?_)
  refine Gc (fun c16 => ?_) (fun c16 => ?_)
  ·
   (try simp only [Hd.cut] at c16)
   rw [hlen] at c16
   refine Gs (Gm rfl ?_)
   refine DP rfl Hy rfl (.c rfl .n) .n (Bp _) (fun v13 B hv => ?_)
   obtain ⟨rfl, rfl⟩ := hv
   refine Gt (AL rfl rfl) (Gt (AL rfl rfl) ?_)
   refine AQ (AK (AS.id Order.fl.len Order.fl.one) rfl rfl rfl Ds rfl (.t (.t .h))) ?_
   refine Ga rfl (Gn (.t2 2 3) (Ac (AP (AD ?_))))
   refine AY rfl (.cell rfl .m2 (.inl ⟨(by rw [Order.fl.len]; exact B9), rfl⟩) (.tmp rfl .n)) ?_
   intro w1 hS; refine ⟨?_, hS.Am⟩; rw [show Words.parse s = _ from ((AV c1).trans ((AV c2).trans ((AV c3).trans ((AV c5).trans ((AV c7).trans ((BC c8).trans ((AV c9).trans ((AV c10).trans ((AV c11).trans ((AV c15).trans (BC c16)))))))))))]; rfl
  have c16p := kz c16
  (try simp only [Hd.cut] at c16)
  rw [hlen] at c16
  refine Aa ?_
  refine AB (.t3 2 5 8) ?_
  refine AU (AA (Gs (Gm rfl ?_)))
  refine Gt (Bg Gu (by decide) (Kn.own .m1) rfl rfl (by omega) (by first | omega | (simp only [Hd.cut] at *; omega) | (simp [Hd.cut] at q ⊢; omega))) ?_
  refine Gt (C9 rfl CC (Kn.own .m1) (by first | omega | (simp only [List.length_drop, Hd.cut] at *; omega) | (simp [Hd.cut] at q ⊢; omega))) ?_
  refine Gt (Ah HR rfl) ?_
  refine AQ (AK Order.l4 rfl rfl rfl EM rfl .h) ?_
  refine Gn (.t2 2 8) (Gs (Gt (AZ rfl B9 .m0 (AS.id Order.fl.len Order.fl.one) rfl) ?_))
  refine AQ (AK (AS.id Order.fl.len Order.fl.one) rfl rfl rfl Ds rfl (.t (.t .h))) ?_
  refine Ga rfl (Gn (.t2 2 3) (Ac ?_))
  refine AY rfl (.cell rfl .m2 (.inl ⟨(by rw [Order.fl.len]; exact B9), rfl⟩) (.tmp rfl .n)) ?_
  intro w1 hS; refine ⟨?_, hS.Am⟩; rw [show Words.parse s = _ from ((AV c1).trans ((AV c2).trans ((AV c3).trans ((AV c5).trans ((AV c7).trans ((BC c8).trans ((AV c9).trans ((AV c10).trans ((AV c11).trans ((AV c15).trans (AV c16)))))))))))]; rfl
 have c8p := kz c8
 refine Aa ?_
 refine AB (.t5 2 4 5 6 8) ?_
 refine AA (CB (Gm rfl ?_))
 refine Gt (Bg Gu (by decide) (Kn.own .m1) rfl rfl (by omega) (by first | omega | (simp only [Hd.cut] at *; omega) | (simp [Hd.cut] at q ⊢; omega))) ?_
 refine Gt (C9 rfl CC (Kn.own .m1) (by first | omega | (simp only [List.length_drop, Hd.cut] at *; omega) | (simp [Hd.cut] at q ⊢; omega))) ?_
 refine A8 rfl S4 (.c rfl .n) (fun w hS => E3 _ (by have := Words.L4 s 0 1; exact Nat.le_trans this (by omega)) w (gl1.st hS) (gl2.st hS)) ?_
 refine Gm rfl (Gt (AL rfl rfl) (Gt (AL rfl rfl) (Gt (AL rfl rfl) (Gt (AL rfl rfl) (Gt (Ah Fv rfl) ?_)))))
 refine AQ (AK Order.l1 rfl rfl rfl C5 rfl .h) ?_
 refine Gt (Ah FQ rfl) ?_
 refine AQ (AK Order.l3 rfl rfl rfl EM rfl .h) ?_
 refine Gt (Ah Gi rfl) ?_
 refine AQ (AK Order.l2 rfl rfl rfl Jt rfl .h) ?_
 refine Ga rfl (Gn (.t6 2 4 5 6 7 8) (Gs (Gm rfl (Gt (CT rfl rfl) (Gm rfl (BZ 131 rfl rfl (fun q => Ah Gi rfl) (BZ 131 rfl rfl (fun q => AF (cF rfl q) Ct .m0 Order.l2 rfl rfl) ?_)))))))
 refine BZ 131 rfl rfl (fun q => AE (cF rfl q)) ?_
 refine DE (t := 134) rfl rfl rfl (fun qc q => AE rfl) ?_
 refine S2 (t := 134) rfl rfl rfl (fun qc q => by have q1 := q; have qc1 := qc; (try simp at q1 qc1); exact Dv Xy (.c (BX rfl (by rw [qc, q]; rfl)) .n) (fun w hS => Io _ w)) ?_
 refine DE (t := 134) rfl rfl rfl (fun qc q => BQ (BX rfl (by rw [qc, q]; rfl))) ?_
 refine BZ 131 rfl rfl (fun q => BH (cF rfl q) rfl (fun h => by rw [q, h]; rfl)) ?_
 refine Gt (BR rfl rfl (fun h => by rw [h]; rfl)) ?_
 refine Gn (.t6 2 4 5 6 8 139) ?_
 refine Gc (fun c17 => ?_) (fun c17 => ?_)
 ·
  refine Gs (Gm rfl ?_)
  refine DP rfl Hy rfl (.c rfl .n) .n (Bp _) (fun v14 B hv => ?_)
  obtain ⟨rfl, rfl⟩ := hv
  refine Gt (AL rfl rfl) (Gt (AL rfl rfl) ?_)
  refine AQ (AK (AS.id Order.fl.len Order.fl.one) rfl rfl rfl Ds rfl (.t (.t .h))) ?_
  refine Ga rfl (Gn (.t2 2 3) (Ac (AD ?_)))
  refine AY rfl (.cell rfl .m2 (.inl ⟨(by rw [Order.fl.len]; exact B9), rfl⟩) (.tmp rfl .n)) ?_
  intro w1 hS; refine ⟨?_, hS.Am⟩; rw [show Words.parse s = _ from ((AV c1).trans ((AV c2).trans ((AV c3).trans ((AV c5).trans ((AV c7).trans ((AV c8).trans (BC c17)))))))]; rfl
 have c17p := kz c17
 refine Aa ?_
 refine AB (.t5 2 4 5 6 8) ?_
 refine AA (Gs (Gm rfl ?_))
 refine A8 rfl X0 (.c rfl .n) (fun w hS => H9 _ w) ?_
 refine Gm rfl (Gt (AL rfl rfl) (Gt (AL rfl rfl) (Ga rfl (Ga rfl (Gn (.t6 2 4 5 8 14 15) (Gs (Gm rfl ?_)))))))
 refine F5 DB rfl Tryz.underlying52 EM rfl rfl (by decide) (by first | omega | (simp only [Hd.cut]; omega) | (simp only [Hd.cut] at *; omega)) (fun _ => (.t .h)) ?_
 refine Ga rfl (Gn (.t6 2 4 5 8 14 15) (CB (Gm rfl (Gt (Aq rfl Tryz.underlying52 rfl) (Gt (Cf rfl rfl) (Gm rfl (Ba 154 rfl rfl (fun q => AE rfl) ?_)))))))
 refine Ba 154 rfl rfl (fun q => DZ (BX rfl q) rfl) (Gt (BH rfl rfl (fun h => h)) (Gm rfl (Ba 158 rfl rfl (fun q => AE rfl) ?_)))
 refine Ba 158 rfl rfl (fun q => by have q1 := q; (try simp at q1); exact Bg Gu (by decide) (Kn.own .m1) (BX rfl q) rfl (by omega) (by first | omega | (simp only [Hd.cut] at *; omega) | (simp [Hd.cut] at q ⊢; omega))) ?_
 refine Ba 158 rfl rfl (fun q => by have q1 := q; (try simp at q1); exact C9 (BX rfl q) CC (Kn.own .m1) (by first | omega | (simp only [List.length_drop, Hd.cut] at *; omega) | (simp [Hd.cut] at q ⊢; omega))) ?_
 refine Ba 158 rfl rfl (fun q => AE rfl) (Ba 158 rfl rfl (fun q => Bo (BX rfl q) (BX rfl q)) (Gt (BH rfl rfl (fun h => h)) (Gn (.t7 2 4 5 8 14 15 164) ?_)))
 refine Gc (fun c18 => ?_) (fun c18 => ?_)
 ·
  have c18p := kz c18
  (try simp only [Hd.cut] at c18)
  rw [hlen] at c18
  refine Gs (Gm rfl ?_)
  refine F5 DB rfl Tryz.underlying52 EM rfl rfl (by decide) (by first | omega | (simp only [Hd.cut]; omega) | (simp only [Hd.cut] at *; omega)) (fun _ => (.t .h)) ?_
  refine Ga rfl (Gn (.t6 2 4 5 8 14 15) (Gs (Gm rfl (Gt (Aq rfl Tryz.underlying52 rfl) (Gt (Aj rfl rfl) (Gn (.t7 2 4 5 8 14 15 169) ?_))))))
  refine Gc (fun c19 => ?_) (fun c19 => ?_)
  ·
   (try simp only [Hd.cut] at c19)
   rw [hlen] at c19
   refine Gs (Gm rfl ?_)
   refine DP rfl Hy rfl (.c rfl .n) .n (Bp _) (fun v15 B hv => ?_)
   obtain ⟨rfl, rfl⟩ := hv
   refine Gt (AL rfl rfl) (Gt (AL rfl rfl) ?_)
   refine AQ (AK (AS.id Order.fl.len Order.fl.one) rfl rfl rfl Ds rfl (.t (.t .h))) ?_
   refine Ga rfl (Gn (.t2 2 3) (Ac (AD ?_)))
   refine AY rfl (.cell rfl .m2 (.inl ⟨(by rw [Order.fl.len]; exact B9), rfl⟩) (.tmp rfl .n)) ?_
   intro w1 hS; refine ⟨?_, hS.Am⟩; rw [show Words.parse s = _ from ((AV c1).trans ((AV c2).trans ((AV c3).trans ((AV c5).trans ((AV c7).trans ((AV c8).trans ((AV c17).trans ((BC c18).trans (BC c19)))))))))]; rfl
  have c19p := kz c19
  (try simp only [Hd.cut] at c19)
  rw [hlen] at c19
  refine Aa ?_
  refine AB (.t6 2 4 5 8 14 15) ?_
  refine AA (Ao (Ae (Gs (Gm rfl (Gt (Aq rfl Tryz.underlying52 rfl) (Gt (Aj rfl rfl) (Gm rfl ?_)))))))
  refine Ba 178 rfl rfl (fun q => AE rfl) (Ba 178 rfl rfl (fun q => BQ (BX rfl q)) (Gt (BH rfl rfl (fun h => h)) (Ga rfl (Gn (.t6 2 4 5 8 14 174) ?_))))
  refine Gc (fun c20 => ?_) (fun c20 => ?_)
  ·
   (try simp only [Hd.cut] at c20)
   rw [hlen] at c20
   refine Gs (Gt (AZ rfl B9 .m0 (AS.id Order.fl.len Order.fl.one) rfl) ?_)
   refine AQ (AK (AS.id Order.fl.len Order.fl.one) rfl rfl rfl Ds rfl (.t (.t .h))) ?_
   refine Ga rfl (Gn (.t2 2 3) (Ac (AP (AD ?_))))
   refine AY rfl (.cell rfl .m2 (.inl ⟨(by rw [Order.fl.len]; exact B9), rfl⟩) (.tmp rfl .n)) ?_
   intro w1 hS; refine ⟨?_, hS.Am⟩; rw [show Words.parse s = _ from ((AV c1).trans ((AV c2).trans ((AV c3).trans ((AV c5).trans ((AV c7).trans ((AV c8).trans ((AV c17).trans ((BC c18).trans ((AV c19).trans (BC c20))))))))))]; rfl
  have c20p := kz c20
  (try simp only [Hd.cut] at c20)
  rw [hlen] at c20
  refine Gs (Gm rfl (Gt (Aq rfl Tryz.underlying52 rfl) (Gt (CT rfl rfl) (Gm rfl (BZ 187 rfl rfl (fun q => AE rfl) (BZ 187 rfl rfl (fun q => Bo (cF rfl q) rfl) ?_))))))
  refine Gt (BR rfl rfl (fun h => by rw [h]; rfl)) ?_
  refine Ga rfl (Gn (.t5 2 4 5 8 183) ?_)
  refine Gc (fun c21 => ?_) (fun c21 => ?_)
  ·
   (try simp only [Hd.cut] at c21)
   rw [hlen] at c21
   refine Gs (Gm rfl ?_)
   refine DP rfl Hy rfl (.c rfl .n) .n (Bp _) (fun v16 B hv => ?_)
   obtain ⟨rfl, rfl⟩ := hv
   refine Gt (AL rfl rfl) (Gt (AL rfl rfl) ?_)
   refine AQ (AK (AS.id Order.fl.len Order.fl.one) rfl rfl rfl Ds rfl (.t (.t .h))) ?_
   refine Ga rfl (Gn (.t2 2 3) (Ac (AP (AD ?_))))
   refine AY rfl (.cell rfl .m2 (.inl ⟨(by rw [Order.fl.len]; exact B9), rfl⟩) (.tmp rfl .n)) ?_
   intro w1 hS; refine ⟨?_, hS.Am⟩; rw [show Words.parse s = _ from ((AV c1).trans ((AV c2).trans ((AV c3).trans ((AV c5).trans ((AV c7).trans ((AV c8).trans ((AV c17).trans ((BC c18).trans ((AV c19).trans ((AV c20).trans (BC c21)))))))))))]; rfl
  have c21p := kz c21
  (try simp only [Hd.cut] at c21)
  rw [hlen] at c21
  refine Aa ?_
  refine AB (.t3 2 5 8) ?_
  refine AU (AA (Gs (Gm rfl ?_)))
  refine Gt (Bg Gu (by decide) (Kn.own .m1) rfl rfl (by omega) (by first | omega | (simp only [Hd.cut] at *; omega) | (simp [Hd.cut] at q ⊢; omega))) ?_
  refine Gt (C9 rfl CC (Kn.own .m1) (by first | omega | (simp only [List.length_drop, Hd.cut] at *; omega) | (simp [Hd.cut] at q ⊢; omega))) ?_
  refine Gt (Ah HR rfl) ?_
  refine AQ (AK Order.l4 rfl rfl rfl EM rfl .h) ?_
  refine Gn (.t2 2 8) (Gs (Gt (AZ rfl B9 .m0 (AS.id Order.fl.len Order.fl.one) rfl) ?_))
  refine AQ (AK (AS.id Order.fl.len Order.fl.one) rfl rfl rfl Ds rfl (.t (.t .h))) ?_
  refine Ga rfl (Gn (.t2 2 3) (Ac ?_))
  refine AY rfl (.cell rfl .m2 (.inl ⟨(by rw [Order.fl.len]; exact B9), rfl⟩) (.tmp rfl .n)) ?_
  intro w1 hS; refine ⟨?_, hS.Am⟩; rw [show Words.parse s = _ from ((AV c1).trans ((AV c2).trans ((AV c3).trans ((AV c5).trans ((AV c7).trans ((AV c8).trans ((AV c17).trans ((BC c18).trans ((AV c19).trans ((AV c20).trans (AV c21)))))))))))]; rfl
 have c18p := kz c18
 (try simp only [Hd.cut] at c18)
 rw [hlen] at c18
 refine Aa ?_
 refine AB (.t6 2 4 5 8 14 15) ?_
 refine AA (Ao (Ae (Gs (Gm rfl (Gt (Aq rfl Tryz.underlying52 rfl) (Gt (Aj rfl rfl) (Gm rfl ?_)))))))
 refine Ba 178 rfl rfl (fun q => AE rfl) (Ba 178 rfl rfl (fun q => BQ (BX rfl q)) (Gt (BH rfl rfl (fun h => h)) (Ga rfl (Gn (.t6 2 4 5 8 14 174) ?_))))
 refine Gc (fun c22 => ?_) (fun c22 => ?_)
 ·
  (try simp only [Hd.cut] at c22)
  rw [hlen] at c22
  refine Gs (Gt (AZ rfl B9 .m0 (AS.id Order.fl.len Order.fl.one) rfl) ?_)
  refine AQ (AK (AS.id Order.fl.len Order.fl.one) rfl rfl rfl Ds rfl (.t (.t .h))) ?_
  refine Ga rfl (Gn (.t2 2 3) (Ac (AP (AD ?_))))
  refine AY rfl (.cell rfl .m2 (.inl ⟨(by rw [Order.fl.len]; exact B9), rfl⟩) (.tmp rfl .n)) ?_
  intro w1 hS; refine ⟨?_, hS.Am⟩; rw [show Words.parse s = _ from ((AV c1).trans ((AV c2).trans ((AV c3).trans ((AV c5).trans ((AV c7).trans ((AV c8).trans ((AV c17).trans ((AV c18).trans (BC c22)))))))))]; rfl
 have c22p := kz c22
 (try simp only [Hd.cut] at c22)
 rw [hlen] at c22
 refine Gs (Gm rfl (Gt (Aq rfl Tryz.underlying52 rfl) (Gt (CT rfl rfl) (Gm rfl (BZ 187 rfl rfl (fun q => AE rfl) (BZ 187 rfl rfl (fun q => Bo (cF rfl q) rfl) ?_))))))
 refine Gt (BR rfl rfl (fun h => by rw [h]; rfl)) ?_
 refine Ga rfl (Gn (.t5 2 4 5 8 183) ?_)
 refine Gc (fun c23 => ?_) (fun c23 => ?_)
 ·
  (try simp only [Hd.cut] at c23)
  rw [hlen] at c23
  refine Gs (Gm rfl ?_)
  refine DP rfl Hy rfl (.c rfl .n) .n (Bp _) (fun v17 B hv => ?_)
  obtain ⟨rfl, rfl⟩ := hv
  refine Gt (AL rfl rfl) (Gt (AL rfl rfl) ?_)
  refine AQ (AK (AS.id Order.fl.len Order.fl.one) rfl rfl rfl Ds rfl (.t (.t .h))) ?_
  refine Ga rfl (Gn (.t2 2 3) (Ac (AP (AD ?_))))
  refine AY rfl (.cell rfl .m2 (.inl ⟨(by rw [Order.fl.len]; exact B9), rfl⟩) (.tmp rfl .n)) ?_
  intro w1 hS; refine ⟨?_, hS.Am⟩; rw [show Words.parse s = _ from ((AV c1).trans ((AV c2).trans ((AV c3).trans ((AV c5).trans ((AV c7).trans ((AV c8).trans ((AV c17).trans ((AV c18).trans ((AV c22).trans (BC c23))))))))))]; rfl
 have c23p := kz c23
 (try simp only [Hd.cut] at c23)
 rw [hlen] at c23
 refine Aa ?_
 refine AB (.t3 2 5 8) ?_
 refine AU (AA (Gs (Gm rfl ?_)))
 refine Gt (Bg Gu (by decide) (Kn.own .m1) rfl rfl (by omega) (by first | omega | (simp only [Hd.cut] at *; omega) | (simp [Hd.cut] at q ⊢; omega))) ?_
 refine Gt (C9 rfl CC (Kn.own .m1) (by first | omega | (simp only [List.length_drop, Hd.cut] at *; omega) | (simp [Hd.cut] at q ⊢; omega))) ?_
 refine Gt (Ah HR rfl) ?_
 refine AQ (AK Order.l4 rfl rfl rfl EM rfl .h) ?_
 refine Gn (.t2 2 8) (Gs (Gt (AZ rfl B9 .m0 (AS.id Order.fl.len Order.fl.one) rfl) ?_))
 refine AQ (AK (AS.id Order.fl.len Order.fl.one) rfl rfl rfl Ds rfl (.t (.t .h))) ?_
 refine Ga rfl (Gn (.t2 2 3) (Ac ?_))
 refine AY rfl (.cell rfl .m2 (.inl ⟨(by rw [Order.fl.len]; exact B9), rfl⟩) (.tmp rfl .n)) ?_
 intro w1 hS; refine ⟨?_, hS.Am⟩; rw [show Words.parse s = _ from ((AV c1).trans ((AV c2).trans ((AV c3).trans ((AV c5).trans ((AV c7).trans ((AV c8).trans ((AV c17).trans ((AV c18).trans ((AV c22).trans (AV c23))))))))))]; rfl
theorem G0 (d : Int) (w : World) : EG Tryz.prog 128 #[.int .i64 d] w fun v w' => v = .int .i64 (AI.opposite d) ∧ B6 w w' := by
 refine Ai [] [] Tryz.func128 rfl rfl rfl (St.start w []) ?_
 refine Gs (Ga rfl (Gn (.t1 0) (Gs (Gm rfl (Gt (LF rfl rfl) (Gt (LN rfl rfl) ?_))))))
 refine Gt (Aw rfl rfl (IntWalk.i64_in _ (by omega))) ?_
 refine Gt (SH rfl rfl (by omega)) ?_
 refine Ga rfl (Gn (.t1 2) (Ac ?_))
 refine AY rfl (.tmp rfl .n) ?_
 intro w1 hS; refine ⟨?_, hS.Am⟩; rfl
theorem P2 (b : Nat) (T : AG) (g : Hd) (d : Int) (hg : g.len = T.out.length) (hF : T.Fit) (hd : 0 ≤ d ∧ d < 6) (hn : T.out.length ≤ 80000) : Ev Tryz.prog 99 #[.pointer (some ⟨b, 0, none⟩), .int .i64 d] [Ab.box b 163 (Ad.enc ⟨T.w, T.b, g⟩), Ab.own g 56 16 (T.out.flatMap Ing.Event.enc)] (fun w => (GV 0 AI.C2 w ∧ 0 ∉ CR [Ab.box b 163 (Ad.enc ⟨T.w, T.b, g⟩), Ab.own g 56 16 (T.out.flatMap Ing.Event.enc)])) (fun v B => ∃ g' : Hd, v = .tuple #[] ∧ g'.len = (T.walk d).out.length ∧ B = [Ab.box b 163 (Ad.enc ⟨(T.walk d).w, (T.walk d).b, g'⟩), Ab.own g' 56 16 ((T.walk d).out.flatMap Ing.Event.enc)]) := by
 intro w hS0 hH
 obtain ⟨gl0, gm0⟩ := hH
 have hb := hF.b
 have hr := hF.room
 have hx := hF.exit hd.1 hd.2
 refine Ai _ _ Tryz.func99 rfl rfl rfl (hS0) ?_
 refine Ao ?_
 refine BE (N := 19) [0, 0, 0, 4, 12, 28, 2, 66, 194, 510, 1022, 2046, 1, 4097, 12289, 32767, 65535, 0, 262143] mix (by kernel_rfl) rfl ?_
 refine Pf 0 rfl (AE rfl) (Pf 1 rfl (AE rfl) (Pf 2 rfl (AE rfl) (Pf 3 rfl (BS rfl) (Pf 4 rfl (Ah CM rfl) (Pf 5 rfl (AF rfl A1 .m0 Ad.l1 rfl rfl) (Pf 6 rfl (BS rfl) (Pf 7 rfl (Ah A6 rfl) ?_)))))))
 refine Pf 8 rfl (Ah Bk rfl) ?_
 refine Pf 9 rfl (AR Cy rfl rfl (by first | omega | exact hb.1 | exact hb.2 | (dsimp only; omega)) (by first | omega | exact hb.1 | exact hb.2 | (dsimp only; omega))) ?_
 refine Pf 10 rfl (Ah Cv rfl) ?_
 refine Pf 11 rfl (AF rfl A1 .m0 (((Ad.l0.comp AI.l2).comp (AS.ar (n := 6) Al.fl (by first | omega | exact hb | (dsimp only; omega)))).comp Al.l3) rfl rfl) ?_
 refine Pf 12 rfl (BS rfl) (Pf 13 rfl (Ah A6 rfl) (Pf 14 rfl (Ah GJ rfl) ?_))
 refine Pf 15 rfl (AR N6 rfl rfl (by first | omega | exact hb.1 | exact hb.2 | (dsimp only; omega)) (by first | omega | exact hb.1 | exact hb.2 | (dsimp only; omega))) ?_
 refine Pf 16 rfl (AZ rfl MK .m0 ((Ad.l0.comp AI.l0).comp (AS.ar (n := 6) Room.fl (by first | omega | exact hb | (dsimp only; omega)))) rfl) ?_
 refine An 17 rfl (by kernel_rfl) ?_
 refine BB rfl NV rfl (fun b1 => ?_)
 refine Bm rfl ⟨?_, ?_⟩
 · exact (Po rfl (AZ rfl MK .m1 ((Ad.l0.comp AI.l0).comp (AS.ar (n := 6) Room.fl (by first | omega | exact hb | (dsimp only; omega)))) rfl) rfl rfl (Po rfl (AR N6 rfl rfl (by first | omega | exact hb.1 | exact hb.2 | (dsimp only; omega)) (by first | omega | exact hb.1 | exact hb.2 | (dsimp only; omega))) rfl rfl (Po rfl (Ah GJ rfl) rfl rfl (Po rfl (Ah A6 rfl) rfl rfl (Po rfl (BS rfl) rfl rfl (Po rfl (AF rfl A1 .m1 (((Ad.l0.comp AI.l2).comp (AS.ar (n := 6) Al.fl (by first | omega | exact hb | (dsimp only; omega)))).comp Al.l3) rfl rfl) rfl rfl (Po rfl (Ah Cv rfl) rfl rfl (Po rfl (AR Cy rfl rfl (by first | omega | exact hb.1 | exact hb.2 | (dsimp only; omega)) (by first | omega | exact hb.1 | exact hb.2 | (dsimp only; omega))) rfl rfl (Po rfl (Ah Bk rfl) rfl rfl (Po rfl (Ah A6 rfl) rfl rfl (Po rfl (BS rfl) rfl rfl (Po rfl (AF rfl A1 .m1 Ad.l1 rfl rfl) rfl rfl (Po rfl (Ah CM rfl) rfl rfl (Po rfl (BS rfl) rfl rfl (Po rfl (AE rfl) rfl rfl (Po rfl (AE rfl) rfl rfl (Po rfl (AE rfl) rfl rfl As)))))))))))))))))
 refine An 18 rfl (by kernel_rfl) ?_
 refine AQ (AK (AS.id Room.fl.len Room.fl.one) rfl rfl rfl Pt rfl .h) ?_
 refine BK rfl ⟨?_, ?_⟩
 · exact (Pk (Pk (Pk (Pk (Pk (Pk (Pk (Pk (Pk (Pk (Pk (Pk (Pk (Pk (Pk (Pk (Pk As)))))))))))))))))
 refine A3 (by kernel_rfl) ?_
 refine AB (.t3 0 1 4) ?_
 refine AA (Ae (Gs (Gm rfl (Gt (Ah L5 rfl) ?_))))
 refine Gt (AR Rg rfl rfl (by first | omega | exact hb.1 | exact hb.2 | (dsimp only; omega)) (by first | omega | exact hb.1 | exact hb.2 | (dsimp only; omega))) ?_
 refine Gt (AF rfl A1 .m0 (Room.l2.comp (AS.ar (n := 6) Bz (by first | omega | exact hb | (dsimp only; omega)))) rfl rfl) ?_
 refine Gt (Aj rfl rfl) (Ga rfl (Gn (.t4 0 1 4 58) ?_))
 refine Gc (fun c1 => ?_) (fun c1 => ?_)
 ·
  have c1p := kz c1
  refine AJ (Gm rfl ?_)
  refine Ag rfl D3 (.c rfl (.c rfl .n)) (.c (.t .h) (.c (.t .h) .n)) (Bb _ _ _ _ hg hb (by omega)) (fun v1 B hv => ?_)
  obtain ⟨y2, rfl, y3, rfl⟩ := hv
  refine AM (AB (.nil _) ?_)
  refine AU ?_
  refine Bh rfl .n ?_
  intro w1 hS
  have hS := (hS.perm (Av.perm (.c .h (.c .h .n)))).Ay
  have hq : T.walk d = _ := (BC c1)
  refine ⟨_, ⟨?gq1, rfl, ?hl1, ?hB1⟩, hS⟩
  case hB1 => rw [hq]; (try rfl)
  case hl1 => rw [hq]; assumption
 have c1p := kz c1
 refine Gs (Gm rfl (Gt (Ah L0 rfl) ?_))
 refine Gt (AR Tu rfl rfl (by first | omega | exact hb.1 | exact hb.2 | (dsimp only; omega)) (by first | omega | exact hb.1 | exact hb.2 | (dsimp only; omega))) ?_
 refine Gt (AF rfl Ct .m0 (Room.l3.comp (AS.ar (n := 6) Gh (by first | omega | exact hb | (dsimp only; omega)))) rfl rfl) ?_
 refine Ga rfl (Gn (.t4 0 1 4 66) ?_)
 refine Gc (fun c2 => ?_) (fun c2 => ?_)
 ·
  have c2p := kz c2
  refine AJ (Gm rfl ?_)
  refine Ag rfl D3 (.c rfl (.c rfl .n)) (.c (.t .h) (.c (.t .h) .n)) (Bb _ _ _ _ hg hb (by omega)) (fun v4 B hv => ?_)
  obtain ⟨y5, rfl, y6, rfl⟩ := hv
  refine AM (AB (.nil _) ?_)
  refine AU ?_
  refine Bh rfl .n ?_
  intro w1 hS
  have hS := (hS.perm (Av.perm (.c .h (.c .h .n)))).Ay
  have hq : T.walk d = _ := ((AV c1).trans (BC c2))
  refine ⟨_, ⟨?gq2, rfl, ?hl2, ?hB2⟩, hS⟩
  case hB2 => rw [hq]; (try rfl)
  case hl2 => rw [hq]; assumption
 have c2p := kz c2
 have gm := AG.SC (hF.Bl { AG.GR 1 with dir := d }) (r := (T.w.By.at T.me.room).Db.at d - 1) (by have h0 : ¬ (T.w.By.at (T.w.AW.at T.b).room).Db.at d = 0 := c1p; show 0 ≤ (T.w.By.at (T.w.AW.at T.b).room).Db.at d - 1 ∧ (T.w.By.at (T.w.AW.at T.b).room).Db.at d - 1 < 6; omega)
 refine Gs (Gm rfl (Gm rfl (Gt (BD NO Hj rfl (.cons Ing.Event.l0 rfl rfl rfl (.cons Ing.Event.l3 rfl rfl rfl (.cons Ing.Event.l4 rfl rfl rfl .nil)))) ?_)))
 refine Ag rfl Nr (.c rfl (.c rfl .n)) (.c (.t .h) (.c (.t .h) .n)) (CL _ T _ { AG.GR 1 with dir := d } hg hb (show (-1 : Int) < 6 by decide) (by omega)) (fun v7 B hv => ?_)
 obtain ⟨y8, rfl, y9, rfl⟩ := hv
 refine Gn (.t3 0 1 4) (Ao ?_)
 refine BE (N := 16) [0, 0, 2, 6, 14, 0, 0, 96, 224, 480, 1, 1025, 3073, 8191, 16383, 32767] mix (by kernel_rfl) rfl ?_
 refine Pf 0 rfl (AE rfl) (Pf 1 rfl (AE rfl) (Pf 2 rfl (BS rfl) (Pf 3 rfl (Ah CM rfl) (Pf 4 rfl (AF rfl A1 .m0 Ad.l1 rfl rfl) (Pf 5 rfl (AE rfl) (Pf 6 rfl (Ah L5 rfl) ?_))))))
 refine Pf 7 rfl (AR Rg rfl rfl (by first | omega | exact hb.1 | exact hb.2 | (dsimp only; omega)) (by first | omega | exact hb.1 | exact hb.2 | (dsimp only; omega))) ?_
 refine Pf 8 rfl (AF rfl A1 .m2 (Room.l2.comp (AS.ar (n := 6) Bz (by first | omega | exact hb | (dsimp only; omega)))) rfl rfl) ?_
 refine Pf 9 rfl (E8 rfl rfl (IntWalk.i64_in _ (by first | omega | exact hb.1 | exact hb.2 | (dsimp only; omega)))) ?_
 refine Pf 10 rfl (BS rfl) (Pf 11 rfl (Ah A6 rfl) (Pf 12 rfl (Ah Bk rfl) ?_))
 refine Pf 13 rfl (AR Cy rfl rfl (by first | omega | exact hb.1 | exact hb.2 | (dsimp only; omega)) (by first | omega | exact hb.1 | exact hb.2 | (dsimp only; omega))) ?_
 refine Pf 14 rfl (Ah Cv rfl) ?_
 refine An 15 rfl (by kernel_rfl) ?_
 refine AQ (AK (((Ad.l0.comp AI.l2).comp (AS.ar (n := 6) Al.fl (by first | omega | exact hb | (dsimp only; omega)))).comp Al.l3) rfl rfl rfl C5 rfl .h) ?_
 refine BK rfl ⟨?_, ?_⟩
 · exact (Pk (Pk (Pk (Pk (Pk (Pk (Pk (Pk (Pk (Pk (Pk (Pk (Pk (Pk (Pk As)))))))))))))))
 refine A3 (by kernel_rfl) ?_
 refine AB (.t2 0 1) ?_
 refine AA (Ao ?_)
 refine BE (N := 11) [0, 0, 2, 6, 14, 1, 33, 97, 255, 511, 1023] mix (by kernel_rfl) rfl ?_
 refine Pf 0 rfl (AE rfl) (Pf 1 rfl (AE rfl) (Pf 2 rfl (BS rfl) (Pf 3 rfl (Ah CM rfl) (Pf 4 rfl (AF rfl A1 .m0 Ad.l1 rfl rfl) (Pf 5 rfl (BS rfl) (Pf 6 rfl (Ah A6 rfl) (Pf 7 rfl (Ah Bk rfl) ?_)))))))
 refine Pf 8 rfl (AR Cy rfl rfl (by first | omega | exact hb.1 | exact hb.2 | (dsimp only; omega)) (by first | omega | exact hb.1 | exact hb.2 | (dsimp only; omega))) ?_
 refine Pf 9 rfl (Ah Fq rfl) ?_
 refine An 10 rfl (by kernel_rfl) ?_
 refine AQ (AK (((Ad.l0.comp AI.l2).comp (AS.ar (n := 6) Al.fl (by first | omega | exact hb | (dsimp only; omega)))).comp Al.l5) rfl rfl rfl C5 rfl .h) ?_
 refine BK rfl ⟨?_, ?_⟩
 · exact (Pk (Pk (Pk (Pk (Pk (Pk (Pk (Pk (Pk (Pk As))))))))))
 refine A3 (by kernel_rfl) ?_
 refine AB (.t2 0 1) ?_
 refine AA (Ao ?_)
 refine Fc (fun _ => .h) (congrArg (fun q => Ad.enc ⟨q, _, _⟩) (AG.Vw (T.Bl { AG.GR 1 with dir := d }) hb _)) ?_
 refine AJ (Gm rfl (Gm rfl ?_))
 refine A8 rfl YE (.c rfl .n) (fun w hS => G0 _ w) ?_
 refine Gt (BD NO Hj rfl (.cons Ing.Event.l0 rfl rfl rfl (.cons Ing.Event.l3 rfl rfl rfl (.cons Ing.Event.l4 rfl rfl rfl .nil)))) ?_
 refine Ag rfl Nr (.c rfl (.c rfl .n)) (.c .h (.c .h .n)) (CL _ (AG.I8 (T.Bl { AG.GR 1 with dir := d }) ((T.w.By.at T.me.room).Db.at d - 1)) _ { AG.GR 2 with dir := AI.opposite d } (by assumption) hb (show (-1 : Int) < 6 by decide) (show (AG.out (T.Bl { AG.GR 1 with dir := d })).length ≤ 100000 by simp only [AG.CU]; omega)) (fun v10 B hv => ?_)
 obtain ⟨y11, rfl, y12, rfl⟩ := hv
 refine Gn (.t1 0) (AJ (Gm rfl ?_))
 refine BF rfl Sr (.c rfl .n) (.c .h (.c .h .n)) (GZ _ (AG.Bl (AG.I8 (T.Bl { AG.GR 1 with dir := d }) ((T.w.By.at T.me.room).Db.at d - 1)) { AG.GR 2 with dir := AI.opposite d }) _ (by assumption) hb gm.fit.br (show _ ≤ 90000 by simp only [AG.CU]; show (AG.out (T.Bl { AG.GR 1 with dir := d })).length + 1 ≤ 90000; simp only [AG.CU]; omega)) (fun w hS => gl0.pull gm0 hS (.c .h (.c .h .n))) (fun v13 B hv => ?_)
 obtain ⟨y14, rfl, y15, rfl⟩ := hv
 refine AM (AB (.nil _) ?_)
 refine AU ?_
 refine Bh rfl .n ?_
 intro w1 hS
 have hS := (hS.perm (Av.perm (.c .h (.c .h .n)))).Ay
 have hq : T.walk d = _ := ((AV c1).trans (AV c2))
 refine ⟨_, ⟨?gq3, rfl, ?hl3, ?hB3⟩, hS⟩
 case hB3 => rw [hq]; (try rfl)
 case hl3 => rw [hq]; assumption
theorem HU (b : Nat) (T : AG) (g : Hd) (hF : T.Fit) : Ic Tryz.prog 136 #[.pointer (some ⟨b, 0, none⟩)] [Ab.box b 163 (Ad.enc ⟨T.w, T.b, g⟩)] (fun v B => ∃ f : Hd, v = f.val ∧ f.len = (T.own).length ∧ B = [Ab.box b 163 (Ad.enc ⟨T.w, T.b, g⟩), Ab.own f 3 1 ((T.own).flatMap Ax)]) := by
 intro w hS0
 have hb := hF.b
 have hr := hF.room
 refine Ai _ _ Tryz.func136 rfl rfl rfl (hS0) ?_
 refine Gs (Ga rfl (Gn (.t1 0) (Ao ?_)))
 refine BE (N := 10) [0, 1, 3, 7, 0, 16, 48, 112, 255, 511] mix (by kernel_rfl) rfl ?_
 refine Pf 0 rfl (AE rfl) (Pf 1 rfl (BS rfl) (Pf 2 rfl (Ah A6 rfl) (Pf 3 rfl (AZ rfl BT .m0 Ad.l0 rfl) (Pf 4 rfl (AE rfl) (Pf 5 rfl (BS rfl) (Pf 6 rfl (Ah CM rfl) (Pf 7 rfl (AF rfl A1 .m0 Ad.l1 rfl rfl) ?_)))))))
 refine An 8 rfl (by kernel_rfl) ?_
 refine Ag rfl Qi (.c rfl (.c rfl (.c rfl .n))) .n (Ey _ _ _) (fun v1 B hv => ?_)
 obtain ⟨y2, rfl, y3, rfl⟩ := hv
 refine Bm rfl ⟨?_, ?_⟩
 · exact (Pk (Pk (Pk (Pk (Pk (Pk (Pk (Pk As))))))))
 refine Pf 9 rfl (Az rfl) ?_
 refine A3 (by kernel_rfl) ?_
 refine AB (.t1 2) ?_
 refine AA (Ac ?_)
 refine AY rfl (.tmp rfl .n) ?_
 intro w1 hS
 have hS := (hS.perm (Av.perm (.c (.t .h) (.c .h .n)))).Ay
 exact ⟨_, ⟨_, rfl, by assumption, rfl⟩, hS⟩
theorem LD (b : Nat) (T : AG) (g : Hd) (hF : T.Fit) : Ic Tryz.prog 125 #[.pointer (some ⟨b, 0, none⟩)] [Ab.box b 163 (Ad.enc ⟨T.w, T.b, g⟩)] (fun v B => ∃ F : AI, F = T.GH.w ∧ v = .tuple #[] ∧ B = [Ab.box b 163 (Ad.enc ⟨F, T.b, g⟩)]) := by
 intro w hS0
 have hb := hF.b
 have hr := hF.room
 have ho9 := T.Jg
 refine Ai _ _ Tryz.func125 rfl rfl rfl (hS0) ?_
 refine CB (Gm rfl ?_)
 refine Ag rfl Sx (.c rfl .n) (.c .h .n) (HU _ _ _ (by first | assumption | omega)) (fun v1 B hv => ?_)
 obtain ⟨y2, rfl, y3, rfl⟩ := hv
 refine Gt (Aq rfl Tryz.underlying169 rfl) (Gm rfl (Gn (.t4 0 7 8 9) (Ae ?_)))
 refine Bf (.t4 9 0 7 8) ?_
 refine ET (fun (k : Int) (X : AG) => 0 ≤ k ∧ T.Ci T.own = X.Ci (T.own.drop k.toNat) ∧ X.b = T.b ∧ k ≤ (T.own.length : Int)) (fun (k : Int) (X : AG) => ((T.own.length : Int) - k).toNat) (fun (k : Int) (X : AG) => [(9, .int .i64 k)]) (fun (k : Int) (X : AG) => [Ab.box b 163 (Ad.enc ⟨X.w, X.b, g⟩)]) (0) (_) ?_ rfl rfl (fun k X hI1 => ?_)
 · exact ⟨by omega, rfl, rfl, by omega⟩
 obtain ⟨hI11, hI12, hI13, hI14⟩ := hI1
 refine Gs (Gt (A5 rfl rfl) (AM (AA (Ao ?_))))
 refine Gc (fun c1 => ?_) (fun c1 => ?_)
 ·
  have c1p := kz c1
  have hx := AG.Kk (Bc.Ef (xs := T.own) (i := k.toNat) (by omega))
  refine Aa ?_
  refine AB (.t4 0 7 8 9) ?_
  refine AA (Ao (Ae (Gs ?_)))
  refine Gt (Bg GC (by decide) (Kn.own .m1) rfl rfl (by omega) (by omega)) ?_
  refine Gt (C8 rfl A1 (Kn.own .m1) (by omega)) ?_
  refine Ga rfl (Gn (.t5 0 3 7 8 9) (Gs (Gm rfl (Gm rfl (Gt (BS rfl) (Gt (Ah A6 rfl) (Gt (Ah Cq rfl) ?_)))))))
  refine Gt (AR Fo rfl rfl (by first | omega | (rw [hI13]; first | exact hb.1 | exact hb.2) | (dsimp only; omega)) (by first | omega | (rw [hI13]; first | exact hb.1 | exact hb.2) | (dsimp only; omega))) ?_
  refine Ga rfl (Gn (.t5 0 4 7 8 9) (CB (Gm rfl (Gt (BS rfl) (Gt (Ah GS rfl) ?_)))))
  refine Gt (AF rfl A1 .m0 (((Ad.l0.comp AI.l1).comp (AS.arr (n := 9) Ak.fl (by first | omega | (rw [hI13]; first | exact hb.1 | exact hb.2) | (dsimp only; omega)) (by first | omega | (rw [hI13]; first | exact hb.1 | exact hb.2) | (dsimp only; omega)))).comp Ak.l1) rfl rfl) ?_
  refine Gt (Aj rfl rfl) (Gn (.t6 0 4 7 8 9 23) ?_)
  refine Gc (fun c2 => ?_) (fun c2 => ?_)
  ·
   have c2p := kz c2
   refine AJ (Gm rfl (Gt (BS rfl) (Gt (Ah Fk rfl) ?_)))
   refine AQ (AK (((Ad.l0.comp AI.l1).comp (AS.arr (n := 9) Ak.fl (by first | omega | (rw [hI13]; first | exact hb.1 | exact hb.2) | (dsimp only; omega)) (by first | omega | (rw [hI13]; first | exact hb.1 | exact hb.2) | (dsimp only; omega)))).comp Ak.l4) rfl rfl rfl Jt rfl .h) ?_
   refine Gn (.t5 0 4 7 8 9) ?_
   refine BE (N := 19) [0, 0, 0, 0, 8, 24, 56, 4, 132, 388, 1020, 2044, 4092, 8189, 16381, 32765, 65535, 131071, 262143] mix (by kernel_rfl) rfl ?_
   refine Pf 0 rfl (AE rfl) (Pf 1 rfl (AE rfl) (Pf 2 rfl (AE rfl) (Pf 3 rfl (AE rfl) (Pf 4 rfl (BS rfl) (Pf 5 rfl (Ah CM rfl) (Pf 6 rfl (AF rfl A1 .m0 Ad.l1 rfl rfl) (Pf 7 rfl (BS rfl) ?_)))))))
   refine Pf 8 rfl (Ah A6 rfl) (Pf 9 rfl (Ah Bk rfl) ?_)
   refine Pf 10 rfl (AR Cy rfl rfl (by first | omega | (rw [hI13]; first | exact hb.1 | exact hb.2) | (dsimp only; omega)) (by first | omega | (rw [hI13]; first | exact hb.1 | exact hb.2) | (dsimp only; omega))) ?_
   refine Pf 11 rfl (Ah Cv rfl) ?_
   refine Pf 12 rfl (AF rfl A1 .m0 (((Ad.l0.comp AI.l2).comp (AS.arr (n := 6) Al.fl (by first | omega | (rw [hI13]; first | exact hb.1 | exact hb.2) | (dsimp only; omega)) (by first | omega | (rw [hI13]; first | exact hb.1 | exact hb.2) | (dsimp only; omega)))).comp Al.l3) rfl rfl) ?_
   refine Pf 13 rfl (BS rfl) (Pf 14 rfl (Ah E6 rfl) ?_)
   refine An 15 rfl (by kernel_rfl) ?_
   refine AQ (AK (((Ad.l0.comp AI.l1).comp (AS.arr (n := 9) Ak.fl (by first | omega | (rw [hI13]; first | exact hb.1 | exact hb.2) | (dsimp only; omega)) (by first | omega | (rw [hI13]; first | exact hb.1 | exact hb.2) | (dsimp only; omega)))).comp Ak.l2) rfl rfl rfl C5 rfl .h) ?_
   refine BK rfl ⟨?_, ?_⟩
   · exact (Pk (Pk (Pk (Pk (Pk (Pk (Pk (Pk (Pk (Pk (Pk (Pk (Pk (Po rfl (AE rfl) rfl rfl (Pk As)))))))))))))))
   refine Pf 16 rfl (BS rfl) (Pf 17 rfl (Ah DA rfl) ?_)
   refine An 18 rfl (by kernel_rfl) ?_
   refine AQ (AK (((Ad.l0.comp AI.l1).comp (AS.arr (n := 9) Ak.fl (by first | omega | (rw [hI13]; first | exact hb.1 | exact hb.2) | (dsimp only; omega)) (by first | omega | (rw [hI13]; first | exact hb.1 | exact hb.2) | (dsimp only; omega)))).comp Ak.l3) rfl rfl rfl C5 rfl .h) ?_
   refine BK rfl ⟨?_, ?_⟩
   · exact (Pk (Pk (Pk (Pk (Pk (Pk (Pk (Pk (Pk (Pk (Pk (Pk (Pk (Pk (Pk (Pk (Pk As)))))))))))))))))
   refine A3 (by kernel_rfl) ?_
   refine AB (.t4 0 7 8 9) ?_
   refine AU (AA ?_)
   refine Fc (fun _ => .h) (congrArg (fun q => Ad.enc ⟨q, _, _⟩) (AG.Tn X hx.1 hx.2 c2)) ?_
   refine AJ ?_
   refine Gt (Aw rfl rfl (IntWalk.i64_in _ (by first | omega | (rw [hI13]; first | exact hb.1 | exact hb.2) | (dsimp only; omega)))) ?_
   refine Gm rfl ?_
   refine AM (AB (.t4 0 7 8 9) ?_)
   refine Cn (k + 1) _ ?_ ?_ (.t4 9 0 7 8) (.refl _)
   · exact ⟨by omega, by rw [hI12, AG.Kl hI11 (by omega)], hI13, by omega⟩
   · omega
  have c2p := kz c2
  refine Aa ?_
  refine AB (.t5 0 4 7 8 9) ?_
  refine AA ?_
  refine BE (N := 19) [0, 0, 0, 0, 8, 24, 56, 4, 132, 388, 1020, 2044, 4092, 8189, 16381, 32765, 65535, 131071, 262143] mix (by kernel_rfl) rfl ?_
  refine Pf 0 rfl (AE rfl) (Pf 1 rfl (AE rfl) (Pf 2 rfl (AE rfl) (Pf 3 rfl (AE rfl) (Pf 4 rfl (BS rfl) (Pf 5 rfl (Ah CM rfl) (Pf 6 rfl (AF rfl A1 .m0 Ad.l1 rfl rfl) (Pf 7 rfl (BS rfl) ?_)))))))
  refine Pf 8 rfl (Ah A6 rfl) (Pf 9 rfl (Ah Bk rfl) ?_)
  refine Pf 10 rfl (AR Cy rfl rfl (by first | omega | (rw [hI13]; first | exact hb.1 | exact hb.2) | (dsimp only; omega)) (by first | omega | (rw [hI13]; first | exact hb.1 | exact hb.2) | (dsimp only; omega))) ?_
  refine Pf 11 rfl (Ah Cv rfl) ?_
  refine Pf 12 rfl (AF rfl A1 .m0 (((Ad.l0.comp AI.l2).comp (AS.arr (n := 6) Al.fl (by first | omega | (rw [hI13]; first | exact hb.1 | exact hb.2) | (dsimp only; omega)) (by first | omega | (rw [hI13]; first | exact hb.1 | exact hb.2) | (dsimp only; omega)))).comp Al.l3) rfl rfl) ?_
  refine Pf 13 rfl (BS rfl) (Pf 14 rfl (Ah E6 rfl) ?_)
  refine An 15 rfl (by kernel_rfl) ?_
  refine AQ (AK (((Ad.l0.comp AI.l1).comp (AS.arr (n := 9) Ak.fl (by first | omega | (rw [hI13]; first | exact hb.1 | exact hb.2) | (dsimp only; omega)) (by first | omega | (rw [hI13]; first | exact hb.1 | exact hb.2) | (dsimp only; omega)))).comp Ak.l2) rfl rfl rfl C5 rfl .h) ?_
  refine BK rfl ⟨?_, ?_⟩
  · exact (Pk (Pk (Pk (Pk (Pk (Pk (Pk (Pk (Pk (Pk (Pk (Pk (Pk (Po rfl (AE rfl) rfl rfl (Pk As)))))))))))))))
  refine Pf 16 rfl (BS rfl) (Pf 17 rfl (Ah DA rfl) ?_)
  refine An 18 rfl (by kernel_rfl) ?_
  refine AQ (AK (((Ad.l0.comp AI.l1).comp (AS.arr (n := 9) Ak.fl (by first | omega | (rw [hI13]; first | exact hb.1 | exact hb.2) | (dsimp only; omega)) (by first | omega | (rw [hI13]; first | exact hb.1 | exact hb.2) | (dsimp only; omega)))).comp Ak.l3) rfl rfl rfl C5 rfl .h) ?_
  refine BK rfl ⟨?_, ?_⟩
  · exact (Pk (Pk (Pk (Pk (Pk (Pk (Pk (Pk (Pk (Pk (Pk (Pk (Pk (Pk (Pk (Pk (Pk As)))))))))))))))))
  refine A3 (by kernel_rfl) ?_
  refine AB (.t4 0 7 8 9) ?_
  refine AU (AA ?_)
  refine Fc (fun _ => .h) (congrArg (fun q => Ad.enc ⟨q, _, _⟩) (AG.Ts X hx.1 hx.2 c2)) ?_
  refine AJ ?_
  refine Gt (Aw rfl rfl (IntWalk.i64_in _ (by first | omega | (rw [hI13]; first | exact hb.1 | exact hb.2) | (dsimp only; omega)))) ?_
  refine Gm rfl ?_
  refine AM (AB (.t4 0 7 8 9) ?_)
  refine Cn (k + 1) _ ?_ ?_ (.t4 9 0 7 8) (.refl _)
  · exact ⟨by omega, by rw [hI12, AG.Kl hI11 (by omega)], hI13, by omega⟩
  · omega
 have c1p := kz c1
 obtain rfl : k = (T.own.length : Int) := by omega
 rw [AG.I6] at hI12
 have hY : X = T.Ci T.own := hI12.symm
 refine BV (AT (AT (Af ?_)))
 refine AB (.t1 0) ?_
 refine AA (CB (Gm rfl (AM (AA (Ae ?_)))))
 refine Bf (.t2 45 0) ?_
 refine ET (fun (k : Int) (Y : AG) => 0 ≤ k ∧ k ≤ 6 ∧ Y = (T.Ci T.own).Dz k.toNat ∧ Y.b = T.b) (fun (k : Int) (Y : AG) => (6 - k).toNat) (fun (k : Int) (Y : AG) => [(45, .int .i64 k)]) (fun (k : Int) (Y : AG) => [Ab.box b 163 (Ad.enc ⟨Y.w, Y.b, g⟩)]) (0) (_) ?_ rfl rfl (fun k Y hI2 => ?_)
 · exact ⟨by omega, by omega, hY, hI13⟩
 obtain ⟨hI21, hI22, hI23, hI24⟩ := hI2
 refine Gs (Gt (A5 rfl rfl) (AM (AA (Ao ?_))))
 refine Gc (fun c3 => ?_) (fun c3 => ?_)
 ·
  have c3p := kz c3
  refine Aa ?_
  refine AB (.t2 0 45) ?_
  refine AA (Ao (Ae (Gs (Gm rfl (Ga rfl (Gn (.t3 0 5 45) (Ao ?_)))))))
  refine BE (N := 14) [0, 0, 1, 5, 13, 31, 63, 127, 0, 256, 768, 1792, 3840, 8191] mix (by kernel_rfl) rfl ?_
  refine Pf 0 rfl (AE rfl) (Pf 1 rfl (AE rfl) (Pf 2 rfl (BS rfl) (Pf 3 rfl (Ah A6 rfl) (Pf 4 rfl (Ah Bk rfl) ?_))))
  refine Pf 5 rfl (AR Cy rfl rfl (by first | omega | (rw [hI13]; first | exact hb.1 | exact hb.2) | (dsimp only; omega)) (by first | omega | (rw [hI13]; first | exact hb.1 | exact hb.2) | (dsimp only; omega))) ?_
  refine Pf 6 rfl (Ah Fq rfl) ?_
  refine Pf 7 rfl (AF rfl A1 .m0 (((Ad.l0.comp AI.l2).comp (AS.arr (n := 6) Al.fl (by first | omega | (rw [hI13]; first | exact hb.1 | exact hb.2) | (dsimp only; omega)) (by first | omega | (rw [hI13]; first | exact hb.1 | exact hb.2) | (dsimp only; omega)))).comp Al.l5) rfl rfl) ?_
  refine Pf 8 rfl (AE rfl) (Pf 9 rfl (BS rfl) (Pf 10 rfl (Ah CM rfl) (Pf 11 rfl (AF rfl A1 .m0 Ad.l1 rfl rfl) ?_)))
  refine Pf 12 rfl (Aw rfl rfl (IntWalk.i64_in _ (by first | omega | (rw [hI13]; first | exact hb.1 | exact hb.2) | (dsimp only; omega)))) ?_
  refine Pf 13 rfl (Aj rfl rfl) ?_
  refine A3 (by kernel_rfl) ?_
  refine AB (.t4 0 5 45 61) ?_
  refine AA ?_
  refine Gc (fun c4 => ?_) (fun c4 => ?_)
  ·
   have c4p := kz c4
   have hcb : decide ((Y.w.AW.at k).B7 = (T.Ci T.own).b + 1) = true := by rw [(AG.IK T.own T).1, ← hI24]; exact c4
   refine AJ (Gm rfl (Gm rfl (Gt (BS rfl) (Gt (Ah A6 rfl) (Gt (Ah Bk rfl) ?_)))))
   refine Gt (AR Cy rfl rfl (by first | omega | (rw [hI13]; first | exact hb.1 | exact hb.2) | (dsimp only; omega)) (by first | omega | (rw [hI13]; first | exact hb.1 | exact hb.2) | (dsimp only; omega))) ?_
   refine Gt (Ah Fq rfl) ?_
   refine AQ (AK (((Ad.l0.comp AI.l2).comp (AS.arr (n := 6) Al.fl (by first | omega | (rw [hI13]; first | exact hb.1 | exact hb.2) | (dsimp only; omega)) (by first | omega | (rw [hI13]; first | exact hb.1 | exact hb.2) | (dsimp only; omega)))).comp Al.l5) rfl rfl rfl C5 rfl .h) ?_
   refine AM (AB (.t2 0 45) ?_)
   refine AU (AA (AJ ?_))
   refine Gt (Aw rfl rfl (IntWalk.i64_in _ (by first | omega | (rw [hI13]; first | exact hb.1 | exact hb.2) | (dsimp only; omega)))) ?_
   refine Gm rfl ?_
   refine AM (AB (.t2 0 45) ?_)
   refine Cn (k + 1) (Y.DX k 0) ?_ ?_ (.t2 45 0) (.refl _)
   · exact ⟨by omega, by omega, by rw [AG.ND hI21, ← hI23, BC hcb], hI24⟩
   · omega
  have c4p := kz c4
  have hcb : decide ((Y.w.AW.at k).B7 = (T.Ci T.own).b + 1) = false := by rw [(AG.IK T.own T).1, ← hI24]; exact c4
  refine Aa ?_
  refine AB (.t2 0 45) ?_
  refine AU (AA (AJ ?_))
  refine Gt (Aw rfl rfl (IntWalk.i64_in _ (by first | omega | (rw [hI13]; first | exact hb.1 | exact hb.2) | (dsimp only; omega)))) ?_
  refine Gm rfl ?_
  refine AM (AB (.t2 0 45) ?_)
  refine Cn (k + 1) (Y) ?_ ?_ (.t2 45 0) (.refl _)
  · exact ⟨by omega, by omega, by rw [AG.ND hI21, ← hI23, AV hcb], hI24⟩
  · omega
 have c3p := kz c3
 obtain rfl : k = 6 := by omega
 refine BV (AT (AT (Af ?_)))
 refine AB (.t1 0) ?_
 refine AA ?_
 refine BE (N := 11) [0, 0, 2, 6, 14, 1, 33, 97, 255, 511, 1023] mix (by kernel_rfl) rfl ?_
 refine Pf 0 rfl (AE rfl) (Pf 1 rfl (AE rfl) (Pf 2 rfl (BS rfl) (Pf 3 rfl (Ah CM rfl) (Pf 4 rfl (AF rfl A1 .m0 Ad.l1 rfl rfl) (Pf 5 rfl (BS rfl) (Pf 6 rfl (Ah A6 rfl) (Pf 7 rfl (Ah Bk rfl) ?_)))))))
 refine Pf 8 rfl (AR Cy rfl rfl (by first | omega | (rw [hI13]; first | exact hb.1 | exact hb.2) | (dsimp only; omega)) (by first | omega | (rw [hI13]; first | exact hb.1 | exact hb.2) | (dsimp only; omega))) ?_
 refine Pf 9 rfl (Ah Fq rfl) ?_
 refine An 10 rfl (by kernel_rfl) ?_
 refine AQ (AK (((Ad.l0.comp AI.l2).comp (AS.arr (n := 6) Al.fl (by first | omega | (rw [hI13]; first | exact hb.1 | exact hb.2) | (dsimp only; omega)) (by first | omega | (rw [hI13]; first | exact hb.1 | exact hb.2) | (dsimp only; omega)))).comp Al.l5) rfl rfl rfl C5 rfl .h) ?_
 refine BK rfl ⟨?_, ?_⟩
 · exact (Pk (Pk (Pk (Pk (Pk (Pk (Pk (Pk (Pk (Pk As))))))))))
 refine A3 (by kernel_rfl) ?_
 refine Bh rfl .n ?_
 intro w1 hS
 have hS := (hS.perm (Av.perm (.c .h .n))).Ay
 have hq : T.GH = Y.DX Y.b 0 := by rw [hI24, hI23]; unfold AG.GH; rfl
 exact ⟨_, ⟨_, rfl, rfl, by rw [hq, ← hI24]; rfl⟩, hS⟩
theorem Pj (b : Nat) (T : AG) (g : Hd) (hg : g.len = T.out.length) (hF : T.Fit) (hn : T.out.length ≤ 90000) : Ic Tryz.prog 103 #[.pointer (some ⟨b, 0, none⟩)] [Ab.box b 163 (Ad.enc ⟨T.w, T.b, g⟩), Ab.own g 56 16 (T.out.flatMap Ing.Event.enc)] (fun v B => ∃ g' : Hd, v = .tuple #[] ∧ g'.len = (T.LP).out.length ∧ B = [Ab.box b 163 (Ad.enc ⟨(T.LP).w, (T.LP).b, g'⟩), Ab.own g' 56 16 ((T.LP).out.flatMap Ing.Event.enc)]) := by
 intro w hS0
 have hb := hF.b
 have hr := hF.room
 refine Ai _ _ Tryz.func103 rfl rfl rfl (hS0) ?_
 refine Gs (Gm rfl ?_)
 refine Ag rfl TK (.c rfl (.c rfl .n)) (.c .h (.c .h .n)) (F0 _ T _ 18 hg hb (by omega)) (fun v1 B hv => ?_)
 obtain ⟨y2, rfl, y3, rfl⟩ := hv
 refine Gn (.t1 0) (Gs (Gm rfl ?_))
 refine Ag rfl YF (.c rfl .n) (.c .h .n) (LD _ (T.kind 18) _ (hF.Pa rfl rfl)) (fun v4 B hv => ?_)
 obtain ⟨y5, y6, rfl, rfl⟩ := hv
 refine Gn (.t1 0) ?_
 refine BE (N := 11) [0, 0, 2, 6, 14, 0, 1, 65, 193, 511, 1023] mix (by kernel_rfl) rfl ?_
 refine Pf 0 rfl (AE rfl) (Pf 1 rfl (AE rfl) (Pf 2 rfl (BS rfl) (Pf 3 rfl (Ah CM rfl) (Pf 4 rfl (AF rfl A1 .m0 Ad.l1 rfl rfl) (Pf 5 rfl (BD VF K2 rfl .nil) (Pf 6 rfl (BS rfl) (Pf 7 rfl (Ah A6 rfl) ?_)))))))
 refine Pf 8 rfl (Ah Bk rfl) ?_
 refine Pf 9 rfl (AR Cy rfl rfl (by first | exact hb.1 | exact hb.2 | omega | (dsimp only; omega)) (by first | exact hb.1 | exact hb.2 | omega | (dsimp only; omega))) ?_
 refine An 10 rfl (by kernel_rfl) ?_
 refine AQ (AK ((Ad.l0.comp AI.l2).comp (AS.arr (n := 6) Al.fl (by first | exact hb.1 | exact hb.2 | omega | (dsimp only; omega)) (by first | exact hb.1 | exact hb.2 | omega | (dsimp only; omega)))) rfl rfl rfl Jv rfl .h) ?_
 refine BK rfl ⟨?_, ?_⟩
 · exact (Pk (Pk (Pk (Pk (Pk (Pk (Pk (Pk (Pk (Pk As))))))))))
 refine A3 (by kernel_rfl) ?_
 refine Bh rfl .n ?_
 intro w1 hS
 have hS := (hS.perm (Av.perm (.c .h (.c .h .n)))).Ay
 obtain ⟨hf1, hf2, hf3⟩ := T.Vo
 refine ⟨_, ⟨?gq, rfl, ?hl, ?hB⟩, hS⟩
 case hB => rw [hf1, hf2, hf3, ← y6]
 case hl => rw [hf2]; exact y3
theorem IC (b : Nat) (T : AG) (g : Hd) (u : Au) (hg : g.len = T.out.length) (hF : T.Fit) (hu : u.length ≤ 5000000) (hn : T.out.length ≤ 99000) : Ev Tryz.prog 131 #[.pointer (some ⟨b, 0, none⟩), BO u] [Ab.box b 163 (Ad.enc ⟨T.w, T.b, g⟩), Ab.own g 56 16 (T.out.flatMap Ing.Event.enc)] (fun w => (F2 7 w ∧ 7 ∉ CR [Ab.box b 163 (Ad.enc ⟨T.w, T.b, g⟩), Ab.own g 56 16 (T.out.flatMap Ing.Event.enc)]) ∧ (F2 8 w ∧ 8 ∉ CR [Ab.box b 163 (Ad.enc ⟨T.w, T.b, g⟩), Ab.own g 56 16 (T.out.flatMap Ing.Event.enc)])) (fun v B => ∃ g' : Hd, v = .tuple #[.int .i64 (T.BN u).2.1, .bool (T.BN u).2.2] ∧ g'.len = ((T.BN u).1).out.length ∧ B = [Ab.box b 163 (Ad.enc ⟨((T.BN u).1).w, ((T.BN u).1).b, g'⟩), Ab.own g' 56 16 (((T.BN u).1).out.flatMap Ing.Event.enc)]) := by
 intro w hS0 hH
 obtain ⟨⟨gl0, gm0⟩, ⟨gl1, gm1⟩⟩ := hH
 have hb := hF.b
 have hr := hF.room
 refine Ai _ _ Tryz.func131 rfl rfl rfl (hS0) ?_
 refine Gs (Ga rfl (Ga rfl (Gn (.t2 0 1) (Gs (Gm rfl ?_)))))
 refine A8 rfl S4 (.c rfl .n) (fun w hS => E3 _ (by first | assumption | omega) w (gl0.stM gm0 hS) (gl1.stM gm1 hS)) ?_
 refine Gm rfl (Gt (AL rfl rfl) (Gt (AL rfl rfl) (Gt (AL rfl rfl) (Gt (AL rfl rfl) (Ga rfl (Ga rfl (Ga rfl ?_)))))))
 refine Ga rfl (Gn (.t5 0 6 7 8 9) (CB (Gm rfl (Gt (Aj rfl rfl) (Gm rfl (Ba 20 rfl rfl (fun q => AE rfl) (Ba 20 rfl rfl (fun q => BQ (BX rfl q)) ?_)))))))
 refine Gt (BH rfl rfl (fun h => h)) (Gn (.t4 0 6 7 23) ?_)
 refine Gc (fun c1 => ?_) (fun c1 => ?_)
 ·
  have c1p := kz c1
  have hnf := Words.Tm u (of_decide_eq_true (Bool.and_eq_true_iff.1 c1).1)
  refine Gs (Gm rfl (Gn (.t4 0 6 7 24) (Ae ?_)))
  refine Bf (.t4 6 24 0 7) ?_
  refine ET (fun (k : Int) (n : Int) => 0 ≤ k ∧ k ≤ 6 ∧ T.IJ (Words.EA u).2.1 6 (Words.EA u).1 = T.IJ (Words.EA u).2.1 (6 - k).toNat n ∧ -k ≤ n ∧ n ≤ 99) (fun (k : Int) (n : Int) => (6 - k).toNat) (fun (k : Int) (n : Int) => [(6, .int .i64 n), (24, .int .i64 k)]) (fun (k : Int) (n : Int) => []) (0) (_) ?_ rfl rfl (fun k n hI1 => ?_)
  · exact ⟨by omega, by omega, rfl, by omega, by omega⟩
  obtain ⟨hI11, hI12, hI13, hI14, hI15⟩ := hI1
  refine Gs (Gt (A5 rfl rfl) (AM (AA (Ao ?_))))
  refine Gc (fun c2 => ?_) (fun c2 => ?_)
  ·
   have c2p := kz c2
   refine Aa ?_
   refine AB (.t4 0 6 7 24) ?_
   refine AA (Ao (Ae (Gs (Gm rfl (Ga rfl (Gn (.t5 0 6 7 10 24) (Ao ?_)))))))
   refine Ao ?_
   refine BE (N := 31) [0, 0, 2, 6, 14, 31, 63, 127, 127, 255, 767, 1791, 4095, 8191, 16383, 127, 65535, 131071, 262143, 524287, 1048575, 2097151, 4194303, 524287, 8912895, 25690111, 59244543, 524287, 268435455, 536870911, 1073741823] mix (by kernel_rfl) rfl ?_
   refine Pf 0 rfl (AE rfl) (Pf 1 rfl (AE rfl) (Pf 2 rfl (BS rfl) (Pf 3 rfl (Ah CM rfl) (Pf 4 rfl (AF rfl A1 .m0 Ad.l1 rfl rfl) (Pf 5 rfl (Aj rfl rfl) (Pf 6 rfl (AE rfl) (Gp 7 33 rfl rfl rfl (fun q => AE rfl) ?_)))))))
   refine Gp 8 33 rfl rfl rfl (fun q => AE rfl) (Gp 9 33 rfl rfl rfl (fun q => BS (cF rfl q)) (Gp 10 33 rfl rfl rfl (fun q => Ah A6 (cF rfl q)) (Gp 11 33 rfl rfl rfl (fun q => Ah Bk (cF rfl q)) ?_)))
   refine BW 12 rfl rfl (by kernel_rfl) (GX (t := 33) rfl rfl (fun q => by have q1 := q; (try simp at q1); exact Hw (AR Cy (cF rfl q) (cF rfl q) (by first | omega | exact hb.1 | exact hb.2 | (dsimp only; omega)) (by first | omega | exact hb.1 | exact hb.2 | (dsimp only; omega))))) ?_
   refine Gp 13 33 rfl rfl rfl (fun q => Ah KX (cF rfl q)) ?_
   refine BW 14 rfl rfl (by kernel_rfl) (GX (t := 33) rfl rfl (fun q => by have q1 := q; (try simp at q1); exact Hw (AF (cF rfl q) CC .m0 (((Ad.l0.comp AI.l2).comp (AS.ar (n := 6) Al.fl (by first | omega | exact hb | (dsimp only; omega)))).comp Al.l0) rfl rfl))) ?_
   refine Gp 15 33 rfl rfl rfl (fun q => AE rfl) (Gp 16 33 rfl rfl rfl (fun q => DZ (cF rfl q) (cF rfl q)) ?_)
   refine Pf 17 rfl (BR rfl rfl (fun h => by rw [h]; rfl)) ?_
   refine Pf 18 rfl (AE rfl) (Gp 19 45 rfl rfl rfl (fun q => AE rfl) (Gp 20 45 rfl rfl rfl (fun q => BS (cF rfl q)) (Gp 21 45 rfl rfl rfl (fun q => Ah A6 (cF rfl q)) (Gp 22 45 rfl rfl rfl (fun q => AZ (cF rfl q) BT .m0 Ad.l0 rfl) (Gp 23 45 rfl rfl rfl (fun q => AE rfl) (Gp 24 45 rfl rfl rfl (fun q => BS (cF rfl q)) (Gp 25 45 rfl rfl rfl (fun q => Ah CM (cF rfl q)) ?_)))))))
   refine Gp 26 45 rfl rfl rfl (fun q => AF (cF rfl q) A1 .m0 Ad.l1 rfl rfl) (Gp 27 45 rfl rfl rfl (fun q => AE rfl) ?_)
   refine BW 28 rfl rfl (by kernel_rfl) (GX (t := 45) rfl rfl (fun q => by have q1 := q; (try simp at q1); exact Ka (Dv Mv (.c (cF rfl q) (.c (cF rfl q) (.c (cF rfl q) .n))) (fun w hS => DF _ _ _ w)))) ?_
   refine Gp 29 45 rfl rfl rfl (fun q => BQ (cF rfl q)) ?_
   refine Pf 30 rfl (BR rfl rfl (fun h => by rw [h]; rfl)) ?_
   refine A3 (by kernel_rfl) ?_
   refine AB (.t6 0 6 7 10 24 57) ?_
   refine AA ?_
   refine Gc (fun c3 => ?_) (fun c3 => ?_)
   ·
    have c3p := kz c3
    refine BV (AT (Af ?_))
    refine AB (.t4 0 6 7 24) ?_
    refine AA (AJ ?_)
    refine Gt (Aw rfl rfl (IntWalk.i64_in _ (by first | omega | exact hb.1 | exact hb.2 | (dsimp only; omega)))) ?_
    refine Gm rfl ?_
    refine AM (AB (.t4 0 6 7 24) ?_)
    refine Cn (k + 1) (n) ?_ ?_ (.t4 6 24 0 7) (.refl _)
    · exact ⟨by omega, by omega, by rw [hI13, AG.J4 hI11 (by omega), BC c3], by omega, by omega⟩
    · omega
   have c3p := kz c3
   refine Aa ?_
   refine AB (.t5 0 6 7 10 24) ?_
   refine AA (Gs (Gm rfl ?_))
   refine Gt (E8 rfl rfl (IntWalk.i64_in _ (by first | omega | exact hb.1 | exact hb.2 | (dsimp only; omega)))) ?_
   refine Ga rfl (Gn (.t5 0 6 7 10 24) (Gs (Gm rfl (Gt (Aj rfl rfl) (Gn (.t6 0 6 7 10 24 61) ?_)))))
   refine Gc (fun c4 => ?_) (fun c4 => ?_)
   ·
    have c4p := kz c4
    refine Gs (Gm rfl (Ga rfl (Ga rfl (Gn (.t2 4 5) (Ac (AP (AD ?_)))))))
    refine AD (AP (AD ?_))
    refine AY rfl (.tmp rfl (.tmp rfl .n)) ?_
    intro w1 hS
    have hS := (hS.perm (Av.perm (.c .h (.c .h .n)))).Ay
    have hs : T.IJ (Words.EA u).2.1 6 (Words.EA u).1 = some k := by rw [hI13, AG.J4 hI11 (by omega), AV c3, BC c4]
    have hq : T.BN u = (T, k, true) := (show T.BN u = _ from BC c1).trans (by simp only [hs])
    refine ⟨_, ⟨?gq1, ?hv1, ?hl1, ?hB1⟩, hS⟩
    case hB1 => rw [hq]; (try rfl)
    case hv1 => rw [hq]; (try rfl)
    case hl1 => rw [hq]; assumption
   have c4p := kz c4
   refine Aa ?_
   refine AB (.t4 0 6 7 24) ?_
   refine AU (AA (AJ ?_))
   refine Gt (Aw rfl rfl (IntWalk.i64_in _ (by first | omega | exact hb.1 | exact hb.2 | (dsimp only; omega)))) ?_
   refine Gm rfl ?_
   refine AM (AB (.t4 0 6 7 24) ?_)
   refine Cn (k + 1) (n - 1) ?_ ?_ (.t4 6 24 0 7) (.refl _)
   · exact ⟨by omega, by omega, by rw [hI13, AG.J4 hI11 (by omega), AV c3, AV c4], by omega, by omega⟩
   · omega
  have c2p := kz c2
  obtain rfl : k = 6 := by omega
  refine BV (AT (AT (Af ?_)))
  refine AB (.t1 0) ?_
  refine AA (Gs (Gm rfl ?_))
  refine Ag rfl D3 (.c rfl (.c rfl .n)) (.c .h (.c .h .n)) (Bb _ _ _ _ hg hb (by omega)) (fun v1 B hv => ?_)
  obtain ⟨y2, rfl, y3, rfl⟩ := hv
  refine Gn (.nil _) (Gs (Ga rfl (Ga rfl (AM (AA (Ac ?_))))))
  refine AY rfl (.tmp rfl (.tmp rfl .n)) ?_
  intro w1 hS
  have hS := (hS.perm (Av.perm (.c .h (.c .h .n)))).Ay
  have hs : T.IJ (Words.EA u).2.1 6 (Words.EA u).1 = none := by rw [hI13]; rfl
  have hq : T.BN u = (T.tell AG.OB, 0, false) := (show T.BN u = _ from BC c1).trans (by simp only [hs])
  refine ⟨_, ⟨?gq2, ?hv2, ?hl2, ?hB2⟩, hS⟩
  case hB2 => rw [hq]; (try rfl)
  case hv2 => rw [hq]; (try rfl)
  case hl2 => rw [hq]; assumption
 have c1p := kz c1
 refine Aa ?_
 refine AB (.t1 0) ?_
 refine AA (Gs (Gm rfl ?_))
 refine Ag rfl D3 (.c rfl (.c rfl .n)) (.c .h (.c .h .n)) (Bb _ _ _ _ hg hb (by omega)) (fun v4 B hv => ?_)
 obtain ⟨y5, rfl, y6, rfl⟩ := hv
 refine Gn (.nil _) (Gs (Ga rfl (Ga rfl (AM (AA (Ac ?_))))))
 refine AY rfl (.tmp rfl (.tmp rfl .n)) ?_
 intro w1 hS
 have hS := (hS.perm (Av.perm (.c .h (.c .h .n)))).Ay
 have hq : T.BN u = (T.tell AG.OB, 0, false) := AV c1
 refine ⟨_, ⟨?gq3, ?hv3, ?hl3, ?hB3⟩, hS⟩
 case hB3 => rw [hq]; (try rfl)
 case hv3 => rw [hq]; (try rfl)
 case hl3 => rw [hq]; assumption
theorem OO (b : Nat) (T : AG) (g : Hd) (o : Order) (hg : g.len = T.out.length) (hF : T.Fit) (hm : o.name.length ≤ 5000000) (hn : T.out.length ≤ 90000) : Ev Tryz.prog 104 #[.pointer (some ⟨b, 0, none⟩), .agg o.enc.toArray] [Ab.box b 163 (Ad.enc ⟨T.w, T.b, g⟩), Ab.own g 56 16 (T.out.flatMap Ing.Event.enc)] (fun w => (F2 7 w ∧ 7 ∉ CR [Ab.box b 163 (Ad.enc ⟨T.w, T.b, g⟩), Ab.own g 56 16 (T.out.flatMap Ing.Event.enc)]) ∧ (F2 8 w ∧ 8 ∉ CR [Ab.box b 163 (Ad.enc ⟨T.w, T.b, g⟩), Ab.own g 56 16 (T.out.flatMap Ing.Event.enc)])) (fun v B => ∃ g' : Hd, v = .tuple #[] ∧ g'.len = (T.GW o).out.length ∧ B = [Ab.box b 163 (Ad.enc ⟨(T.GW o).w, (T.GW o).b, g'⟩), Ab.own g' 56 16 ((T.GW o).out.flatMap Ing.Event.enc)]) := by
 intro w hS0 hH
 obtain ⟨⟨gl0, gm0⟩, ⟨gl1, gm1⟩⟩ := hH
 have hb := hF.b
 have hr := hF.room
 have hsr := T.LR (if (!decide (o.nth = 1) || o.Bn) = true then [] else o.name)
 have hsb : 0 ≤ (T.BN (if (!decide (o.nth = 1) || o.Bn) = true then [] else o.name)).1.b ∧ (T.BN (if (!decide (o.nth = 1) || o.Bn) = true then [] else o.name)).1.b < 6 := by rw [(T.Ni _).2]; exact hb
 refine Ai _ _ Tryz.func104 rfl rfl rfl (hS0) ?_
 refine Gs ?_
 refine Bw rfl rfl rfl (fun b1 => ?_)
 refine Gn (.t2 0 3) (Gs (Gt (Ah FQ rfl) (Gt (AF rfl CC .m0 Order.l3 rfl rfl) (Ga rfl (Gn (.t3 0 3 4) (CB (Gt (Ah Fv rfl) ?_)))))))
 refine Gt (AF rfl A1 .m0 Order.l1 rfl rfl) (Gt (CT rfl rfl) (Gm rfl (BZ 12 rfl rfl (fun q => Ah Gi rfl) (BZ 12 rfl rfl (fun q => AF (cF rfl q) Ct .m0 Order.l2 rfl rfl) ?_))))
 refine Gt (BR rfl rfl (fun h => by rw [h]; rfl)) ?_
 refine Gn (.t3 0 4 15) ?_
 refine QD (BO) (s := (if (!decide (o.nth = 1) || o.Bn) = true then [] else o.name)) rfl rfl rfl rfl rfl ?_
 refine AB (.t2 0 4) ?_
 refine AA (Gs (Gm rfl (Gm rfl ?_)))
 refine BF rfl YA (.c rfl (.c rfl .n)) (.c (.t .h) (.c (.t .h) .n)) (IC _ T _ _ hg hF (by split <;> (try simp) <;> omega) (by omega)) (fun w hS => ⟨gl0.pull gm0 hS (.c (.t .h) (.c (.t .h) .n)), gl1.pull gm1 hS (.c (.t .h) (.c (.t .h) .n))⟩) (fun v1 B hv => ?_)
 obtain ⟨y2, rfl, y3, rfl⟩ := hv
 refine Gm rfl (Gt (AL rfl rfl) (Gt (AL rfl rfl) (Ga rfl (Ga rfl (Gn (.t3 0 5 6) (CB (Gm rfl ?_)))))))
 refine Gt (BQ rfl) (Gn (.t3 0 5 23) ?_)
 refine Gc (fun c1 => ?_) (fun c1 => ?_)
 ·
  have c1p := kz c1
  refine Ac (AD ?_)
  refine AY rfl .n ?_
  intro w1 hS
  have hS := (hS.perm (Av.perm (.c .h (.c .h .n)))).Ay
  have hq : T.GW o = _ := BC c1
  refine ⟨_, ⟨?gq1, rfl, ?hl1, ?hB1⟩, hS⟩
  case hB1 => rw [hq]; (try rfl)
  case hl1 => rw [hq]; assumption
 have c1p := kz c1
 refine Aa ?_
 refine AB (.t2 0 5) ?_
 refine AA (Ao ?_)
 refine BE (N := 13) [0, 0, 2, 6, 14, 0, 32, 1, 129, 385, 1023, 2047, 4095] mix (by kernel_rfl) rfl ?_
 refine Pf 0 rfl (AE rfl) (Pf 1 rfl (AE rfl) (Pf 2 rfl (BS rfl) (Pf 3 rfl (Ah CM rfl) (Pf 4 rfl (AF rfl A1 .m0 Ad.l1 rfl rfl) (Pf 5 rfl (AE rfl) ?_)))))
 refine Pf 6 rfl (Aw rfl rfl (IntWalk.i64_in _ (by first | omega | exact hsb.1 | exact hsb.2 | (dsimp only; omega)))) ?_
 refine Pf 7 rfl (BS rfl) (Pf 8 rfl (Ah A6 rfl) (Pf 9 rfl (Ah Bk rfl) ?_))
 refine Pf 10 rfl (AR Cy rfl rfl (by first | omega | exact hsb.1 | exact hsb.2 | (dsimp only; omega)) (by first | omega | exact hsb.1 | exact hsb.2 | (dsimp only; omega))) ?_
 refine Pf 11 rfl (Ah Fq rfl) ?_
 refine An 12 rfl (by kernel_rfl) ?_
 refine AQ (AK (((Ad.l0.comp AI.l2).comp (AS.ar (n := 6) Al.fl (by first | omega | exact hsb | (dsimp only; omega)))).comp Al.l5) rfl rfl rfl C5 rfl .h) ?_
 refine BK rfl ⟨?_, ?_⟩
 · exact (Pk (Pk (Pk (Pk (Pk (Pk (Pk (Pk (Pk (Pk (Pk (Pk As))))))))))))
 refine A3 (by kernel_rfl) ?_
 refine AB (.t2 0 5) ?_
 refine AA (CB (Gm rfl (Gm rfl (Gt (BS rfl) (Gt (Ah A6 rfl) (Gt (Ah Bk rfl) ?_))))))
 refine Gt (AR Cy rfl rfl (by first | omega | exact hsb.1 | exact hsb.2 | (dsimp only; omega)) (by first | omega | exact hsb.1 | exact hsb.2 | (dsimp only; omega))) ?_
 refine Gt (Ah Fq rfl) ?_
 refine Gt (AF rfl A1 .m0 (((Ad.l0.comp AI.l2).comp (AS.ar (n := 6) Al.fl (by first | omega | exact hsb | (dsimp only; omega)))).comp Al.l5) rfl rfl) ?_
 refine Gt (Aj rfl rfl) (Gn (.t3 0 5 44) ?_)
 refine Gc (fun c2 => ?_) (fun c2 => ?_)
 ·
  have c2p := kz c2
  refine BE (N := 13) [0, 0, 0, 4, 12, 28, 60, 1, 129, 385, 1023, 2047, 4095] mix (by kernel_rfl) rfl ?_
  refine Pf 0 rfl (AE rfl) (Pf 1 rfl (AE rfl) (Pf 2 rfl (AE rfl) (Pf 3 rfl (BS rfl) (Pf 4 rfl (Ah CM rfl) (Pf 5 rfl (AF rfl A1 .m0 Ad.l1 rfl rfl) ?_)))))
  refine Pf 6 rfl (Aw rfl rfl (IntWalk.i64_in _ (by first | omega | exact hsb.1 | exact hsb.2 | (dsimp only; omega)))) ?_
  refine Pf 7 rfl (BS rfl) (Pf 8 rfl (Ah A6 rfl) (Pf 9 rfl (Ah Bk rfl) ?_))
  refine Pf 10 rfl (AR Cy rfl rfl (by first | omega | exact hsb.1 | exact hsb.2 | (dsimp only; omega)) (by first | omega | exact hsb.1 | exact hsb.2 | (dsimp only; omega))) ?_
  refine Pf 11 rfl (Ah Fq rfl) ?_
  refine An 12 rfl (by kernel_rfl) ?_
  refine AQ (AK (((Ad.l0.comp AI.l2).comp (AS.ar (n := 6) Al.fl (by first | omega | exact hsb | (dsimp only; omega)))).comp Al.l5) rfl rfl rfl C5 rfl .h) ?_
  refine BK rfl ⟨?_, ?_⟩
  · exact (Pk (Pk (Pk (Pk (Pk (Pk (Pk (Pk (Pk (Pk (Pk (Pk As))))))))))))
  refine A3 (by kernel_rfl) ?_
  refine AB (.t1 0) ?_
  refine AA (AJ (Gm rfl ?_))
  refine Ag rfl D3 (.c rfl (.c rfl .n)) (.c .h (.c .h .n)) (Bb _ (AG.DX (AG.DX (T.BN (if (!decide (o.nth = 1) || o.Bn) = true then [] else o.name)).1 (T.BN (if (!decide (o.nth = 1) || o.Bn) = true then [] else o.name)).1.b ((T.BN (if (!decide (o.nth = 1) || o.Bn) = true then [] else o.name)).2.1 + 1)) (T.BN (if (!decide (o.nth = 1) || o.Bn) = true then [] else o.name)).2.1 ((T.BN (if (!decide (o.nth = 1) || o.Bn) = true then [] else o.name)).1.b + 1)) _ _ (by assumption) hsb (by show (T.BN (if (!decide (o.nth = 1) || o.Bn) = true then [] else o.name)).1.out.length ≤ 100000; have := T.Ge (if (!decide (o.nth = 1) || o.Bn) = true then [] else o.name); omega)) (fun v4 B hv => ?_)
  obtain ⟨y5, rfl, y6, rfl⟩ := hv
  refine AM ?_
  refine Bh rfl .n ?_
  intro w1 hS
  have hS := (hS.perm (Av.perm (.c .h (.c .h .n)))).Ay
  have hq : T.GW o = _ := (show T.GW o = _ from AV c1).trans (congrArg (fun q => AG.tell q AG.QT) (BC c2))
  refine ⟨_, ⟨?gq2, rfl, ?hl2, ?hB2⟩, hS⟩
  case hB2 => rw [hq]; (try rfl)
  case hl2 => rw [hq]; assumption
 have c2p := kz c2
 refine Aa ?_
 refine AB (.t1 0) ?_
 refine AA (AJ (Gm rfl ?_))
 refine Ag rfl D3 (.c rfl (.c rfl .n)) (.c .h (.c .h .n)) (Bb _ (AG.DX (T.BN (if (!decide (o.nth = 1) || o.Bn) = true then [] else o.name)).1 (T.BN (if (!decide (o.nth = 1) || o.Bn) = true then [] else o.name)).1.b ((T.BN (if (!decide (o.nth = 1) || o.Bn) = true then [] else o.name)).2.1 + 1)) _ _ (by assumption) hsb (by show (T.BN (if (!decide (o.nth = 1) || o.Bn) = true then [] else o.name)).1.out.length ≤ 100000; have := T.Ge (if (!decide (o.nth = 1) || o.Bn) = true then [] else o.name); omega)) (fun v7 B hv => ?_)
 obtain ⟨y8, rfl, y9, rfl⟩ := hv
 refine AM ?_
 refine Bh rfl .n ?_
 intro w1 hS
 have hS := (hS.perm (Av.perm (.c .h (.c .h .n)))).Ay
 have hq : T.GW o = _ := (show T.GW o = _ from AV c1).trans (congrArg (fun q => AG.tell q AG.QT) (AV c2))
 refine ⟨_, ⟨?gq3, rfl, ?hl3, ?hB3⟩, hS⟩
 case hB3 => rw [hq]; (try rfl)
 case hl3 => rw [hq]; assumption
theorem Ib (b : Nat) (T : AG) (g : Hd) (hF : T.Fit) : Ic Tryz.prog 132 #[.pointer (some ⟨b, 0, none⟩)] [Ab.box b 163 (Ad.enc ⟨T.w, T.b, g⟩)] (fun v B => ∃ f : Hd, v = f.val ∧ f.len = (T.seen).length ∧ B = [Ab.box b 163 (Ad.enc ⟨T.w, T.b, g⟩), Ab.own f 3 1 ((T.seen).flatMap Ax)]) := by
 intro w hS0
 have hb := hF.b
 have hr := hF.room
 refine Ai _ _ Tryz.func132 rfl rfl rfl (hS0) ?_
 refine Gs (Ga rfl (Gn (.t1 0) (Ao ?_)))
 refine BE (N := 12) [0, 0, 2, 6, 14, 1, 33, 97, 255, 511, 1023, 2047] mix (by kernel_rfl) rfl ?_
 refine Pf 0 rfl (AE rfl) (Pf 1 rfl (AE rfl) (Pf 2 rfl (BS rfl) (Pf 3 rfl (Ah CM rfl) (Pf 4 rfl (AF rfl A1 .m0 Ad.l1 rfl rfl) (Pf 5 rfl (BS rfl) (Pf 6 rfl (Ah A6 rfl) (Pf 7 rfl (Ah Bk rfl) ?_)))))))
 refine Pf 8 rfl (AR Cy rfl rfl (by first | omega | exact hb.1 | exact hb.2 | (dsimp only; omega)) (by first | omega | exact hb.1 | exact hb.2 | (dsimp only; omega))) ?_
 refine Pf 9 rfl (Ah Cv rfl) ?_
 refine Pf 10 rfl (AF rfl A1 .m0 (((Ad.l0.comp AI.l2).comp (AS.ar (n := 6) Al.fl (by first | omega | exact hb | (dsimp only; omega)))).comp Al.l3) rfl rfl) ?_
 refine Pf 11 rfl (Az rfl) ?_
 refine A3 (by kernel_rfl) ?_
 refine AB (.t2 0 3) ?_
 refine AA (CB (Gm rfl (Gt (BS rfl) (Gt (Ah A6 rfl) (Gt (AZ rfl BT .m0 Ad.l0 rfl) (Gm rfl ?_))))))
 refine A8 rfl S9 (.c rfl (.c rfl .n)) (fun w hS => EL _ _ w) ?_
 refine Gt (BQ rfl) (Gn (.t3 0 3 21) ?_)
 refine Gc (fun c1 => ?_) (fun c1 => ?_)
 ·
  refine Gs (Ga rfl (Gn (.t1 2) (Ac (AD ?_))))
  refine AY rfl (.tmp rfl .n) ?_
  intro w1 hS
  have hS := hS.Cj 3 1
  have hS := (hS.perm (Av.perm (.c (.t .h) (.c .h .n)))).Ay
  have hq : T.seen = _ := BC c1
  exact ⟨_, ⟨⟨none, 0, 0⟩, rfl, by rw [hq]; rfl, by rw [hq]; rfl⟩, hS⟩
 have c1p := kz c1
 refine Aa ?_
 refine AB (.t2 0 3) ?_
 refine AA (Gs (Gm rfl (Gt (BS rfl) (Gt (Ah A6 rfl) (Gt (AZ rfl BT .m0 Ad.l0 rfl) (Gm rfl ?_))))))
 refine Ag rfl Qi (.c rfl (.c rfl (.c rfl .n))) .n (Ey _ _ _) (fun v2 B hv => ?_)
 obtain ⟨y3, rfl, y4, rfl⟩ := hv
 refine Ga rfl (Gn (.t1 2) (Ac ?_))
 refine AY rfl (.tmp rfl .n) ?_
 intro w1 hS
 have hS := (hS.perm (Av.perm (.c (.t .h) (.c .h .n)))).Ay
 have hq : T.seen = _ := (AV c1)
 exact ⟨_, ⟨_, rfl, by rw [hq]; first | rfl | assumption, by rw [hq]; rfl⟩, hS⟩
theorem Ea (b : Nat) (T : AG) (g : Hd) (f : Hd) (l : List Int) (z : Int) (u : Au) (a : Bool) (hF : T.Fit) (hf : f.len = l.length) (hl : l.length ≤ 100) (hi : ∀ i ∈ l, 0 ≤ i ∧ i < 9) : Ic Tryz.prog 134 #[.pointer (some ⟨b, 0, none⟩), f.val, .int .i64 z, BO u, .bool a] [Ab.box b 163 (Ad.enc ⟨T.w, T.b, g⟩), Ab.own f 3 1 (l.flatMap Ax)] (fun v B => ∃ h : Hd, v = h.val ∧ h.len = (AG.BP T.w l z u a).length ∧ B = [Ab.box b 163 (Ad.enc ⟨T.w, T.b, g⟩), Ab.own f 3 1 (l.flatMap Ax), Ab.own h 3 1 ((AG.BP T.w l z u a).flatMap Ax)]) := by
 intro w hS0
 have hb := hF.b
 have hr := hF.room
 refine Ai _ _ Tryz.func134 rfl rfl rfl (hS0) ?_
 refine Gs (Ga rfl (Gn (.t5 0 1 2 3 4) (Gs (Ga rfl (AM (AA (CB ?_)))))))
 refine Gm rfl (Gt (Aq rfl Tryz.underlying169 rfl) (Gm rfl (Gn (.t8 0 2 3 4 11 14 15 16) (Ae ?_))))
 refine Bf (.t8 11 16 0 2 3 4 14 15) ?_
 refine Et Ax 3 1 ?_
 refine Dh (fun (k : Int) (xs : List Int) (h : Hd) => 0 ≤ k ∧ k ≤ (l.length : Int) ∧ xs = AG.Iq T.w u (l.take k.toNat) ∧ h.len = xs.length ∧ xs.length ≤ k.toNat) (fun (k : Int) (xs : List Int) (h : Hd) => ((l.length : Int) - k).toNat) (fun (k : Int) (xs : List Int) (h : Hd) => [(11, h.val), (16, .int .i64 k)]) (fun (k : Int) (xs : List Int) (h : Hd) => [Ab.own h 3 1 (xs.flatMap Ax)]) (0) ([]) (_) ?_ rfl rfl (fun k xs h hI1 => ?_)
 · exact ⟨by omega, by omega, rfl, rfl, by simp⟩
 obtain ⟨hI11, hI12, hI13, hI14, hI15⟩ := hI1
 refine Gs (Gt (A5 rfl rfl) (AM (AA (Ao ?_))))
 refine Gc (fun c1 => ?_) (fun c1 => ?_)
 ·
  have c1p := kz c1
  have hx := hi _ (Bc.Ef (xs := l) (i := k.toNat) (by omega))
  refine Aa ?_
  refine AB (.t8 0 2 3 4 11 14 15 16) ?_
  refine AA (Ao (Ae (Gs ?_)))
  refine Gt (Bg GC (by decide) (Kn.own .m2) rfl rfl (by omega) (by omega)) ?_
  refine Gt (C8 rfl A1 (Kn.own .m2) (by omega)) ?_
  refine Ga rfl (Gn (.t9 0 2 3 4 11 13 14 15 16) (Gs (Gm rfl (Gt (Bo rfl rfl) (Gm rfl (BZ 22 rfl rfl (fun q => AE rfl) (BZ 22 rfl rfl (fun q => AE rfl) ?_)))))))
  refine BZ 22 rfl rfl (fun q => BS (cF rfl q)) (BZ 22 rfl rfl (fun q => Ah A6 (cF rfl q)) (BZ 22 rfl rfl (fun q => Ah Cq (cF rfl q)) ?_))
  refine BZ 22 rfl rfl (fun q => by have q1 := q; (try simp at q1); exact AR Fo (cF rfl q) (cF rfl q) (by first | omega | exact hb.1 | exact hb.2) (by first | omega | exact hb.1 | exact hb.2)) ?_
  refine BZ 22 rfl rfl (fun q => Ah LW (cF rfl q)) ?_
  refine BZ 22 rfl rfl (fun q => by have q1 := q; (try simp at q1); exact AF (cF rfl q) CC .m1 (((Ad.l0.comp AI.l1).comp (AS.ar (n := 9) Ak.fl (by first | omega | exact hb))).comp Ak.l0) rfl rfl) ?_
  refine BZ 22 rfl rfl (fun q => AE rfl) (BZ 22 rfl rfl (fun q => Bo (cF rfl q) (cF rfl q)) ?_)
  refine Gt (BR rfl rfl (fun h => by rw [h]; rfl)) ?_
  refine Gn (.t10 0 2 3 4 11 13 14 15 16 33) ?_
  refine Gc (fun c2 => ?_) (fun c2 => ?_)
  ·
   have c2p := kz c2
   refine AJ (Gm rfl (Gm rfl ?_))
   refine FP Ax Bz rfl Tryz.underlying169 C5 ZI rfl (by decide) (by decide) rfl rfl (fun b1 => ?_)
   refine CW Bz rfl Tryz.underlying169 C5 ZI rfl aq (by decide) (by decide) rfl rfl (fun w hS => Src.De Tryz.underlying169 ((Kn.own .m0) w hS)) (by (try dsimp only); omega) (fun _ => (.t .h)) (fun h1 h1l h1z => ?_)
   refine Ga rfl ?_
   refine AM (AB (.t8 0 2 3 4 11 14 15 16) ?_)
   refine AU (AA (AJ ?_))
   refine Gt (Aw rfl rfl (IntWalk.i64_in _ (by first | omega | exact hb.1 | exact hb.2))) ?_
   refine Gm rfl ?_
   refine AM (AB (.t8 0 2 3 4 11 14 15 16) ?_)
   refine Bu (k + 1) _ _ ?_ ?_ (.t8 11 16 0 2 3 4 14 15) (.cons _ (.refl _))
   · exact ⟨by omega, by omega, by rw [AG.XG hI11 (by omega) c2, ← hI13], (by (try dsimp only at *) <;> (try simp only [List.length_append, List.length_cons, List.length_nil]) <;> omega), (by (try simp only [List.length_append, List.length_cons, List.length_nil]); omega)⟩
   · omega
  have c2p := kz c2
  refine Aa ?_
  refine AB (.t8 0 2 3 4 11 14 15 16) ?_
  refine AU (AA (AJ ?_))
  refine Gt (Aw rfl rfl (IntWalk.i64_in _ (by first | omega | exact hb.1 | exact hb.2))) ?_
  refine Gm rfl ?_
  refine AM (AB (.t8 0 2 3 4 11 14 15 16) ?_)
  refine Bu (k + 1) _ _ ?_ ?_ (.t8 11 16 0 2 3 4 14 15) (.refl _)
  · exact ⟨by omega, by omega, by rw [AG.XV hI11 (by omega) c2, ← hI13], (by (try dsimp only at *) <;> (try simp only [List.length_append, List.length_cons, List.length_nil]) <;> omega), (by (try simp only [List.length_append, List.length_cons, List.length_nil]); omega)⟩
  · omega
 have c1p := kz c1
 obtain rfl : k = (l.length : Int) := by omega
 have hx3 := hI13
 rw [show (l.length : Int).toNat = l.length by omega, List.take_length] at hx3
 have hpa := AG.Ua T.w u l
 rw [← hx3] at hpa
 refine BV (AT (AT (Af ?_)))
 refine AB (.t3 2 4 11) ?_
 refine AA (CB (Gm rfl (Gn (.t3 2 11 39) ?_)))
 refine Gc (fun c3 => ?_) (fun c3 => ?_)
 ·
  have c3p := kz c3
  refine Gs (Gm rfl (Ga rfl (Gn (.t1 10) (Ac (AD ?_)))))
  refine AY rfl (.tmp rfl .n) ?_
  intro w1 hS
  have hS := (hS.perm (Av.perm (.c (.t .h) (.c (.t .h) (.c .h .n))))).Ay
  have hq : AG.BP T.w l z u a = _ := (BC c3)
  refine ⟨_, ⟨_, rfl, ?hl1, ?hB1⟩, hS⟩
  case hB1 => rw [hq]; (try rw [← hx3]); (try rfl)
  case hl1 => rw [hq]; first | rfl | (rw [← hx3]; first | assumption | (simp only [Hd.cut, List.length_drop, List.length_take]; omega))
 have c3p := kz c3
 refine Aa ?_
 refine AB (.t2 2 11) ?_
 refine AA (CB (Gm rfl (Gt (A5 rfl rfl) (Gm rfl (BZ 43 rfl rfl (fun q => AE rfl) (BZ 43 rfl rfl (fun q => AE rfl) (BZ 43 rfl rfl (fun q => Aq rfl Tryz.underlying169 (cF rfl q)) ?_)))))))
 refine BZ 43 rfl rfl (fun q => Cf (cF rfl q) (cF rfl q)) ?_
 refine Gt (BR rfl rfl (fun h => by rw [h]; rfl)) ?_
 refine Gn (.t3 2 11 48) ?_
 refine Gc (fun c4 => ?_) (fun c4 => ?_)
 ·
  have c4p := kz c4
  rw [hI14, hx3] at c4
  refine Gs (Ga rfl (Gn (.t1 10) (Ac (AD ?_))))
  refine AY rfl (.tmp rfl .n) ?_
  intro w1 hS
  have hS := hS.Cj 3 1
  have hS := (hS.perm (Av.perm (.c (.t (.t .h)) (.c (.t (.t .h)) (.c .h .n))))).Ay
  have hq : AG.BP T.w l z u a = _ := ((AV c3).trans (BC c4))
  refine ⟨_, ⟨⟨none, 0, 0⟩, rfl, ?hl2, ?hB2⟩, hS⟩
  case hB2 => rw [hq]; (try rw [← hx3]); (try rfl)
  case hl2 => rw [hq]; first | rfl | (rw [← hx3]; first | assumption | (simp only [Hd.cut, List.length_drop, List.length_take]; omega))
 have c4p := kz c4
 have c4q := c4p
 rw [hI14, hx3] at c4
 refine Aa ?_
 refine AB (.t2 2 11) ?_
 refine AA (Gs (Gm rfl (Gm rfl ?_)))
 refine Gt (E8 rfl rfl (IntWalk.i64_in _ (by first | omega | exact hb.1 | exact hb.2))) ?_
 refine Gm rfl ?_
 refine Si Bz rfl Tryz.underlying169 C5 rfl rfl rfl (by first | omega | exact hb.1 | exact hb.2) (by first | omega | exact hb.1 | exact hb.2) (by first | omega | exact hb.1 | exact hb.2) (fun _ => .h) ?_
 refine Ga rfl (Gn (.t1 10) (Ac ?_))
 refine AY rfl (.tmp rfl .n) ?_
 intro w1 hS
 have hS := (hS.perm (Av.perm (.c (.t .h) (.c (.t .h) (.c .h .n))))).Ay
 have hq : AG.BP T.w l z u a = _ := ((AV c3).trans (AV c4))
 refine ⟨_, ⟨_, rfl, ?hl3, ?hB3⟩, hS⟩
 case hB3 => rw [hq]; (try rw [← hx3]); (try rfl)
 case hl3 => rw [hq]; first | rfl | (rw [← hx3]; first | assumption | (simp only [Hd.cut, List.length_drop, List.length_take]; omega))
theorem Qq (b : Nat) (T : AG) (g : Hd) (u : Au) (hF : T.Fit) (hu : u.length ≤ 5000000) : Ev Tryz.prog 161 #[.pointer (some ⟨b, 0, none⟩), BO u] [Ab.box b 163 (Ad.enc ⟨T.w, T.b, g⟩)] (fun w => (F2 7 w ∧ 7 ∉ CR [Ab.box b 163 (Ad.enc ⟨T.w, T.b, g⟩)]) ∧ (F2 8 w ∧ 8 ∉ CR [Ab.box b 163 (Ad.enc ⟨T.w, T.b, g⟩)])) (fun v B => v = .tuple #[.int .i64 (T.one u).1, .bool (T.one u).2] ∧ B = [Ab.box b 163 (Ad.enc ⟨T.w, T.b, g⟩)]) := by
 intro w hS0 hH
 obtain ⟨⟨gl0, gm0⟩, ⟨gl1, gm1⟩⟩ := hH
 have hb := hF.b
 have hr := hF.room
 have ho9 := T.Jg
 have hs9 := T.Hx
 refine Ai _ _ Tryz.func161 rfl rfl rfl (hS0) ?_
 refine Gs (Ga rfl (Ga rfl (Gn (.t2 0 1) (Gs (Gm rfl ?_)))))
 refine A8 rfl S4 (.c rfl .n) (fun w hS => E3 _ (by first | assumption | omega) w (gl0.stM gm0 hS) (gl1.stM gm1 hS)) ?_
 refine Gm rfl (Gt (AL rfl rfl) (Gt (AL rfl rfl) (Gt (AL rfl rfl) (Gt (AL rfl rfl) (Ga rfl (Ga rfl (Ga rfl ?_)))))))
 refine Ga rfl (Gn (.t5 0 6 7 8 9) (CB (Gm rfl (Gt (CT rfl rfl) (Gm rfl (BZ 20 rfl rfl (fun q => AE rfl) ?_))))))
 refine Gt (BR rfl rfl (fun h => by rw [h]; rfl)) ?_
 refine Gn (.t4 0 6 7 22) ?_
 refine Gc (fun c1 => ?_) (fun c1 => ?_)
 ·
  refine Gs (Ga rfl (Ga rfl (Gn (.t2 4 5) (Ac (AD ?_)))))
  refine AY rfl (.tmp rfl (.tmp rfl .n)) ?_
  intro w1 hS
  have hS := (hS.perm (Av.perm (.c .h .n))).Ay
  have hq : T.one u = _ := (BC c1)
  exact ⟨_, ⟨by rw [hq]; rfl, rfl⟩, hS⟩
 have c1p := kz c1
 refine Aa ?_
 refine AB (.t3 0 6 7) ?_
 refine AA (Gs (Gm rfl (Gm rfl ?_)))
 refine Ag rfl Sx (.c rfl .n) (.c .h .n) (HU _ _ _ (by first | assumption | omega)) (fun v1 B hv => ?_)
 obtain ⟨y2, rfl, y3, rfl⟩ := hv
 refine Gm rfl ?_
 refine Ag rfl VS (.c rfl .n) (.c .h .n) (Ib _ _ _ (by first | assumption | omega)) (fun v5 B hv => ?_)
 obtain ⟨y6, rfl, y7, rfl⟩ := hv
 refine CW Bz rfl Tryz.underlying169 C5 ZI rfl aq (by decide) (by decide) rfl rfl (fun w hS => Src.De Tryz.underlying169 ((Kn.own .m1) w hS)) (by (try dsimp only); omega) (fun _ => (.t (.t .h))) (fun h9 h9l h9z => ?_)
 refine Gm rfl (Gm rfl ?_)
 refine Ag rfl Oq (.c rfl (.c rfl (.c rfl (.c rfl (.c rfl .n))))) (.c .h (.c (.t .h) .n)) (Ea _ T _ _ (T.own ++ T.seen) _ _ _ hF (by rw [List.length_append]; omega) (by rw [List.length_append]; omega) (fun i hi => AG.Ps hi)) (fun v10 B hv => ?_)
 obtain ⟨y11, rfl, y12, rfl⟩ := hv
 refine Ga rfl (Gn (.t1 10) (CB (Gm rfl (Gt (Aq rfl Tryz.underlying169 rfl) (Gt (Aj rfl rfl) (Gn (.t2 10 34) ?_))))))
 refine Gc (fun c2 => ?_) (fun c2 => ?_)
 ·
  have c2p := kz c2
  have hpl := y12
  rw [hpl] at c2 c2p
  refine Gs (Ga rfl (Ga rfl (Gn (.t2 4 5) (Ac (AD ?_)))))
  refine AY rfl (.tmp rfl (.tmp rfl .n)) ?_
  intro w1 hS
  have hS := (hS.perm (Av.perm (.c .h .n))).Ay
  have hq : T.one u = _ := ((AV c1).trans (BC c2))
  exact ⟨_, ⟨by rw [hq]; rfl, rfl⟩, hS⟩
 have c2p := kz c2
 have hpl := y12
 rw [hpl] at c2 c2p
 refine Aa ?_
 refine AB (.t1 10) ?_
 refine AA (Gs (Gm rfl ?_))
 refine Gt (Bg GC (by decide) (Kn.own .m2) rfl rfl (by omega) (by omega)) ?_
 refine Gt (C8 rfl A1 (Kn.own .m2) (by omega)) ?_
 refine Ga rfl (Ga rfl (Gn (.t2 4 5) (Ac ?_)))
 refine AY rfl (.tmp rfl (.tmp rfl .n)) ?_
 intro w1 hS
 have hS := (hS.perm (Av.perm (.c .h .n))).Ay
 have hq : T.one u = _ := ((AV c1).trans (AV c2))
 exact ⟨_, ⟨by rw [hq]; rfl, rfl⟩, hS⟩
theorem MF (b : Nat) (T : AG) (g : Hd) (u : Au) (hg : g.len = T.out.length) (hF : T.Fit) (hu : u.length ≤ 5000000) (hn : T.out.length ≤ 99000) : Ev Tryz.prog 133 #[.pointer (some ⟨b, 0, none⟩), BO u] [Ab.box b 163 (Ad.enc ⟨T.w, T.b, g⟩), Ab.own g 56 16 (T.out.flatMap Ing.Event.enc)] (fun w => (F2 7 w ∧ 7 ∉ CR [Ab.box b 163 (Ad.enc ⟨T.w, T.b, g⟩), Ab.own g 56 16 (T.out.flatMap Ing.Event.enc)]) ∧ (F2 8 w ∧ 8 ∉ CR [Ab.box b 163 (Ad.enc ⟨T.w, T.b, g⟩), Ab.own g 56 16 (T.out.flatMap Ing.Event.enc)])) (fun v B => ∃ g' : Hd, v = .tuple #[.int .i64 (T.box u).2.1, .bool (T.box u).2.2] ∧ g'.len = ((T.box u).1).out.length ∧ B = [Ab.box b 163 (Ad.enc ⟨((T.box u).1).w, ((T.box u).1).b, g'⟩), Ab.own g' 56 16 (((T.box u).1).out.flatMap Ing.Event.enc)]) := by
 intro w hS0 hH
 obtain ⟨⟨gl0, gm0⟩, ⟨gl1, gm1⟩⟩ := hH
 have hb := hF.b
 have hr := hF.room
 have ho := T.TN u
 refine Ai _ _ Tryz.func133 rfl rfl rfl (hS0) ?_
 refine Gs (Ga rfl (Ga rfl (Gn (.t2 0 1) (Gs (Gm rfl (Gm rfl ?_))))))
 refine BF rfl aW (.c rfl (.c rfl .n)) (.c .h .n) (Qq _ T _ _ hF hu) (fun w hS => ⟨gl0.pull gm0 hS (.c .h .n), gl1.pull gm1 hS (.c .h .n)⟩) (fun v1 B hv => ?_)
 obtain ⟨rfl, rfl⟩ := hv
 refine Gm rfl (Gt (AL rfl rfl) (Gt (AL rfl rfl) (Ga rfl (Ga rfl (Gn (.t3 0 6 7) (CB (Gm rfl ?_)))))))
 refine Gt (BQ rfl) (Gm rfl (BZ 16 rfl rfl (fun q => AE rfl) (BZ 16 rfl rfl (fun q => AE rfl) (BZ 16 rfl rfl (fun q => BS (cF rfl q)) (BZ 16 rfl rfl (fun q => Ah A6 (cF rfl q)) (BZ 16 rfl rfl (fun q => Ah Cq (cF rfl q)) ?_))))))
 refine BZ 16 rfl rfl (fun q => by have q1 := q; (try simp at q1); exact AR Fo (cF rfl q) (cF rfl q) (by first | omega | exact hb.1 | exact hb.2 | (dsimp only; omega)) (by first | omega | exact hb.1 | exact hb.2 | (dsimp only; omega))) ?_
 refine BZ 16 rfl rfl (fun q => Ah GS (cF rfl q)) ?_
 refine BZ 16 rfl rfl (fun q => by have q1 := q; (try simp at q1); exact AF (cF rfl q) A1 .m0 (((Ad.l0.comp AI.l1).comp (AS.ar (n := 9) Ak.fl (by first | omega | exact hb | (dsimp only; omega)))).comp Ak.l1) rfl rfl) ?_
 refine BZ 16 rfl rfl (fun q => CT (cF rfl q) rfl) ?_
 refine Gt (BR rfl rfl (fun h => by rw [h]; rfl)) ?_
 refine Gn (.t3 0 6 26) ?_
 refine Gc (fun c1 => ?_) (fun c1 => ?_)
 ·
  have c1p := kz c1
  refine Gs (Gm rfl ?_)
  refine Ag rfl D3 (.c rfl (.c rfl .n)) (.c .h (.c .h .n)) (Bb _ _ _ _ hg hb (by omega)) (fun v2 B hv => ?_)
  obtain ⟨y3, rfl, y4, rfl⟩ := hv
  refine Gn (.nil _) (Gs (Ga rfl (Ga rfl (AM (AA (Ac (AD ?_)))))))
  refine AY rfl (.tmp rfl (.tmp rfl .n)) ?_
  intro w1 hS
  have hS := (hS.perm (Av.perm (.c .h (.c .h .n)))).Ay
  have hq : T.box u = _ := (BC c1)
  refine ⟨_, ⟨?gq1, ?hv1, ?hl1, ?hB1⟩, hS⟩
  case hB1 => rw [hq]; (try rfl)
  case hv1 => rw [hq]; (try rfl)
  case hl1 => rw [hq]; assumption
 have c1p := kz c1
 refine Aa ?_
 refine AB (.t2 0 6) ?_
 refine AA (CB (Gm rfl (Gm rfl (Gt (BS rfl) (Gt (Ah A6 rfl) (Gt (Ah Cq rfl) ?_))))))
 refine Gt (AR Fo rfl rfl (by first | omega | exact hb.1 | exact hb.2 | (dsimp only; omega)) (by first | omega | exact hb.1 | exact hb.2 | (dsimp only; omega))) ?_
 refine Gt (Ah Fk rfl) ?_
 refine Gt (AF rfl Ct .m0 (((Ad.l0.comp AI.l1).comp (AS.ar (n := 9) Ak.fl (by first | omega | exact hb | (dsimp only; omega)))).comp Ak.l4) rfl rfl) ?_
 refine Gt (BQ rfl) (Gn (.t3 0 6 37) ?_)
 refine Gc (fun c2 => ?_) (fun c2 => ?_)
 ·
  have c2p := kz c2
  refine Gs (Gm rfl ?_)
  refine Ag rfl D3 (.c rfl (.c rfl .n)) (.c .h (.c .h .n)) (Bb _ _ _ _ hg hb (by omega)) (fun v5 B hv => ?_)
  obtain ⟨y6, rfl, y7, rfl⟩ := hv
  refine Gn (.nil _) (Gs (Ga rfl (Ga rfl (AM (AA (Ac (AD ?_)))))))
  refine AY rfl (.tmp rfl (.tmp rfl .n)) ?_
  intro w1 hS
  have hS := (hS.perm (Av.perm (.c .h (.c .h .n)))).Ay
  have hq : T.box u = _ := ((AV c1).trans (BC c2))
  refine ⟨_, ⟨?gq2, ?hv2, ?hl2, ?hB2⟩, hS⟩
  case hB2 => rw [hq]; (try rfl)
  case hv2 => rw [hq]; (try rfl)
  case hl2 => rw [hq]; assumption
 have c2p := kz c2
 refine Aa ?_
 refine AB (.t1 6) ?_
 refine AA (Gs (Gm rfl (Ga rfl (Ga rfl (Gn (.t2 4 5) (Ac ?_))))))
 refine AY rfl (.tmp rfl (.tmp rfl .n)) ?_
 intro w1 hS
 have hS := (hS.perm (Av.perm (.c .h (.c .h .n)))).Ay
 have hq : T.box u = _ := ((AV c1).trans (AV c2))
 refine ⟨_, ⟨?gq3, ?hv3, ?hl3, ?hB3⟩, hS⟩
 case hB3 => rw [hq]; (try rfl)
 case hv3 => rw [hq]; (try rfl)
 case hl3 => rw [hq]; assumption
theorem Dn (b : Nat) (T : AG) (g : Hd) (k i : Int) (hg : g.len = T.out.length) (hb : 0 ≤ T.b ∧ T.b < 6) (hi : 0 ≤ i ∧ i < 9) (hn : T.out.length ≤ 100000) : Ic Tryz.prog 135 #[.pointer (some ⟨b, 0, none⟩), .int .i64 k, .int .i64 i] [Ab.box b 163 (Ad.enc ⟨T.w, T.b, g⟩), Ab.own g 56 16 (T.out.flatMap Ing.Event.enc)] (fun v B => ∃ g' : Hd, v = .tuple #[] ∧ g'.len = (T.B2 k i).out.length ∧ B = [Ab.box b 163 (Ad.enc ⟨(T.B2 k i).w, (T.B2 k i).b, g'⟩), Ab.own g' 56 16 ((T.B2 k i).out.flatMap Ing.Event.enc)]) := by
 intro w hS0
 refine Ai _ _ Tryz.func135 rfl rfl rfl (hS0) ?_
 refine AJ (Gm rfl (Gm rfl (Gm rfl (Gm rfl (Gt (BS rfl) (Gt (Ah A6 rfl) (Gt (Ah Cq rfl) ?_)))))))
 refine Gt (AR Fo rfl rfl (by (try dsimp only at *); omega) (by (try dsimp only at *); omega)) ?_
 refine Gt (Ah LW rfl) ?_
 refine Gt (AF rfl CC .m0 (((Ad.l0.comp AI.l1).comp (AS.arr (n := 9) Ak.fl (by (try dsimp only at *); omega) (by (try dsimp only at *); omega))).comp Ak.l0) rfl rfl) ?_
 refine Gt (BD NO Hj rfl (.cons Ing.Event.l0 rfl rfl rfl (.cons Ing.Event.l3 rfl rfl rfl (.cons Ing.Event.l8 rfl rfl rfl .nil)))) ?_
 refine Ag rfl Nr (.c rfl (.c rfl .n)) (.c .h (.c .h .n)) (CL _ _ _ { AG.GR k with B2 := (T.w.AX.at i).name } hg hb (show (-1 : Int) < 6 by decide) hn) (fun v1 B hv => ?_)
 obtain ⟨y2, rfl, y3, rfl⟩ := hv
 refine AM ?_
 refine Bh rfl .n ?_
 intro w1 hS
 have hS := (hS.perm (Av.perm (.c .h (.c .h .n)))).Ay
 exact ⟨_, ⟨_, rfl, by assumption, rfl⟩, hS⟩
theorem RH (b : Nat) (T : AG) (g : Hd) (o : Order) (hg : g.len = T.out.length) (hF : T.Fit) (hu : o.second.length ≤ 5000000) (hn : T.out.length ≤ 90000) : Ev Tryz.prog 105 #[.pointer (some ⟨b, 0, none⟩), .agg o.enc.toArray] [Ab.box b 163 (Ad.enc ⟨T.w, T.b, g⟩), Ab.own g 56 16 (T.out.flatMap Ing.Event.enc)] (fun w => (F2 7 w ∧ 7 ∉ CR [Ab.box b 163 (Ad.enc ⟨T.w, T.b, g⟩), Ab.own g 56 16 (T.out.flatMap Ing.Event.enc)]) ∧ (F2 8 w ∧ 8 ∉ CR [Ab.box b 163 (Ad.enc ⟨T.w, T.b, g⟩), Ab.own g 56 16 (T.out.flatMap Ing.Event.enc)])) (fun v B => ∃ g' : Hd, v = .tuple #[] ∧ g'.len = (T.get o).out.length ∧ B = [Ab.box b 163 (Ad.enc ⟨(T.get o).w, (T.get o).b, g'⟩), Ab.own g' 56 16 ((T.get o).out.flatMap Ing.Event.enc)]) := by
 intro w hS0 hH
 obtain ⟨⟨gl0, gm0⟩, ⟨gl1, gm1⟩⟩ := hH
 have hb := hF.b
 have hr := hF.room
 refine Ai _ _ Tryz.func105 rfl rfl rfl (hS0) ?_
 refine Gs ?_
 refine Bw rfl rfl rfl (fun b1 => ?_)
 refine Gn (.t2 0 3) (Gs (Gm rfl ?_))
 refine Ag rfl VS (.c rfl .n) (.c (.t .h) .n) (Ib _ _ _ (by first | assumption | omega)) (fun v1 B hv => ?_)
 obtain ⟨y2, rfl, y3, rfl⟩ := hv
 refine Ga rfl (Gn (.t3 0 3 4) (CB (Gt (Ah HR rfl) (Gt (AF rfl CC .m2 Order.l4 rfl rfl) (Gt (DZ rfl rfl) (Gn (.t4 0 3 4 14) ?_))))))
 refine Gc (fun c1 => ?_) (fun c1 => ?_)
 ·
  have c1p := kz c1
  refine Gs (Gm rfl (Gt (Ah HR rfl) (Gt (AF rfl CC .m2 Order.l4 rfl rfl) ?_)))
  refine BF rfl YB (.c rfl (.c rfl .n)) (.c .h (.c (.t (.t .h)) .n)) (MF _ T _ _ hg hF hu (by omega)) (fun w hS => ⟨gl0.pull gm0 hS (.c .h (.c (.t (.t .h)) .n)), gl1.pull gm1 hS (.c .h (.c (.t (.t .h)) .n))⟩) (fun v5 B hv => ?_)
  obtain ⟨y6, rfl, y7, rfl⟩ := hv
  refine Gm rfl (Gt (AL rfl rfl) (Gt (AL rfl rfl) (Ga rfl (Ga rfl (Gn (.t4 0 3 5 6) (CB (Gm rfl ?_)))))))
  refine Gt (BQ rfl) (Gn (.t4 0 3 5 23) ?_)
  refine Gc (fun c2 => ?_) (fun c2 => ?_)
  ·
   have c2p := kz c2
   refine Ac (AD (AD ?_))
   refine AY rfl .n ?_
   intro w1 hS
   have hS := (hS.perm (Av.perm (.c .h (.c .h .n)))).Ay
   have hq : T.get o = _ := ((BC c1).trans (BC c2))
   refine ⟨_, ⟨?gq1, rfl, ?hl1, ?hB1⟩, hS⟩
   case hB1 => rw [hq]; (try rfl)
   case hl1 => rw [hq]; assumption
  have c2p := kz c2
  refine Aa ?_
  refine AB (.t3 0 3 5) ?_
  refine AA (AJ (Gm rfl (Gt (BS rfl) (Gt (Ah A6 rfl) (Gt (AZ rfl BT .m0 Ad.l0 rfl) (Gm rfl ?_))))))
  refine Ag rfl Qi (.c rfl (.c rfl (.c rfl .n))) .n (Ey _ _ _) (fun v8 B hv => ?_)
  obtain ⟨y9, rfl, y10, rfl⟩ := hv
  refine Ga rfl (Gn (.t3 0 3 4) (Gs (Gm rfl (Gm rfl (Gt (Ah Fv rfl) (Gt (AF rfl A1 .m4 Order.l1 rfl rfl) (Gt (Ah FQ rfl) ?_)))))))
  refine Gt (AF rfl CC .m4 Order.l3 rfl rfl) (Gt (Ah Gi rfl) (Gt (AF rfl Ct .m4 Order.l2 rfl rfl) ?_))
  refine Ag rfl Oq (.c rfl (.c rfl (.c rfl (.c rfl (.c rfl .n))))) (.c (.t .h) (.c .h .n)) (Ea _ (T.box o.second).1 _ _ ((T.box o.second).1.w.has 2 (T.box o.second).2.1) _ _ _ (hF.Pa (T.O2 _).1 (T.O2 _).2) (by assumption) (Nat.le_trans (AI.Hq _ _ _) (by decide)) (fun i hi => AI.Gb hi)) (fun v12 B hv => ?_)
  obtain ⟨y13, rfl, y14, rfl⟩ := hv
  refine Ga rfl (Gn (.t2 0 4) (CB (Gm rfl (Gt (Aq rfl Tryz.underlying169 rfl) (Gt (Aj rfl rfl) (Gn (.t3 0 4 41) ?_))))))
  refine Gc (fun c3 => ?_) (fun c3 => ?_)
  ·
   have c3p := kz c3
   rw [y14] at c3
   refine AJ (Gm rfl ?_)
   refine Ag rfl D3 (.c rfl (.c rfl .n)) (.c .h (.c (.t (.t .h)) .n)) (Bb _ (T.box o.second).1 _ _ (by assumption) (by rw [(T.O2 _).2]; exact hb) (by have := T.HQ o.second; omega)) (fun v16 B hv => ?_)
   obtain ⟨y17, rfl, y18, rfl⟩ := hv
   refine Gn (.t2 0 4) (Gs (Gm rfl (Gt (Aq rfl Tryz.underlying169 rfl) (Gm rfl (Gn (.t4 0 44 45 46) (Ae ?_))))))
   refine Bf (.t4 46 0 44 45) ?_
   refine BU (.t .h) ?_
   refine BU (.t .h) ?_
   refine Dh (fun (k : Int) (X : AG) (h : Hd) => 0 ≤ k ∧ k ≤ ((AG.BP (T.box o.second).1.w ((T.box o.second).1.w.has 2 (T.box o.second).2.1) o.nth o.name o.Bn).length : Int) ∧ T.get o = X.Di ((AG.BP (T.box o.second).1.w ((T.box o.second).1.w.has 2 (T.box o.second).2.1) o.nth o.name o.Bn).drop k.toNat) ∧ X.b = T.b ∧ (X.out.length : Int) ≤ T.out.length + 2 + k ∧ h.len = X.out.length ∧ ((AG.BP (T.box o.second).1.w ((T.box o.second).1.w.has 2 (T.box o.second).2.1) o.nth o.name o.Bn).length : Int) ≤ 9) (fun (k : Int) (X : AG) (h : Hd) => (((AG.BP (T.box o.second).1.w ((T.box o.second).1.w.has 2 (T.box o.second).2.1) o.nth o.name o.Bn).length : Int) - k).toNat) (fun (k : Int) (X : AG) (h : Hd) => [(46, .int .i64 k)]) (fun (k : Int) (X : AG) (h : Hd) => [Ab.box b 163 (Ad.enc ⟨X.w, X.b, h⟩), Ab.own h 56 16 (X.out.flatMap Ing.Event.enc)]) (0) (_) (_) ?_ rfl rfl (fun k X h hI1 => ?_)
   · exact ⟨by omega, by omega, ((BC c1).trans (AV c2)).trans (congrArg (fun q => AG.Di q _) (BC c3)), (T.O2 _).2, by have := T.HQ o.second; (try simp only [AG.CD]); omega, by assumption, by have := (AG.Eb (T.box o.second).1.w ((T.box o.second).1.w.has 2 (T.box o.second).2.1) o.nth o.name o.Bn).length_le; have := AI.Hq (T.box o.second).1.w 2 (T.box o.second).2.1; omega⟩
   obtain ⟨hI11, hI12, hI13, hI14, hI15, hI16, hI17⟩ := hI1
   refine Gs (Gt (A5 rfl rfl) (AM (AA (Ao ?_))))
   refine Gc (fun c4 => ?_) (fun c4 => ?_)
   ·
    have c4p := kz c4
    have hx : 0 ≤ (AG.BP (T.box o.second).1.w ((T.box o.second).1.w.has 2 (T.box o.second).2.1) o.nth o.name o.Bn).getD k.toNat 0 ∧ (AG.BP (T.box o.second).1.w ((T.box o.second).1.w.has 2 (T.box o.second).2.1) o.nth o.name o.Bn).getD k.toNat 0 < 9 := (fun i hi => AI.Gb (AG.Ek hi)) _ (Bc.Ef (xs := (AG.BP (T.box o.second).1.w ((T.box o.second).1.w.has 2 (T.box o.second).2.1) o.nth o.name o.Bn)) (i := k.toNat) (by omega))
    refine Aa ?_
    refine AB (.t4 0 44 45 46) ?_
    refine AA (Ao (Ae (Gs ?_)))
    refine Gt (Bg GC (by decide) (Kn.own .m3) rfl rfl (by omega) (by omega)) ?_
    refine Gt (C8 rfl A1 (Kn.own .m3) (by omega)) ?_
    refine Ga rfl (Gn (.t5 0 8 44 45 46) (Gs (Gm rfl (Gm rfl (Gt (BS rfl) (Gt (Ah A6 rfl) (Gt (Ah Cq rfl) ?_)))))))
    refine Gt (AR Fo rfl rfl (by first | omega | exact hb.1 | exact hb.2 | (dsimp only; omega)) (by first | omega | exact hb.1 | exact hb.2 | (dsimp only; omega))) ?_
    refine Ga rfl (Gn (.t6 0 8 9 44 45 46) (Gs (Gm rfl (Gm rfl (Gm rfl (Gt (BS rfl) (Gt (Ah CM rfl) ?_)))))))
    refine Gt (AF rfl A1 .m0 Ad.l1 rfl rfl) (Gt (BS rfl) (Gt (Ah E6 rfl) ?_))
    refine AQ (AK (((Ad.l0.comp AI.l1).comp (AS.ar (n := 9) Ak.fl (by first | omega | exact hb | (dsimp only; omega)))).comp Ak.l2) rfl rfl rfl C5 rfl .h) ?_
    refine Gt (BS rfl) (Gt (Ah DA rfl) ?_)
    refine AQ (AK (((Ad.l0.comp AI.l1).comp (AS.ar (n := 9) Ak.fl (by first | omega | exact hb | (dsimp only; omega)))).comp Ak.l3) rfl rfl rfl C5 rfl .h) ?_
    refine Gn (.t5 0 8 44 45 46) ?_
    refine Fc (fun _ => .h) (congrArg (fun q => Ad.enc ⟨q, _, _⟩) (AG.Gr X hx.1 hx.2 1 X.b)) ?_
    refine AJ (Gm rfl (Gm rfl ?_))
    refine Ag rfl OL (.c rfl (.c rfl (.c rfl .n))) (.c .h (.c .h .n)) (Dn _ (X.place ((AG.BP (T.box o.second).1.w ((T.box o.second).1.w.has 2 (T.box o.second).2.1) o.nth o.name o.Bn).getD k.toNat 0) 1 X.b) _ 3 ((AG.BP (T.box o.second).1.w ((T.box o.second).1.w.has 2 (T.box o.second).2.1) o.nth o.name o.Bn).getD k.toNat 0) (by assumption) (show 0 ≤ X.b ∧ X.b < 6 by rw [hI14]; exact hb) hx (show X.out.length ≤ 100000 by omega)) (fun v19 B hv => ?_)
    obtain ⟨y20, rfl, y21, rfl⟩ := hv
    refine AM (AB (.t4 0 44 45 46) ?_)
    refine AU (AA (AJ ?_))
    refine Gt (Aw rfl rfl (IntWalk.i64_in _ (by first | omega | exact hb.1 | exact hb.2 | (dsimp only; omega)))) ?_
    refine Gm rfl ?_
    refine AM (AB (.t4 0 44 45 46) ?_)
    refine Bu (k + 1) _ _ ?_ ?_ (.t4 46 0 44 45) (.refl _)
    · exact ⟨by omega, by omega, by rw [hI13, AG.Gj hI11 (by omega)], hI14, (by rw [AG.FH]; show ((X.out.length + 1 : Nat) : Int) ≤ _; omega), by assumption, hI17⟩
    · omega
   have c4p := kz c4
   obtain rfl : k = ((AG.BP (T.box o.second).1.w ((T.box o.second).1.w.has 2 (T.box o.second).2.1) o.nth o.name o.Bn).length : Int) := by omega
   rw [AG.I6] at hI13
   refine BV (AT (AT (Af ?_)))
   refine Bh rfl .n ?_
   intro w1 hS
   have hS := (hS.perm (Av.perm (.c .h (.c .h .n)))).Ay
   refine ⟨_, ⟨?gq2, rfl, ?hl2, ?hB2⟩, hS⟩
   case hB2 => rw [hI13]; rfl
   case hl2 => rw [hI13]; exact hI16
  have c3p := kz c3
  rw [y14] at c3
  refine Aa ?_
  refine AB (.t2 0 4) ?_
  refine AA (Gs (Gm rfl (Gt (Aq rfl Tryz.underlying169 rfl) (Gm rfl (Gn (.t4 0 44 45 46) (Ae ?_))))))
  refine Bf (.t4 46 0 44 45) ?_
  refine BU (.t (.t (.t .h))) ?_
  refine BU (.t .h) ?_
  refine Dh (fun (k : Int) (X : AG) (h : Hd) => 0 ≤ k ∧ k ≤ ((AG.BP (T.box o.second).1.w ((T.box o.second).1.w.has 2 (T.box o.second).2.1) o.nth o.name o.Bn).length : Int) ∧ T.get o = X.Di ((AG.BP (T.box o.second).1.w ((T.box o.second).1.w.has 2 (T.box o.second).2.1) o.nth o.name o.Bn).drop k.toNat) ∧ X.b = T.b ∧ (X.out.length : Int) ≤ T.out.length + 2 + k ∧ h.len = X.out.length ∧ ((AG.BP (T.box o.second).1.w ((T.box o.second).1.w.has 2 (T.box o.second).2.1) o.nth o.name o.Bn).length : Int) ≤ 9) (fun (k : Int) (X : AG) (h : Hd) => (((AG.BP (T.box o.second).1.w ((T.box o.second).1.w.has 2 (T.box o.second).2.1) o.nth o.name o.Bn).length : Int) - k).toNat) (fun (k : Int) (X : AG) (h : Hd) => [(46, .int .i64 k)]) (fun (k : Int) (X : AG) (h : Hd) => [Ab.box b 163 (Ad.enc ⟨X.w, X.b, h⟩), Ab.own h 56 16 (X.out.flatMap Ing.Event.enc)]) (0) (_) (_) ?_ rfl rfl (fun k X h hI1 => ?_)
  · exact ⟨by omega, by omega, ((BC c1).trans (AV c2)).trans (congrArg (fun q => AG.Di q _) (AV c3)), (T.O2 _).2, by have := T.HQ o.second; (try simp only [AG.CD]); omega, by assumption, by have := (AG.Eb (T.box o.second).1.w ((T.box o.second).1.w.has 2 (T.box o.second).2.1) o.nth o.name o.Bn).length_le; have := AI.Hq (T.box o.second).1.w 2 (T.box o.second).2.1; omega⟩
  obtain ⟨hI11, hI12, hI13, hI14, hI15, hI16, hI17⟩ := hI1
  refine Gs (Gt (A5 rfl rfl) (AM (AA (Ao ?_))))
  refine Gc (fun c5 => ?_) (fun c5 => ?_)
  ·
   have c5p := kz c5
   have hx : 0 ≤ (AG.BP (T.box o.second).1.w ((T.box o.second).1.w.has 2 (T.box o.second).2.1) o.nth o.name o.Bn).getD k.toNat 0 ∧ (AG.BP (T.box o.second).1.w ((T.box o.second).1.w.has 2 (T.box o.second).2.1) o.nth o.name o.Bn).getD k.toNat 0 < 9 := (fun i hi => AI.Gb (AG.Ek hi)) _ (Bc.Ef (xs := (AG.BP (T.box o.second).1.w ((T.box o.second).1.w.has 2 (T.box o.second).2.1) o.nth o.name o.Bn)) (i := k.toNat) (by omega))
   refine Aa ?_
   refine AB (.t4 0 44 45 46) ?_
   refine AA (Ao (Ae (Gs ?_)))
   refine Gt (Bg GC (by decide) (Kn.own .m3) rfl rfl (by omega) (by omega)) ?_
   refine Gt (C8 rfl A1 (Kn.own .m3) (by omega)) ?_
   refine Ga rfl (Gn (.t5 0 8 44 45 46) (Gs (Gm rfl (Gm rfl (Gt (BS rfl) (Gt (Ah A6 rfl) (Gt (Ah Cq rfl) ?_)))))))
   refine Gt (AR Fo rfl rfl (by first | omega | exact hb.1 | exact hb.2 | (dsimp only; omega)) (by first | omega | exact hb.1 | exact hb.2 | (dsimp only; omega))) ?_
   refine Ga rfl (Gn (.t6 0 8 9 44 45 46) (Gs (Gm rfl (Gm rfl (Gm rfl (Gt (BS rfl) (Gt (Ah CM rfl) ?_)))))))
   refine Gt (AF rfl A1 .m0 Ad.l1 rfl rfl) (Gt (BS rfl) (Gt (Ah E6 rfl) ?_))
   refine AQ (AK (((Ad.l0.comp AI.l1).comp (AS.ar (n := 9) Ak.fl (by first | omega | exact hb | (dsimp only; omega)))).comp Ak.l2) rfl rfl rfl C5 rfl .h) ?_
   refine Gt (BS rfl) (Gt (Ah DA rfl) ?_)
   refine AQ (AK (((Ad.l0.comp AI.l1).comp (AS.ar (n := 9) Ak.fl (by first | omega | exact hb | (dsimp only; omega)))).comp Ak.l3) rfl rfl rfl C5 rfl .h) ?_
   refine Gn (.t5 0 8 44 45 46) ?_
   refine Fc (fun _ => .h) (congrArg (fun q => Ad.enc ⟨q, _, _⟩) (AG.Gr X hx.1 hx.2 1 X.b)) ?_
   refine AJ (Gm rfl (Gm rfl ?_))
   refine Ag rfl OL (.c rfl (.c rfl (.c rfl .n))) (.c .h (.c .h .n)) (Dn _ (X.place ((AG.BP (T.box o.second).1.w ((T.box o.second).1.w.has 2 (T.box o.second).2.1) o.nth o.name o.Bn).getD k.toNat 0) 1 X.b) _ 3 ((AG.BP (T.box o.second).1.w ((T.box o.second).1.w.has 2 (T.box o.second).2.1) o.nth o.name o.Bn).getD k.toNat 0) (by assumption) (show 0 ≤ X.b ∧ X.b < 6 by rw [hI14]; exact hb) hx (show X.out.length ≤ 100000 by omega)) (fun v22 B hv => ?_)
   obtain ⟨y23, rfl, y24, rfl⟩ := hv
   refine AM (AB (.t4 0 44 45 46) ?_)
   refine AU (AA (AJ ?_))
   refine Gt (Aw rfl rfl (IntWalk.i64_in _ (by first | omega | exact hb.1 | exact hb.2 | (dsimp only; omega)))) ?_
   refine Gm rfl ?_
   refine AM (AB (.t4 0 44 45 46) ?_)
   refine Bu (k + 1) _ _ ?_ ?_ (.t4 46 0 44 45) (.refl _)
   · exact ⟨by omega, by omega, by rw [hI13, AG.Gj hI11 (by omega)], hI14, (by rw [AG.FH]; show ((X.out.length + 1 : Nat) : Int) ≤ _; omega), by assumption, hI17⟩
   · omega
  have c5p := kz c5
  obtain rfl : k = ((AG.BP (T.box o.second).1.w ((T.box o.second).1.w.has 2 (T.box o.second).2.1) o.nth o.name o.Bn).length : Int) := by omega
  rw [AG.I6] at hI13
  refine BV (AT (AT (Af ?_)))
  refine Bh rfl .n ?_
  intro w1 hS
  have hS := (hS.perm (Av.perm (.c .h (.c .h .n)))).Ay
  refine ⟨_, ⟨?gq3, rfl, ?hl3, ?hB3⟩, hS⟩
  case hB3 => rw [hI13]; rfl
  case hl3 => rw [hI13]; exact hI16
 have c1p := kz c1
 refine Aa ?_
 refine AB (.t3 0 3 4) ?_
 refine AA (Gs (Gm rfl (Gm rfl (Gt (Ah Fv rfl) (Gt (AF rfl A1 .m2 Order.l1 rfl rfl) (Gt (Ah FQ rfl) (Gt (AF rfl CC .m2 Order.l3 rfl rfl) ?_)))))))
 refine Gt (Ah Gi rfl) (Gt (AF rfl Ct .m2 Order.l2 rfl rfl) ?_)
 refine Ag rfl Oq (.c rfl (.c rfl (.c rfl (.c rfl (.c rfl .n))))) (.c .h (.c .h .n)) (Ea _ T _ _ T.seen _ _ _ hF (by assumption) (Nat.le_trans T.Hx (by decide)) (fun i hi => AG.NM hi)) (fun v25 B hv => ?_)
 obtain ⟨y26, rfl, y27, rfl⟩ := hv
 refine Ga rfl (Gn (.t2 0 4) (CB (Gm rfl (Gt (Aq rfl Tryz.underlying169 rfl) (Gt (Aj rfl rfl) (Gn (.t3 0 4 41) ?_))))))
 refine Gc (fun c6 => ?_) (fun c6 => ?_)
 ·
  have c6p := kz c6
  rw [y27] at c6
  refine AJ (Gm rfl ?_)
  refine Ag rfl D3 (.c rfl (.c rfl .n)) (.c .h (.c (.t (.t (.t .h))) .n)) (Bb _ T _ _ (by assumption) (by exact hb) (by have := T.HQ o.second; omega)) (fun v29 B hv => ?_)
  obtain ⟨y30, rfl, y31, rfl⟩ := hv
  refine Gn (.t2 0 4) (Gs (Gm rfl (Gt (Aq rfl Tryz.underlying169 rfl) (Gm rfl (Gn (.t4 0 44 45 46) (Ae ?_))))))
  refine Bf (.t4 46 0 44 45) ?_
  refine BU (.t .h) ?_
  refine BU (.t .h) ?_
  refine Dh (fun (k : Int) (X : AG) (h : Hd) => 0 ≤ k ∧ k ≤ ((AG.BP T.w T.seen o.nth o.name o.Bn).length : Int) ∧ T.get o = X.Di ((AG.BP T.w T.seen o.nth o.name o.Bn).drop k.toNat) ∧ X.b = T.b ∧ (X.out.length : Int) ≤ T.out.length + 2 + k ∧ h.len = X.out.length ∧ ((AG.BP T.w T.seen o.nth o.name o.Bn).length : Int) ≤ 9) (fun (k : Int) (X : AG) (h : Hd) => (((AG.BP T.w T.seen o.nth o.name o.Bn).length : Int) - k).toNat) (fun (k : Int) (X : AG) (h : Hd) => [(46, .int .i64 k)]) (fun (k : Int) (X : AG) (h : Hd) => [Ab.box b 163 (Ad.enc ⟨X.w, X.b, h⟩), Ab.own h 56 16 (X.out.flatMap Ing.Event.enc)]) (0) (_) (_) ?_ rfl rfl (fun k X h hI1 => ?_)
  · exact ⟨by omega, by omega, (AV c1).trans (congrArg (fun q => AG.Di q _) (BC c6)), rfl, by have := T.HQ o.second; (try simp only [AG.CD]); omega, by assumption, by have := (AG.Eb T.w T.seen o.nth o.name o.Bn).length_le; have := T.Hx; omega⟩
  obtain ⟨hI11, hI12, hI13, hI14, hI15, hI16, hI17⟩ := hI1
  refine Gs (Gt (A5 rfl rfl) (AM (AA (Ao ?_))))
  refine Gc (fun c7 => ?_) (fun c7 => ?_)
  ·
   have c7p := kz c7
   have hx : 0 ≤ (AG.BP T.w T.seen o.nth o.name o.Bn).getD k.toNat 0 ∧ (AG.BP T.w T.seen o.nth o.name o.Bn).getD k.toNat 0 < 9 := (fun i hi => AG.NM (AG.Ek hi)) _ (Bc.Ef (xs := (AG.BP T.w T.seen o.nth o.name o.Bn)) (i := k.toNat) (by omega))
   refine Aa ?_
   refine AB (.t4 0 44 45 46) ?_
   refine AA (Ao (Ae (Gs ?_)))
   refine Gt (Bg GC (by decide) (Kn.own .m3) rfl rfl (by omega) (by omega)) ?_
   refine Gt (C8 rfl A1 (Kn.own .m3) (by omega)) ?_
   refine Ga rfl (Gn (.t5 0 8 44 45 46) (Gs (Gm rfl (Gm rfl (Gt (BS rfl) (Gt (Ah A6 rfl) (Gt (Ah Cq rfl) ?_)))))))
   refine Gt (AR Fo rfl rfl (by first | omega | exact hb.1 | exact hb.2 | (dsimp only; omega)) (by first | omega | exact hb.1 | exact hb.2 | (dsimp only; omega))) ?_
   refine Ga rfl (Gn (.t6 0 8 9 44 45 46) (Gs (Gm rfl (Gm rfl (Gm rfl (Gt (BS rfl) (Gt (Ah CM rfl) ?_)))))))
   refine Gt (AF rfl A1 .m0 Ad.l1 rfl rfl) (Gt (BS rfl) (Gt (Ah E6 rfl) ?_))
   refine AQ (AK (((Ad.l0.comp AI.l1).comp (AS.ar (n := 9) Ak.fl (by first | omega | exact hb | (dsimp only; omega)))).comp Ak.l2) rfl rfl rfl C5 rfl .h) ?_
   refine Gt (BS rfl) (Gt (Ah DA rfl) ?_)
   refine AQ (AK (((Ad.l0.comp AI.l1).comp (AS.ar (n := 9) Ak.fl (by first | omega | exact hb | (dsimp only; omega)))).comp Ak.l3) rfl rfl rfl C5 rfl .h) ?_
   refine Gn (.t5 0 8 44 45 46) ?_
   refine Fc (fun _ => .h) (congrArg (fun q => Ad.enc ⟨q, _, _⟩) (AG.Gr X hx.1 hx.2 1 X.b)) ?_
   refine AJ (Gm rfl (Gm rfl ?_))
   refine Ag rfl OL (.c rfl (.c rfl (.c rfl .n))) (.c .h (.c .h .n)) (Dn _ (X.place ((AG.BP T.w T.seen o.nth o.name o.Bn).getD k.toNat 0) 1 X.b) _ 3 ((AG.BP T.w T.seen o.nth o.name o.Bn).getD k.toNat 0) (by assumption) (show 0 ≤ X.b ∧ X.b < 6 by rw [hI14]; exact hb) hx (show X.out.length ≤ 100000 by omega)) (fun v32 B hv => ?_)
   obtain ⟨y33, rfl, y34, rfl⟩ := hv
   refine AM (AB (.t4 0 44 45 46) ?_)
   refine AU (AA (AJ ?_))
   refine Gt (Aw rfl rfl (IntWalk.i64_in _ (by first | omega | exact hb.1 | exact hb.2 | (dsimp only; omega)))) ?_
   refine Gm rfl ?_
   refine AM (AB (.t4 0 44 45 46) ?_)
   refine Bu (k + 1) _ _ ?_ ?_ (.t4 46 0 44 45) (.refl _)
   · exact ⟨by omega, by omega, by rw [hI13, AG.Gj hI11 (by omega)], hI14, (by rw [AG.FH]; show ((X.out.length + 1 : Nat) : Int) ≤ _; omega), by assumption, hI17⟩
   · omega
  have c7p := kz c7
  obtain rfl : k = ((AG.BP T.w T.seen o.nth o.name o.Bn).length : Int) := by omega
  rw [AG.I6] at hI13
  refine BV (AT (AT (Af ?_)))
  refine Bh rfl .n ?_
  intro w1 hS
  have hS := (hS.perm (Av.perm (.c .h (.c .h .n)))).Ay
  refine ⟨_, ⟨?gq4, rfl, ?hl4, ?hB4⟩, hS⟩
  case hB4 => rw [hI13]; rfl
  case hl4 => rw [hI13]; exact hI16
 have c6p := kz c6
 rw [y27] at c6
 refine Aa ?_
 refine AB (.t2 0 4) ?_
 refine AA (Gs (Gm rfl (Gt (Aq rfl Tryz.underlying169 rfl) (Gm rfl (Gn (.t4 0 44 45 46) (Ae ?_))))))
 refine Bf (.t4 46 0 44 45) ?_
 refine BU (.t (.t (.t (.t .h)))) ?_
 refine BU (.t .h) ?_
 refine Dh (fun (k : Int) (X : AG) (h : Hd) => 0 ≤ k ∧ k ≤ ((AG.BP T.w T.seen o.nth o.name o.Bn).length : Int) ∧ T.get o = X.Di ((AG.BP T.w T.seen o.nth o.name o.Bn).drop k.toNat) ∧ X.b = T.b ∧ (X.out.length : Int) ≤ T.out.length + 2 + k ∧ h.len = X.out.length ∧ ((AG.BP T.w T.seen o.nth o.name o.Bn).length : Int) ≤ 9) (fun (k : Int) (X : AG) (h : Hd) => (((AG.BP T.w T.seen o.nth o.name o.Bn).length : Int) - k).toNat) (fun (k : Int) (X : AG) (h : Hd) => [(46, .int .i64 k)]) (fun (k : Int) (X : AG) (h : Hd) => [Ab.box b 163 (Ad.enc ⟨X.w, X.b, h⟩), Ab.own h 56 16 (X.out.flatMap Ing.Event.enc)]) (0) (_) (_) ?_ rfl rfl (fun k X h hI1 => ?_)
 · exact ⟨by omega, by omega, (AV c1).trans (congrArg (fun q => AG.Di q _) (AV c6)), rfl, by have := T.HQ o.second; (try simp only [AG.CD]); omega, by assumption, by have := (AG.Eb T.w T.seen o.nth o.name o.Bn).length_le; have := T.Hx; omega⟩
 obtain ⟨hI11, hI12, hI13, hI14, hI15, hI16, hI17⟩ := hI1
 refine Gs (Gt (A5 rfl rfl) (AM (AA (Ao ?_))))
 refine Gc (fun c8 => ?_) (fun c8 => ?_)
 ·
  have c8p := kz c8
  have hx : 0 ≤ (AG.BP T.w T.seen o.nth o.name o.Bn).getD k.toNat 0 ∧ (AG.BP T.w T.seen o.nth o.name o.Bn).getD k.toNat 0 < 9 := (fun i hi => AG.NM (AG.Ek hi)) _ (Bc.Ef (xs := (AG.BP T.w T.seen o.nth o.name o.Bn)) (i := k.toNat) (by omega))
  refine Aa ?_
  refine AB (.t4 0 44 45 46) ?_
  refine AA (Ao (Ae (Gs ?_)))
  refine Gt (Bg GC (by decide) (Kn.own .m3) rfl rfl (by omega) (by omega)) ?_
  refine Gt (C8 rfl A1 (Kn.own .m3) (by omega)) ?_
  refine Ga rfl (Gn (.t5 0 8 44 45 46) (Gs (Gm rfl (Gm rfl (Gt (BS rfl) (Gt (Ah A6 rfl) (Gt (Ah Cq rfl) ?_)))))))
  refine Gt (AR Fo rfl rfl (by first | omega | exact hb.1 | exact hb.2 | (dsimp only; omega)) (by first | omega | exact hb.1 | exact hb.2 | (dsimp only; omega))) ?_
  refine Ga rfl (Gn (.t6 0 8 9 44 45 46) (Gs (Gm rfl (Gm rfl (Gm rfl (Gt (BS rfl) (Gt (Ah CM rfl) ?_)))))))
  refine Gt (AF rfl A1 .m0 Ad.l1 rfl rfl) (Gt (BS rfl) (Gt (Ah E6 rfl) ?_))
  refine AQ (AK (((Ad.l0.comp AI.l1).comp (AS.ar (n := 9) Ak.fl (by first | omega | exact hb | (dsimp only; omega)))).comp Ak.l2) rfl rfl rfl C5 rfl .h) ?_
  refine Gt (BS rfl) (Gt (Ah DA rfl) ?_)
  refine AQ (AK (((Ad.l0.comp AI.l1).comp (AS.ar (n := 9) Ak.fl (by first | omega | exact hb | (dsimp only; omega)))).comp Ak.l3) rfl rfl rfl C5 rfl .h) ?_
  refine Gn (.t5 0 8 44 45 46) ?_
  refine Fc (fun _ => .h) (congrArg (fun q => Ad.enc ⟨q, _, _⟩) (AG.Gr X hx.1 hx.2 1 X.b)) ?_
  refine AJ (Gm rfl (Gm rfl ?_))
  refine Ag rfl OL (.c rfl (.c rfl (.c rfl .n))) (.c .h (.c .h .n)) (Dn _ (X.place ((AG.BP T.w T.seen o.nth o.name o.Bn).getD k.toNat 0) 1 X.b) _ 3 ((AG.BP T.w T.seen o.nth o.name o.Bn).getD k.toNat 0) (by assumption) (show 0 ≤ X.b ∧ X.b < 6 by rw [hI14]; exact hb) hx (show X.out.length ≤ 100000 by omega)) (fun v35 B hv => ?_)
  obtain ⟨y36, rfl, y37, rfl⟩ := hv
  refine AM (AB (.t4 0 44 45 46) ?_)
  refine AU (AA (AJ ?_))
  refine Gt (Aw rfl rfl (IntWalk.i64_in _ (by first | omega | exact hb.1 | exact hb.2 | (dsimp only; omega)))) ?_
  refine Gm rfl ?_
  refine AM (AB (.t4 0 44 45 46) ?_)
  refine Bu (k + 1) _ _ ?_ ?_ (.t4 46 0 44 45) (.refl _)
  · exact ⟨by omega, by omega, by rw [hI13, AG.Gj hI11 (by omega)], hI14, (by rw [AG.FH]; show ((X.out.length + 1 : Nat) : Int) ≤ _; omega), by assumption, hI17⟩
  · omega
 have c8p := kz c8
 obtain rfl : k = ((AG.BP T.w T.seen o.nth o.name o.Bn).length : Int) := by omega
 rw [AG.I6] at hI13
 refine BV (AT (AT (Af ?_)))
 refine Bh rfl .n ?_
 intro w1 hS
 have hS := (hS.perm (Av.perm (.c .h (.c .h .n)))).Ay
 refine ⟨_, ⟨?gq5, rfl, ?hl5, ?hB5⟩, hS⟩
 case hB5 => rw [hI13]; rfl
 case hl5 => rw [hI13]; exact hI16
theorem Ln (X : AI) (i box : Int) (w : World) : EG Tryz.prog 137 #[.agg X.enc.toArray, .int .i64 i, .int .i64 box] w fun v w' => v = .bool (X.ZE i box) ∧ B6 w w' := by
 refine Ai [] [] Tryz.func137 rfl rfl rfl (St.start w []) ?_
 refine Gs ?_
 refine Bw rfl rfl rfl (fun b1 => ?_)
 refine Ga rfl (Gn (.t3 1 2 3) (CB (Gm rfl (AM (AA (Ae ?_))))))
 refine Bf (.t4 1 7 2 3) ?_
 refine ET (fun (k : Int) (j : Int) => 0 ≤ k ∧ k ≤ 10 ∧ X.ZE i box = X.inside box (10 - k).toNat j) (fun (k : Int) (j : Int) => (10 - k).toNat) (fun (k : Int) (j : Int) => [(1, .int .i64 j), (7, .int .i64 k)]) (fun (k : Int) (j : Int) => []) (0) (i) ?_ rfl rfl (fun k j hI1 => ?_)
 · exact ⟨Int.le_refl _, by omega, rfl⟩
 obtain ⟨hI11, hI12, hI13⟩ := hI1
 refine Gs (Gt (A5 rfl rfl) (AM (AA (Ao ?_))))
 refine Gc (fun c1 => ?_) (fun c1 => ?_)
 ·
  have c1p := kz c1
  rw [show (10 - k).toNat = (10 - (k + 1)).toNat + 1 from by omega, AI.inside] at hI13
  refine Aa ?_
  refine AB (.t4 1 2 3 7) ?_
  refine AA (Ao (Ae (CB (Gm rfl (Gm rfl (Gt (Aj rfl rfl) (Gn (.t5 1 2 3 7 11) ?_)))))))
  refine Gc (fun c2 => ?_) (fun c2 => ?_)
  ·
   refine Gs (Ga rfl (Gn (.t1 6) (Ac (AD (AP (AD (AD ?_)))))))
   refine AP (AD ?_)
   refine AY rfl (.tmp rfl .n) ?_
   intro w1 hS; refine ⟨congrArg Value.bool ?_, hS.Am⟩; rw [hI13]; simp only [c1, c2, ↓reduceIte, Bool.false_eq_true]
  have c2p := kz c2
  refine Aa ?_
  refine AB (.t4 1 2 3 7) ?_
  refine AA (CB (Gm rfl (Gt (A5 rfl rfl) (Gm rfl (BZ 14 rfl rfl (fun q => AE rfl) (BZ 14 rfl rfl (fun q => CI (cF rfl q) rfl) ?_))))))
  refine Gt (BR rfl rfl (fun h => by rw [h]; rfl)) ?_
  refine Gm rfl (BZ 18 rfl rfl (fun q => AE rfl) (BZ 18 rfl rfl (fun q => Ah Cq rfl) ?_))
  refine BZ 18 rfl rfl (fun q => by have q1 := q; (try simp at q1); exact AR Fo (cF rfl q) (cF rfl q) (by omega) (by omega)) ?_
  refine BZ 18 rfl rfl (fun q => Ah E6 (cF rfl q)) ?_
  refine BZ 18 rfl rfl (fun q => by have q1 := q; (try simp at q1); exact AF (cF rfl q) A1 .m0 ((AI.l1.comp (AS.ar (n := 9) Ak.fl (by omega))).comp Ak.l2) rfl rfl) ?_
  refine BZ 18 rfl rfl (fun q => CT (cF rfl q) rfl) ?_
  refine Gt (BR rfl rfl (fun h => by rw [h]; rfl)) ?_
  refine Gn (.t5 1 2 3 7 25) ?_
  refine Gc (fun c3 => ?_) (fun c3 => ?_)
  ·
   refine Gs (Ga rfl (Gn (.t1 6) (Ac (AD (AP (AD (AD ?_)))))))
   refine AP (AD ?_)
   refine AY rfl (.tmp rfl .n) ?_
   intro w1 hS; refine ⟨congrArg Value.bool ?_, hS.Am⟩; rw [hI13]; simp only [c1, c2, c3, ↓reduceIte, Bool.false_eq_true]
  have c3p := kz c3
  have h9 : 0 ≤ j ∧ j < 9 := by simp at c3; omega
  refine Aa ?_
  refine AB (.t4 1 2 3 7) ?_
  refine AA (AJ (Gm rfl (Gt (Ah Cq rfl) ?_)))
  refine Gt (AR Fo rfl rfl (by omega) (by omega)) ?_
  refine Gt (Ah DA rfl) ?_
  refine Gt (AF rfl A1 .m0 ((AI.l1.comp (AS.ar (n := 9) Ak.fl (by omega))).comp Ak.l3) rfl rfl) ?_
  refine Ga rfl ?_
  refine AM (AB (.t4 1 2 3 7) ?_)
  refine AU (AA (AJ ?_))
  refine Gt (Aw rfl rfl (IntWalk.i64_in _ (by omega))) ?_
  refine Gm rfl ?_
  refine AM (AB (.t4 1 2 3 7) ?_)
  refine Cn (k + 1) ((X.AX.at j).at_) ?_ ?_ (.t4 1 7 2 3) (.refl _)
  · exact ⟨by omega, by omega, by rw [hI13]; simp only [c1, c2, c3, ↓reduceIte, Bool.false_eq_true]⟩
  · omega
 have c1p := kz c1
 obtain rfl : k = 10 := by omega
 refine BV (AT (AT (Af ?_)))
 refine AB (.nil _) ?_
 refine AA (Gs (Ga rfl (AM (AA (Ac ?_)))))
 refine AY rfl (.tmp rfl .n) ?_
 intro w1 hS; refine ⟨congrArg Value.bool ?_, hS.Am⟩; rw [hI13]; rfl
end Go.Proofs.YtoidpggbbfncpaaGreatDoor
