/- What the functions that the law TopTurns reaches compute: walks, part 3. No condition. -/
import Derived.Test.YtoidpggbbfncpaaGreatDoorCards
import Derived.Test.YtoidpggbbfncpaaGreatDoorTie
import Derived.Deep.DeepHandedRow
import Derived.Test.YtoidpggbbfncpaaGreatDoorRows
import Derived.Test.YtoidpggbbfncpaaGreatDoorTopTurnsEc3
import Derived.Test.YtoidpggbbfncpaaGreatDoorTopTurnsRa1
import Derived.Test.YtoidpggbbfncpaaGreatDoorTopTurnsRb1
import Derived.Test.YtoidpggbbfncpaaGreatDoorTopTurnsRc1
import Derived.Test.YtoidpggbbfncpaaGreatDoorTopTurnsWalks
import Derived.Test.YtoidpggbbfncpaaGreatDoorTopTurnsWalks2
set_option linter.unusedSimpArgs false
set_option linter.unusedVariables false
set_option maxRecDepth 100000
set_option maxHeartbeats 1000000
namespace Go.Proofs.YtoidpggbbfncpaaGreatDoor
open Go Go.Ing Go.RowKit Go.ChangeShapes Go.WideShapes Go.ChangeAt
theorem FJ (u : Ap) (hu : u.length ≤ 5000000) (w : World) (gl0 : Gl 7 w) (gl1 : Gl 8 w) : Ei Tryz.prog 154 #[BS u] w fun v w' => v = .tuple #[.int .i64 (Words.EF u).1, BS (Words.EF u).2.1, .bool (Words.EF u).2.2.1, .int .i64 (Words.EF u).2.2.2] ∧ CB w w' := by
 have hcut := Words.NR 46 u
 refine Al [] [] Tryz.func154 rfl rfl rfl (St.start w []) ?_
 refine Gs (Ga rfl (Ga rfl (Ga rfl (Ga rfl (Gn (.t1 0) (CG (Gm rfl ?_)))))))
 refine Gt (Bw rfl rfl) (Gn (.t2 0 14) ?_)
 refine Gc (fun c1 => ?_) (fun c1 => ?_)
 ·
  refine Gs (Ga rfl (Ga rfl (Ga rfl (Ga rfl (Gn (.t4 2 3 4 5) (Ab (AD ?_)))))))
  refine AY rfl (.tmp rfl (.tmp rfl (.tmp rfl (.tmp rfl .n)))) ?_
  intro w1 hS; refine ⟨?_, hS.Am⟩; rw [show Words.EF u = _ from (BB c1)]; rfl
 have c1p := kz c1
 refine Aa ?_
 refine AB (.t1 0) ?_
 refine AA (CG (Gm rfl ?_))
 refine BA rfl cN (.c rfl (.c rfl .n)) (fun w hS => I8 _ _ w) ?_
 refine Gm rfl (Gt (AM rfl rfl) (Gt (AM rfl rfl) (Ga rfl (Ga rfl (Gn (.t3 0 6 7) (Gs (Gm rfl ?_)))))))
 refine Gm rfl (Bi 21 rfl rfl (fun q => AE rfl) (Bi 21 rfl rfl (fun q => Dv (Bh rfl q) rfl) (Gt (BK rfl rfl (fun h => h)) (Gm rfl (Bi 25 rfl rfl (fun q => AE rfl) ?_)))))
 refine MY (t := 25) rfl rfl rfl (fun q => D7 Y3 (.c (Bh rfl q) (.c rfl .n)) (fun w hS => F1 _ 46 w)) ?_
 refine Bi 25 rfl rfl (fun q => BV (Bh rfl q)) (Gt (BK rfl rfl (fun h => h)) (Gn (.t3 0 6 29) ?_))
 refine Gc (fun c2 => ?_) (fun c2 => ?_)
 ·
  refine Gs (Gm rfl (Ga rfl (Ga rfl (Ga rfl (Ga rfl (Gn (.t4 2 3 4 5) (Ab ?_)))))))
  refine AD ?_
  refine AY rfl (.tmp rfl (.tmp rfl (.tmp rfl (.tmp rfl .n)))) ?_
  intro w1 hS; refine ⟨?_, hS.Am⟩; rw [show Words.EF u = _ from ((AW c1).trans (BB c2))]; rfl
 have c2p := kz c2
 refine Aa ?_
 refine AB (.t1 0) ?_
 refine AA (Gs (Gm rfl ?_))
 refine BA rfl bA (.c rfl (.c rfl .n)) (fun w hS => Is _ 46 (by omega) w) ?_
 refine Gm rfl (Gt (AM rfl rfl) (Gt (AM rfl rfl) (Gt (AM rfl rfl) (Ga rfl (Ga rfl (Ga rfl (Gn (.t4 0 8 9 10) ?_)))))))
 refine CG (Gm rfl (Gt (BV rfl) (Gn (.t4 0 8 9 38) ?_)))
 refine Gc (fun c3 => ?_) (fun c3 => ?_)
 ·
  refine CG (Gm rfl (Gt (Bw rfl rfl) (Gn (.t2 0 40) ?_)))
  refine Gc (fun c4 => ?_) (fun c4 => ?_)
  ·
   refine Gs (Ga rfl (Ga rfl (Ga rfl (Ga rfl (Gn (.t4 2 3 4 5) (Ab (AD ?_)))))))
   refine AD ?_
   refine AY rfl (.tmp rfl (.tmp rfl (.tmp rfl (.tmp rfl .n)))) ?_
   intro w1 hS; refine ⟨?_, hS.Am⟩; rw [show Words.EF u = _ from ((AW c1).trans ((AW c2).trans ((BB c3).trans (BB c4))))]; rfl
  refine Aa ?_
  refine AB (.t1 0) ?_
  refine AA (Gs (Gm rfl (Ga rfl (Ga rfl (Ga rfl (Ga rfl (Gn (.t4 2 3 4 5) ?_)))))))
  refine Ab (AD ?_)
  refine AY rfl (.tmp rfl (.tmp rfl (.tmp rfl (.tmp rfl .n)))) ?_
  intro w1 hS; refine ⟨?_, hS.Am⟩; rw [show Words.EF u = _ from ((AW c1).trans ((AW c2).trans ((BB c3).trans (AW c4))))]; rfl
 have c3p := kz c3
 refine Aa ?_
 refine AB (.t2 8 9) ?_
 refine AA (Gs (Gm rfl ?_))
 refine BF rfl cM (.c rfl .n) .n (LO _ (by omega)) (fun w hS => ⟨gl0.st hS, gl1.st hS⟩) (fun v1 B hv => ?_)
 rcases hv with ⟨y2, y3, rfl, rfl⟩ | ⟨y4, y5, y6, y7, rfl, rfl⟩
 ·
  refine Gm rfl (Gt (AM rfl rfl) (Gt (AM rfl rfl) (Ga rfl (Ga rfl (Gn (.t4 8 9 11 12) (CG (Gm rfl ?_)))))))
  refine Gt (SP Tryz.underlying109 rfl) (Gm rfl ?_)
  refine Ds (t := 49) rfl rfl rfl (AE rfl) ?_
  refine Ds (t := 49) rfl rfl rfl (A8 rfl rfl) ?_
  refine Gt (DX rfl rfl) (Gm rfl (Ba 53 rfl rfl (fun q => AE rfl) (Ba 53 rfl rfl (fun q => Cj (cF rfl q) rfl) ?_)))
  refine Gt (BR rfl rfl (fun h => by rw [h]; rfl)) ?_
  refine Gm rfl (Ba 57 rfl rfl (fun q => AE rfl) ?_)
  refine Ba 57 rfl rfl (fun q => by have q1 := q; (try simp at q1); exact Bl Tryz.underlying9 (cF rfl q) rfl (by decide) (by first | omega | (have hq := Words.Sf (by assumption); omega))) ?_
  refine Ba 57 rfl rfl (fun q => A8 (cF rfl q) rfl) ?_
  refine Gt (BR rfl rfl (fun h => by rw [h]; rfl)) ?_
  refine Gm rfl (Ba 62 rfl rfl (fun q => AE rfl) ?_)
  refine Ba 62 rfl rfl (fun q => by have q1 := q; (try simp at q1); exact Bl Tryz.underlying9 (cF rfl q) rfl (by decide) (by first | omega | (have hq := Words.Sf (by assumption); omega))) ?_
  refine Ba 62 rfl rfl (fun q => Cj (cF rfl q) rfl) ?_
  refine Gt (BR rfl rfl (fun h => by rw [h]; rfl)) ?_
  refine Gm rfl (Ba 67 rfl rfl (fun q => AE rfl) (Ba 67 rfl rfl (fun q => Bw (cF rfl q) rfl) ?_))
  refine Gt (BR rfl rfl (fun h => by rw [h]; rfl)) ?_
  refine Gm rfl (Ba 71 rfl rfl (fun q => AE rfl) ?_)
  refine Qa (t := 71) rfl rfl rfl (fun q => by have q1 := q; (try simp at q1); exact D7 Y3 (.c (cF rfl q) (.c rfl .n)) (fun w hS => F1 _ 46 w)) ?_
  refine Gt (BR rfl rfl (fun h => by rw [h]; rfl)) ?_
  refine Gn (.t3 9 11 74) ?_
  refine Gc (fun c5 => ?_) (fun c5 => ?_)
  ·
   refine Gs (Ga rfl (Ga rfl (Ga rfl (Ga rfl (Gn (.t4 2 3 4 5) (Ab (AD ?_)))))))
   refine AY rfl (.tmp rfl (.tmp rfl (.tmp rfl (.tmp rfl .n)))) ?_
   intro w1 hS; refine ⟨?_, hS.Am⟩; rw [show Words.EF u = _ from ((AW c1).trans ((AW c2).trans (AW c3))), Words.Ur y3, BB c5]; rfl
  refine Aa ?_
  refine AB (.t2 9 11) ?_
  refine AA (Gs (Gm rfl (Gm rfl (Ga rfl (Ga rfl (Ga rfl (Ga rfl ?_)))))))
  refine Gn (.t4 2 3 4 5) (Ab ?_)
  refine AY rfl (.tmp rfl (.tmp rfl (.tmp rfl (.tmp rfl .n)))) ?_
  intro w1 hS; refine ⟨?_, hS.Am⟩; rw [show Words.EF u = _ from ((AW c1).trans ((AW c2).trans (AW c3))), Words.Ur y3, AW c5]; rfl
 refine Gm rfl (Gt (AM rfl rfl) (Gt (AM rfl rfl) (Ga rfl (Ga rfl (Gn (.t4 8 9 11 12) (CG (Gm rfl ?_)))))))
 refine Gt (Yp Tryz.underlying109 rfl) (Gm rfl ?_)
 refine DC (t := 49) rfl rfl rfl rfl ?_
 refine DC (t := 49) rfl rfl rfl rfl ?_
 refine Gt (DS rfl rfl) (Gm rfl ?_)
 refine DC (t := 53) rfl rfl rfl rfl ?_
 refine DC (t := 53) rfl rfl rfl rfl ?_
 refine Gt (DS rfl rfl) (Gm rfl ?_)
 refine DC (t := 57) rfl rfl rfl rfl ?_
 refine DC (t := 57) rfl rfl rfl rfl ?_
 refine DC (t := 57) rfl rfl rfl rfl ?_
 refine Gt (DS rfl rfl) (Gm rfl ?_)
 refine DC (t := 62) rfl rfl rfl rfl ?_
 refine DC (t := 62) rfl rfl rfl rfl ?_
 refine DC (t := 62) rfl rfl rfl rfl ?_
 refine Gt (DS rfl rfl) (Gm rfl ?_)
 refine DC (t := 67) rfl rfl rfl rfl ?_
 refine DC (t := 67) rfl rfl rfl rfl ?_
 refine Gt (DS rfl rfl) (Gm rfl ?_)
 refine DC (t := 71) rfl rfl rfl rfl ?_
 refine DC (t := 71) rfl rfl rfl rfl ?_
 refine Gt (DS rfl rfl) (Gn (.t3 9 11 74) ?_)
 refine G0 rfl rfl ?_
 refine Gs (Ga rfl (Ga rfl (Ga rfl (Ga rfl (Gn (.t4 2 3 4 5) (Ab (AD ?_)))))))
 refine AY rfl (.tmp rfl (.tmp rfl (.tmp rfl (.tmp rfl .n)))) ?_
 intro w1 hS; refine ⟨?_, hS.Am⟩; rw [show Words.EF u = _ from ((AW c1).trans ((AW c2).trans (AW c3))), Words.WI y7]; rfl
theorem JM (z : Int) (w : World) : Ei Tryz.prog 155 #[.int .i64 z] w fun v w' => v = .bool (Words.many z) ∧ CB w w' := by
 refine Al [] [] Tryz.func155 rfl rfl rfl (St.start w []) ?_
 refine Gs (Ga rfl (Gn (.t1 0) (Gs (Gm rfl (Gt (Ae rfl rfl) (Gm rfl (Ba 5 rfl rfl (fun q => AE rfl) ?_)))))))
 refine Ba 5 rfl rfl (fun q => Ae (cF rfl q) rfl) ?_
 refine Gt (BR rfl rfl (fun h => by rw [h]; rfl)) ?_
 refine Gm rfl (Ba 9 rfl rfl (fun q => AE rfl) (Ba 9 rfl rfl (fun q => Ae (cF rfl q) rfl) ?_))
 refine Gt (BR rfl rfl (fun h => by rw [h]; rfl)) ?_
 refine Ga rfl (Gn (.t1 2) (Ab ?_))
 refine AY rfl (.tmp rfl .n) ?_
 intro w1 hS; refine ⟨?_, hS.Am⟩; rfl
theorem IQ (z : Int) (w : World) : Ei Tryz.prog 156 #[.int .i64 z] w fun v w' => v = .tuple #[BS (Words.NV z).1, .bool (Words.NV z).2] ∧ CB w w' := by
 refine Al [] [] Tryz.func156 rfl rfl rfl (St.start w []) ?_
 refine Gs (Ga rfl (Ga rfl (Gn (.t1 0) (CG (Gm rfl (Gn (.t1 4) (Af ?_)))))))
 refine Gs (Gt (Ae rfl rfl) (Ga rfl (Gn (.t2 4 5) ?_)))
 refine Gc (fun c1 => ?_) (fun c1 => ?_)
 ·
  refine Gs (Ga rfl (Ga rfl (Gn (.t2 2 3) (Ab (AS (AD ?_))))))
  refine AY rfl (.tmp rfl (.tmp rfl .n)) ?_
  intro w1 hS; refine ⟨?_, hS.Am⟩; rw [show Words.NV z = _ from (BB c1)]; rfl
 refine Gs (Gt (Ae rfl rfl) (Ga rfl (Gn (.t2 4 7) ?_)))
 refine Gc (fun c2 => ?_) (fun c2 => ?_)
 ·
  refine Gs (Ga rfl (Ga rfl (Gn (.t2 2 3) (Ab (AS (AD ?_))))))
  refine AY rfl (.tmp rfl (.tmp rfl .n)) ?_
  intro w1 hS; refine ⟨?_, hS.Am⟩; rw [show Words.NV z = _ from ((AW c1).trans (BB c2))]; rfl
 refine Gs (Gt (Ae rfl rfl) (Ga rfl (Gn (.t1 9) ?_)))
 refine Gc (fun c3 => ?_) (fun c3 => ?_)
 ·
  refine Gs (Ga rfl (Ga rfl (Gn (.t2 2 3) (Ab (AS (AD ?_))))))
  refine AY rfl (.tmp rfl (.tmp rfl .n)) ?_
  intro w1 hS; refine ⟨?_, hS.Am⟩; rw [show Words.NV z = _ from ((AW c1).trans ((AW c2).trans (BB c3)))]; rfl
 refine Aa ?_
 refine AB (.nil _) ?_
 refine AV (AA (Gs (Ga rfl (Ga rfl (AQ (AA (Ab ?_)))))))
 refine AY rfl (.tmp rfl (.tmp rfl .n)) ?_
 intro w1 hS; refine ⟨?_, hS.Am⟩; rw [show Words.NV z = _ from ((AW c1).trans ((AW c2).trans (AW c3)))]; rfl
theorem Ma (s : Ap) (hs : s.length ≤ 4000000) (w : World) (gl0 : GV 0 AH.DG w) (gl1 : Gl 7 w) (gl2 : Gl 8 w) : Ei Tryz.prog 122 #[BS s] w fun v w' => v = .tuple #[.agg (Words.parse s).1.enc.toArray, .int .i64 (Words.parse s).2] ∧ CB w w' := by
 refine Al [] [] Tryz.func122 rfl rfl rfl (St.start w []) ?_
 refine Gs ?_
 refine BH rfl LJ rfl (fun b1 => ?_)
 refine Ga rfl (Gn (.t2 0 2) (Gs (Ga rfl (AQ (AA (Gs (Gm rfl ?_)))))))
 refine Ag rfl bz (.c rfl .n) .n (MG _ hs) (fun v1 B hv => ?_)
 obtain ⟨y2, rfl, y3, rfl⟩ := hv
 refine Ga rfl (Gn (.t4 0 2 4 5) (CG (Gm rfl (Gt (Ar rfl Tryz.underlying52 rfl) (Gt (Ae rfl rfl) (Gn (.t5 0 2 4 5 20) ?_))))))
 refine Gc (fun c1 => ?_) (fun c1 => ?_)
 ·
  have hlen := y3
  (try simp only [Hd.cut] at c1)
  rw [hlen] at c1
  refine Gs (Gm rfl ?_)
  refine DL rfl Ib rfl (.c rfl .n) .n (Bq _) (fun v5 B hv => ?_)
  obtain ⟨rfl, rfl⟩ := hv
  refine Gt (AM rfl rfl) (Gt (AM rfl rfl) ?_)
  refine AT (AK (AU.id Order.fl.len Order.fl.one) rfl rfl rfl D1 rfl (.t .h)) ?_
  refine Ga rfl (Gn (.t2 2 3) (Ab (AD ?_)))
  refine AY rfl (.cell rfl .m1 (.inl ⟨(by rw [Order.fl.len]; exact B6), rfl⟩) (.tmp rfl .n)) ?_
  intro w1 hS; refine ⟨?_, hS.Am⟩; rw [show Words.parse s = _ from (BB c1)]; rfl
 have c1p := kz c1
 have hlen := y3
 (try simp only [Hd.cut] at c1)
 rw [hlen] at c1
 refine Aa ?_
 refine AB (.t4 0 2 4 5) ?_
 refine AA (Gs (Gm rfl ?_))
 refine Gt (Br JQ (by decide) (Kn.own .m0) rfl rfl (by omega) (by first | omega | (simp only [Hd.cut] at *; omega) | (simp [Hd.cut] at q ⊢; omega))) ?_
 refine Gt (Dg rfl CV (Kn.own .m0) (by first | omega | (simp only [List.length_drop, Hd.cut] at *; omega) | (simp [Hd.cut] at q ⊢; omega))) ?_
 refine BA rfl ZI (.c rfl .n) (fun w hS => JL _ w (gl0.st hS)) ?_
 refine Gm rfl (Gt (AM rfl rfl) (Gt (AM rfl rfl) (Ga rfl (Ga rfl (Gn (.t6 0 2 4 5 6 7) (CG (Gm rfl ?_)))))))
 refine Gt (CX rfl rfl) (Gn (.t7 0 2 4 5 6 7 33) ?_)
 refine Gc (fun c2 => ?_) (fun c2 => ?_)
 ·
  refine Gs (Gm rfl (Gm rfl ?_))
  refine DL rfl Ib rfl (.c rfl .n) .n (Bq _) (fun v6 B hv => ?_)
  obtain ⟨rfl, rfl⟩ := hv
  refine Gt (AM rfl rfl) (Gt (AM rfl rfl) ?_)
  refine AT (AK (AU.id Order.fl.len Order.fl.one) rfl rfl rfl D1 rfl (.t .h)) ?_
  refine Ga rfl (Gn (.t2 2 3) (Ab (AD ?_)))
  refine AY rfl (.cell rfl .m1 (.inl ⟨(by rw [Order.fl.len]; exact B6), rfl⟩) (.tmp rfl .n)) ?_
  intro w1 hS; refine ⟨?_, hS.Am⟩; rw [show Words.parse s = _ from ((AW c1).trans (BB c2))]; rfl
 have c2p := kz c2
 refine Aa ?_
 refine AB (.t5 0 2 4 5 6) ?_
 refine AA (Gs (Gm rfl (Gt (BC Rl LJ rfl (.cons Order.l0 rfl rfl rfl .nil)) ?_)))
 refine BH rfl LJ rfl (fun b2 => ?_)
 refine AT (AK (AU.id Order.fl.len Order.fl.one) rfl rfl rfl D1 rfl .h) ?_
 refine Gn (.t6 0 2 4 5 6 8) (Gs (Gm rfl ?_))
 refine Gd DW rfl Tryz.underlying52 Eo rfl rfl (by decide) (by first | omega | (simp only [Hd.cut]; omega) | (simp only [Hd.cut] at *; omega)) (fun _ => (.t .h)) ?_
 refine Ga rfl (Gn (.t6 0 2 4 5 6 8) (Ao (Af (Gs (Gm rfl (Gt (Ae rfl rfl) (Ga rfl ?_)))))))
 refine Gn (.t7 0 2 4 5 6 8 43) ?_
 refine Gc (fun c3 => ?_) (fun c3 => ?_)
 ·
  have c3p := kz c3
  refine Gs (Gm rfl ?_)
  refine BA rfl bH (.c rfl (.c rfl .n)) (fun w hS => JO _ (by omega) w) ?_
  refine BA rfl bA (.c rfl (.c rfl .n)) (fun w hS => Is _ 32 (by have := Words.Lk 32 s; omega) w) ?_
  refine Gm rfl (Gt (AM rfl rfl) (Gt (AM rfl rfl) (Gt (AM rfl rfl) (Ga rfl (Ga rfl (Ga rfl (Gn (.t4 2 4 8 10) ?_)))))))
  refine CG (Gm rfl ?_)
  refine BA rfl cC (.c rfl (.c rfl .n)) (fun w hS => Hv _ (by have h1 := Words.Lk 32 s; have h2 := Words.NR 32 (Words.P0 32 s); omega) w) ?_
  refine Gt (Ah QW rfl) ?_
  refine AT (AK Order.l5 rfl rfl rfl Eo rfl .h) ?_
  refine Gn (.t3 2 4 8) (Gs (Gt (Ah QW rfl) (Gt (AG rfl CV .m0 Order.l5 rfl rfl) (Gt (Bw rfl rfl) (Gn (.t4 2 4 8 58) ?_)))))
  refine Gc (fun c4 => ?_) (fun c4 => ?_)
  ·
   refine Gs (Gm rfl ?_)
   refine DL rfl Ib rfl (.c rfl .n) .n (Bq _) (fun v7 B hv => ?_)
   obtain ⟨rfl, rfl⟩ := hv
   refine Gt (AM rfl rfl) (Gt (AM rfl rfl) ?_)
   refine AT (AK (AU.id Order.fl.len Order.fl.one) rfl rfl rfl D1 rfl (.t (.t .h))) ?_
   refine Ga rfl (Gn (.t2 2 3) (Ab (AD (AS (AD ?_)))))
   refine AY rfl (.cell rfl .m2 (.inl ⟨(by rw [Order.fl.len]; exact B6), rfl⟩) (.tmp rfl .n)) ?_
   intro w1 hS; refine ⟨?_, hS.Am⟩; rw [show Words.parse s = _ from ((AW c1).trans ((AW c2).trans ((BB c3).trans (BB c4))))]; rfl
  refine Aa ?_
  refine AB (.t2 2 8) ?_
  refine AA (Gs (Gt (AZ rfl B6 .m0 (AU.id Order.fl.len Order.fl.one) rfl) ?_))
  refine AT (AK (AU.id Order.fl.len Order.fl.one) rfl rfl rfl D1 rfl (.t (.t .h))) ?_
  refine Ga rfl (Gn (.t2 2 3) (Ab (AS (AD ?_))))
  refine AY rfl (.cell rfl .m2 (.inl ⟨(by rw [Order.fl.len]; exact B6), rfl⟩) (.tmp rfl .n)) ?_
  intro w1 hS; refine ⟨?_, hS.Am⟩; rw [show Words.parse s = _ from ((AW c1).trans ((AW c2).trans ((BB c3).trans (AW c4))))]; rfl
 have c3p := kz c3
 refine Gs (Gm rfl (Gt (IG rfl rfl) (Gm rfl (Ba 67 rfl rfl (fun q => AE rfl) (Ba 67 rfl rfl (fun q => CN (cF rfl q) rfl) ?_)))))
 refine Gt (BR rfl rfl (fun h => by rw [h]; rfl)) ?_
 refine Ga rfl (Gn (.t6 2 4 5 6 8 64) ?_)
 refine Gc (fun c5 => ?_) (fun c5 => ?_)
 ·
  refine CG (Gm rfl (Gt (Ar rfl Tryz.underlying52 rfl) (Gt (Cj rfl rfl) (Gn (.t4 2 4 8 73) ?_))))
  refine Gc (fun c6 => ?_) (fun c6 => ?_)
  ·
   (try simp only [Hd.cut] at c6)
   rw [hlen] at c6
   refine Gs (Gm rfl ?_)
   refine DL rfl Ib rfl (.c rfl .n) .n (Bq _) (fun v8 B hv => ?_)
   obtain ⟨rfl, rfl⟩ := hv
   refine Gt (AM rfl rfl) (Gt (AM rfl rfl) ?_)
   refine AT (AK (AU.id Order.fl.len Order.fl.one) rfl rfl rfl D1 rfl (.t (.t .h))) ?_
   refine Ga rfl (Gn (.t2 2 3) (Ab (AD (AS (AD ?_)))))
   refine AY rfl (.cell rfl .m2 (.inl ⟨(by rw [Order.fl.len]; exact B6), rfl⟩) (.tmp rfl .n)) ?_
   intro w1 hS; refine ⟨?_, hS.Am⟩; rw [show Words.parse s = _ from ((AW c1).trans ((AW c2).trans ((AW c3).trans ((BB c5).trans (BB c6)))))]; rfl
  (try simp only [Hd.cut] at c6)
  rw [hlen] at c6
  refine Aa ?_
  refine AB (.t2 2 8) ?_
  refine AA (Gs (Gt (AZ rfl B6 .m0 (AU.id Order.fl.len Order.fl.one) rfl) ?_))
  refine AT (AK (AU.id Order.fl.len Order.fl.one) rfl rfl rfl D1 rfl (.t (.t .h))) ?_
  refine Ga rfl (Gn (.t2 2 3) (Ab (AS (AD ?_))))
  refine AY rfl (.cell rfl .m2 (.inl ⟨(by rw [Order.fl.len]; exact B6), rfl⟩) (.tmp rfl .n)) ?_
  intro w1 hS; refine ⟨?_, hS.Am⟩; rw [show Words.parse s = _ from ((AW c1).trans ((AW c2).trans ((AW c3).trans ((BB c5).trans (AW c6)))))]; rfl
 have c5p := kz c5
 refine Gs (Gm rfl (Gt (Ar rfl Tryz.underlying52 rfl) (Gt (Ae rfl rfl) (Ga rfl (Gn (.t6 2 4 5 6 8 79) ?_)))))
 refine Gc (fun c7 => ?_) (fun c7 => ?_)
 ·
  (try simp only [Hd.cut] at c7)
  rw [hlen] at c7
  refine Gs (Gm rfl ?_)
  refine DL rfl Ib rfl (.c rfl .n) .n (Bq _) (fun v9 B hv => ?_)
  obtain ⟨rfl, rfl⟩ := hv
  refine Gt (AM rfl rfl) (Gt (AM rfl rfl) ?_)
  refine AT (AK (AU.id Order.fl.len Order.fl.one) rfl rfl rfl D1 rfl (.t (.t .h))) ?_
  refine Ga rfl (Gn (.t2 2 3) (Ab (AS (AD ?_))))
  refine AY rfl (.cell rfl .m2 (.inl ⟨(by rw [Order.fl.len]; exact B6), rfl⟩) (.tmp rfl .n)) ?_
  intro w1 hS; refine ⟨?_, hS.Am⟩; rw [show Words.parse s = _ from ((AW c1).trans ((AW c2).trans ((AW c3).trans ((AW c5).trans (BB c7)))))]; rfl
 have c7p := kz c7
 (try simp only [Hd.cut] at c7)
 rw [hlen] at c7
 refine Aa ?_
 refine AB (.t5 2 4 5 6 8) ?_
 refine AV (AA (CG (Gm rfl (Gt (Ae rfl rfl) (Gm rfl (Ba 89 rfl rfl (fun q => AE rfl) (Ba 89 rfl rfl (fun q => Ae (cF rfl q) rfl) ?_)))))))
 refine Gt (BR rfl rfl (fun h => by rw [h]; rfl)) ?_
 refine Gn (.t6 2 4 5 6 8 92) ?_
 refine Gc (fun c8 => ?_) (fun c8 => ?_)
 ·
  have c8p := kz c8
  refine Gs (Gm rfl ?_)
  refine Gt (Br JQ (by decide) (Kn.own .m1) rfl rfl (by omega) (by first | omega | (simp only [Hd.cut] at *; omega) | (simp [Hd.cut] at q ⊢; omega))) ?_
  refine Gt (Dg rfl CV (Kn.own .m1) (by first | omega | (simp only [List.length_drop, Hd.cut] at *; omega) | (simp [Hd.cut] at q ⊢; omega))) ?_
  refine BA rfl ZI (.c rfl .n) (fun w hS => JL _ w (gl0.st hS)) ?_
  refine Gm rfl (Gt (AM rfl rfl) (Gt (AM rfl rfl) (Ga rfl (Ga rfl (Gn (.t7 2 4 5 6 8 12 13) (Gs (Gm rfl ?_)))))))
  refine Gt (Ae rfl rfl) (Gm rfl (Bi 102 rfl rfl (fun q => AE rfl) (Bi 102 rfl rfl (fun q => A8 (Bh rfl q) rfl) (Gt (BK rfl rfl (fun h => h)) (Gm rfl (Bi 106 rfl rfl (fun q => AE rfl) (Bi 106 rfl rfl (fun q => Ar rfl Tryz.underlying52 (Bh rfl q)) ?_)))))))
  refine Bi 106 rfl rfl (fun q => Ae (Bh rfl q) rfl) (Gt (BK rfl rfl (fun h => h)) (Gn (.t7 2 4 5 6 8 12 110) ?_))
  refine Gc (fun c9 => ?_) (fun c9 => ?_)
  ·
   have c9p := kz c9
   (try simp only [Hd.cut] at c9)
   rw [hlen] at c9
   have hd : 0 ≤ (Words.verb (((Words.words s).drop (1 : Int).toNat).getD (0 : Int).toNat [])).1 ∧ (Words.verb (((Words.words s).drop (1 : Int).toNat).getD (0 : Int).toNat [])).1 < 6 := ⟨(Words.XH _).1, by have h := c9; rw [Bool.and_eq_true, Bool.and_eq_true] at h; exact of_decide_eq_true h.1.2⟩
   refine Gs (Gm rfl ?_)
   refine Gt (AR WJ rfl rfl (by first | omega | (simp only [Hd.cut]; omega) | (simp only [Hd.cut] at *; omega)) (by first | omega | (simp only [Hd.cut]; omega) | (simp only [Hd.cut] at *; omega))) ?_
   refine Gt (RF gl0 rfl CV (AH.OX hd.1 hd.2)) (Gt (Ah Fi rfl) ?_)
   refine AT (AK Order.l3 rfl rfl rfl Eo rfl .h) ?_
   refine Gt (Ah GK rfl) ?_
   refine AT (AK Order.l1 rfl rfl rfl C5 rfl .h) ?_
   refine Gn (.t2 2 8) (Gs (Gt (AZ rfl B6 .m0 (AU.id Order.fl.len Order.fl.one) rfl) ?_))
   refine AT (AK (AU.id Order.fl.len Order.fl.one) rfl rfl rfl D1 rfl (.t (.t .h))) ?_
   refine Ga rfl (Gn (.t2 2 3) (Ab (AD ?_)))
   refine AY rfl (.cell rfl .m2 (.inl ⟨(by rw [Order.fl.len]; exact B6), rfl⟩) (.tmp rfl .n)) ?_
   intro w1 hS; refine ⟨?_, hS.Am⟩; rw [show Words.parse s = _ from ((AW c1).trans ((AW c2).trans ((AW c3).trans ((AW c5).trans ((AW c7).trans ((BB c8).trans (BB c9)))))))]; rfl
  have c9p := kz c9
  (try simp only [Hd.cut] at c9)
  rw [hlen] at c9
  refine Aa ?_
  refine AB (.t5 2 4 5 6 8) ?_
  refine AA (CG (Gm rfl ?_))
  refine Gt (Br JQ (by decide) (Kn.own .m1) rfl rfl (by omega) (by first | omega | (simp only [Hd.cut] at *; omega) | (simp [Hd.cut] at q ⊢; omega))) ?_
  refine Gt (Dg rfl CV (Kn.own .m1) (by first | omega | (simp only [List.length_drop, Hd.cut] at *; omega) | (simp [Hd.cut] at q ⊢; omega))) ?_
  refine BA rfl Up (.c rfl .n) (fun w hS => FJ _ (by have := Words.MF s 0 1; exact Nat.le_trans this (by omega)) w (gl1.st hS) (gl2.st hS)) ?_
  refine Gm rfl (Gt (AM rfl rfl) (Gt (AM rfl rfl) (Gt (AM rfl rfl) (Gt (AM rfl rfl) (Gt (Ah GK rfl) ?_)))))
  refine AT (AK Order.l1 rfl rfl rfl C5 rfl .h) ?_
  refine Gt (Ah Fi rfl) ?_
  refine AT (AK Order.l3 rfl rfl rfl Eo rfl .h) ?_
  refine Gt (Ah G5 rfl) ?_
  refine AT (AK Order.l2 rfl rfl rfl KX rfl .h) ?_
  refine Ga rfl (Gn (.t6 2 4 5 6 7 8) (Gs (Gm rfl (Gt (CX rfl rfl) (Gm rfl (Ba 131 rfl rfl (fun q => Ah G5 rfl) (Ba 131 rfl rfl (fun q => AG (cF rfl q) Dj .m0 Order.l2 rfl rfl) ?_)))))))
  refine Ba 131 rfl rfl (fun q => AE (cF rfl q)) ?_
  refine Cu (t := 134) rfl rfl rfl (fun qc q => AE rfl) ?_
  refine UG (t := 134) rfl rfl rfl (fun qc q => by have q1 := q; have qc1 := qc; (try simp at q1 qc1); exact D7 ZM (.c (Bh rfl (by rw [qc, q]; rfl)) .n) (fun w hS => JM _ w)) ?_
  refine Cu (t := 134) rfl rfl rfl (fun qc q => BV (Bh rfl (by rw [qc, q]; rfl))) ?_
  refine Ba 131 rfl rfl (fun q => BK (cF rfl q) rfl (fun h => by rw [q, h]; rfl)) ?_
  refine Gt (BR rfl rfl (fun h => by rw [h]; rfl)) ?_
  refine Gn (.t6 2 4 5 6 8 139) ?_
  refine Gc (fun c10 => ?_) (fun c10 => ?_)
  ·
   refine Gs (Gm rfl ?_)
   refine DL rfl Ib rfl (.c rfl .n) .n (Bq _) (fun v10 B hv => ?_)
   obtain ⟨rfl, rfl⟩ := hv
   refine Gt (AM rfl rfl) (Gt (AM rfl rfl) ?_)
   refine AT (AK (AU.id Order.fl.len Order.fl.one) rfl rfl rfl D1 rfl (.t (.t .h))) ?_
   refine Ga rfl (Gn (.t2 2 3) (Ab (AD ?_)))
   refine AY rfl (.cell rfl .m2 (.inl ⟨(by rw [Order.fl.len]; exact B6), rfl⟩) (.tmp rfl .n)) ?_
   intro w1 hS; refine ⟨?_, hS.Am⟩; rw [show Words.parse s = _ from ((AW c1).trans ((AW c2).trans ((AW c3).trans ((AW c5).trans ((AW c7).trans ((BB c8).trans ((AW c9).trans (BB c10))))))))]; rfl
  have c10p := kz c10
  refine Aa ?_
  refine AB (.t5 2 4 5 6 8) ?_
  refine AA (Gs (Gm rfl ?_))
  refine BA rfl Y6 (.c rfl .n) (fun w hS => IQ _ w) ?_
  refine Gm rfl (Gt (AM rfl rfl) (Gt (AM rfl rfl) (Ga rfl (Ga rfl (Gn (.t6 2 4 5 8 14 15) (Gs (Gm rfl ?_)))))))
  refine Gd DW rfl Tryz.underlying52 Eo rfl rfl (by decide) (by first | omega | (simp only [Hd.cut]; omega) | (simp only [Hd.cut] at *; omega)) (fun _ => (.t .h)) ?_
  refine Ga rfl (Gn (.t6 2 4 5 8 14 15) (CG (Gm rfl (Gt (Ar rfl Tryz.underlying52 rfl) (Gt (Cj rfl rfl) (Gm rfl (Bi 154 rfl rfl (fun q => AE rfl) ?_)))))))
  refine Bi 154 rfl rfl (fun q => Dv (Bh rfl q) rfl) (Gt (BK rfl rfl (fun h => h)) (Gm rfl (Bi 158 rfl rfl (fun q => AE rfl) ?_)))
  refine Bi 158 rfl rfl (fun q => by have q1 := q; (try simp at q1); exact Br JQ (by decide) (Kn.own .m1) (Bh rfl q) rfl (by omega) (by first | omega | (simp only [Hd.cut] at *; omega) | (simp [Hd.cut] at q ⊢; omega))) ?_
  refine Bi 158 rfl rfl (fun q => by have q1 := q; (try simp at q1); exact Dg (Bh rfl q) CV (Kn.own .m1) (by first | omega | (simp only [List.length_drop, Hd.cut] at *; omega) | (simp [Hd.cut] at q ⊢; omega))) ?_
  refine Bi 158 rfl rfl (fun q => AE rfl) (Bi 158 rfl rfl (fun q => Bw (Bh rfl q) (Bh rfl q)) (Gt (BK rfl rfl (fun h => h)) (Gn (.t7 2 4 5 8 14 15 164) ?_)))
  refine Gc (fun c11 => ?_) (fun c11 => ?_)
  ·
   have c11p := kz c11
   (try simp only [Hd.cut] at c11)
   rw [hlen] at c11
   refine Gs (Gm rfl ?_)
   refine Gd DW rfl Tryz.underlying52 Eo rfl rfl (by decide) (by first | omega | (simp only [Hd.cut]; omega) | (simp only [Hd.cut] at *; omega)) (fun _ => (.t .h)) ?_
   refine Ga rfl (Gn (.t6 2 4 5 8 14 15) (Gs (Gm rfl (Gt (Ar rfl Tryz.underlying52 rfl) (Gt (Ae rfl rfl) (Gn (.t7 2 4 5 8 14 15 169) ?_))))))
   refine Gc (fun c12 => ?_) (fun c12 => ?_)
   ·
    (try simp only [Hd.cut] at c12)
    rw [hlen] at c12
    refine Gs (Gm rfl ?_)
    refine DL rfl Ib rfl (.c rfl .n) .n (Bq _) (fun v11 B hv => ?_)
    obtain ⟨rfl, rfl⟩ := hv
    refine Gt (AM rfl rfl) (Gt (AM rfl rfl) ?_)
    refine AT (AK (AU.id Order.fl.len Order.fl.one) rfl rfl rfl D1 rfl (.t (.t .h))) ?_
    refine Ga rfl (Gn (.t2 2 3) (Ab (AD ?_)))
    refine AY rfl (.cell rfl .m2 (.inl ⟨(by rw [Order.fl.len]; exact B6), rfl⟩) (.tmp rfl .n)) ?_
    intro w1 hS; refine ⟨?_, hS.Am⟩; rw [show Words.parse s = _ from ((AW c1).trans ((AW c2).trans ((AW c3).trans ((AW c5).trans ((AW c7).trans ((BB c8).trans ((AW c9).trans ((AW c10).trans ((BB c11).trans (BB c12))))))))))]; rfl
   have c12p := kz c12
   (try simp only [Hd.cut] at c12)
   rw [hlen] at c12
   refine Aa ?_
   refine AB (.t6 2 4 5 8 14 15) ?_
   refine AA (Ao (Af (Gs (Gm rfl (Gt (Ar rfl Tryz.underlying52 rfl) (Gt (Ae rfl rfl) (Gm rfl ?_)))))))
   refine Bi 178 rfl rfl (fun q => AE rfl) (Bi 178 rfl rfl (fun q => BV (Bh rfl q)) (Gt (BK rfl rfl (fun h => h)) (Ga rfl (Gn (.t6 2 4 5 8 14 174) ?_))))
   refine Gc (fun c13 => ?_) (fun c13 => ?_)
   ·
    (try simp only [Hd.cut] at c13)
    rw [hlen] at c13
    refine Gs (Gt (AZ rfl B6 .m0 (AU.id Order.fl.len Order.fl.one) rfl) ?_)
    refine AT (AK (AU.id Order.fl.len Order.fl.one) rfl rfl rfl D1 rfl (.t (.t .h))) ?_
    refine Ga rfl (Gn (.t2 2 3) (Ab (AS (AD ?_))))
    refine AY rfl (.cell rfl .m2 (.inl ⟨(by rw [Order.fl.len]; exact B6), rfl⟩) (.tmp rfl .n)) ?_
    intro w1 hS; refine ⟨?_, hS.Am⟩; rw [show Words.parse s = _ from ((AW c1).trans ((AW c2).trans ((AW c3).trans ((AW c5).trans ((AW c7).trans ((BB c8).trans ((AW c9).trans ((AW c10).trans ((BB c11).trans ((AW c12).trans (BB c13)))))))))))]; rfl
   have c13p := kz c13
   (try simp only [Hd.cut] at c13)
   rw [hlen] at c13
   refine Gs (Gm rfl (Gt (Ar rfl Tryz.underlying52 rfl) (Gt (CX rfl rfl) (Gm rfl (Ba 187 rfl rfl (fun q => AE rfl) (Ba 187 rfl rfl (fun q => Bw (cF rfl q) rfl) ?_))))))
   refine Gt (BR rfl rfl (fun h => by rw [h]; rfl)) ?_
   refine Ga rfl (Gn (.t5 2 4 5 8 183) ?_)
   refine Gc (fun c14 => ?_) (fun c14 => ?_)
   ·
    (try simp only [Hd.cut] at c14)
    rw [hlen] at c14
    refine Gs (Gm rfl ?_)
    refine DL rfl Ib rfl (.c rfl .n) .n (Bq _) (fun v12 B hv => ?_)
    obtain ⟨rfl, rfl⟩ := hv
    refine Gt (AM rfl rfl) (Gt (AM rfl rfl) ?_)
    refine AT (AK (AU.id Order.fl.len Order.fl.one) rfl rfl rfl D1 rfl (.t (.t .h))) ?_
    refine Ga rfl (Gn (.t2 2 3) (Ab (AS (AD ?_))))
    refine AY rfl (.cell rfl .m2 (.inl ⟨(by rw [Order.fl.len]; exact B6), rfl⟩) (.tmp rfl .n)) ?_
    intro w1 hS; refine ⟨?_, hS.Am⟩; rw [show Words.parse s = _ from ((AW c1).trans ((AW c2).trans ((AW c3).trans ((AW c5).trans ((AW c7).trans ((BB c8).trans ((AW c9).trans ((AW c10).trans ((BB c11).trans ((AW c12).trans ((AW c13).trans (BB c14))))))))))))]; rfl
   have c14p := kz c14
   (try simp only [Hd.cut] at c14)
   rw [hlen] at c14
   refine Aa ?_
   refine AB (.t3 2 5 8) ?_
   refine AV (AA (Gs (Gm rfl ?_)))
   refine Gt (Br JQ (by decide) (Kn.own .m1) rfl rfl (by omega) (by first | omega | (simp only [Hd.cut] at *; omega) | (simp [Hd.cut] at q ⊢; omega))) ?_
   refine Gt (Dg rfl CV (Kn.own .m1) (by first | omega | (simp only [List.length_drop, Hd.cut] at *; omega) | (simp [Hd.cut] at q ⊢; omega))) ?_
   refine Gt (Ah Hr rfl) ?_
   refine AT (AK Order.l4 rfl rfl rfl Eo rfl .h) ?_
   refine Gn (.t2 2 8) (Gs (Gt (AZ rfl B6 .m0 (AU.id Order.fl.len Order.fl.one) rfl) ?_))
   refine AT (AK (AU.id Order.fl.len Order.fl.one) rfl rfl rfl D1 rfl (.t (.t .h))) ?_
   refine Ga rfl (Gn (.t2 2 3) (Ab ?_))
   refine AY rfl (.cell rfl .m2 (.inl ⟨(by rw [Order.fl.len]; exact B6), rfl⟩) (.tmp rfl .n)) ?_
   intro w1 hS; refine ⟨?_, hS.Am⟩; rw [show Words.parse s = _ from ((AW c1).trans ((AW c2).trans ((AW c3).trans ((AW c5).trans ((AW c7).trans ((BB c8).trans ((AW c9).trans ((AW c10).trans ((BB c11).trans ((AW c12).trans ((AW c13).trans (AW c14))))))))))))]; rfl
  have c11p := kz c11
  (try simp only [Hd.cut] at c11)
  rw [hlen] at c11
  refine Aa ?_
  refine AB (.t6 2 4 5 8 14 15) ?_
  refine AA (Ao (Af (Gs (Gm rfl (Gt (Ar rfl Tryz.underlying52 rfl) (Gt (Ae rfl rfl) (Gm rfl ?_)))))))
  refine Bi 178 rfl rfl (fun q => AE rfl) (Bi 178 rfl rfl (fun q => BV (Bh rfl q)) (Gt (BK rfl rfl (fun h => h)) (Ga rfl (Gn (.t6 2 4 5 8 14 174) ?_))))
  refine Gc (fun c15 => ?_) (fun c15 => ?_)
  ·
   (try simp only [Hd.cut] at c15)
   rw [hlen] at c15
   refine Gs (Gt (AZ rfl B6 .m0 (AU.id Order.fl.len Order.fl.one) rfl) ?_)
   refine AT (AK (AU.id Order.fl.len Order.fl.one) rfl rfl rfl D1 rfl (.t (.t .h))) ?_
   refine Ga rfl (Gn (.t2 2 3) (Ab (AS (AD ?_))))
   refine AY rfl (.cell rfl .m2 (.inl ⟨(by rw [Order.fl.len]; exact B6), rfl⟩) (.tmp rfl .n)) ?_
   intro w1 hS; refine ⟨?_, hS.Am⟩; rw [show Words.parse s = _ from ((AW c1).trans ((AW c2).trans ((AW c3).trans ((AW c5).trans ((AW c7).trans ((BB c8).trans ((AW c9).trans ((AW c10).trans ((AW c11).trans (BB c15))))))))))]; rfl
  have c15p := kz c15
  (try simp only [Hd.cut] at c15)
  rw [hlen] at c15
  refine Gs (Gm rfl (Gt (Ar rfl Tryz.underlying52 rfl) (Gt (CX rfl rfl) (Gm rfl (Ba 187 rfl rfl (fun q => AE rfl) (Ba 187 rfl rfl (fun q => Bw (cF rfl q) rfl) ?_))))))
  refine Gt (BR rfl rfl (fun h => by rw [h]; rfl)) ?_
  refine Ga rfl (Gn (.t5 2 4 5 8 183) ?_)
  refine Gc (fun c16 => ?_) (fun c16 => ?_)
  ·
   (try simp only [Hd.cut] at c16)
   rw [hlen] at c16
   refine Gs (Gm rfl ?_)
   refine DL rfl Ib rfl (.c rfl .n) .n (Bq _) (fun v13 B hv => ?_)
   obtain ⟨rfl, rfl⟩ := hv
   refine Gt (AM rfl rfl) (Gt (AM rfl rfl) ?_)
   refine AT (AK (AU.id Order.fl.len Order.fl.one) rfl rfl rfl D1 rfl (.t (.t .h))) ?_
   refine Ga rfl (Gn (.t2 2 3) (Ab (AS (AD ?_))))
   refine AY rfl (.cell rfl .m2 (.inl ⟨(by rw [Order.fl.len]; exact B6), rfl⟩) (.tmp rfl .n)) ?_
   intro w1 hS; refine ⟨?_, hS.Am⟩; rw [show Words.parse s = _ from ((AW c1).trans ((AW c2).trans ((AW c3).trans ((AW c5).trans ((AW c7).trans ((BB c8).trans ((AW c9).trans ((AW c10).trans ((AW c11).trans ((AW c15).trans (BB c16)))))))))))]; rfl
  have c16p := kz c16
  (try simp only [Hd.cut] at c16)
  rw [hlen] at c16
  refine Aa ?_
  refine AB (.t3 2 5 8) ?_
  refine AV (AA (Gs (Gm rfl ?_)))
  refine Gt (Br JQ (by decide) (Kn.own .m1) rfl rfl (by omega) (by first | omega | (simp only [Hd.cut] at *; omega) | (simp [Hd.cut] at q ⊢; omega))) ?_
  refine Gt (Dg rfl CV (Kn.own .m1) (by first | omega | (simp only [List.length_drop, Hd.cut] at *; omega) | (simp [Hd.cut] at q ⊢; omega))) ?_
  refine Gt (Ah Hr rfl) ?_
  refine AT (AK Order.l4 rfl rfl rfl Eo rfl .h) ?_
  refine Gn (.t2 2 8) (Gs (Gt (AZ rfl B6 .m0 (AU.id Order.fl.len Order.fl.one) rfl) ?_))
  refine AT (AK (AU.id Order.fl.len Order.fl.one) rfl rfl rfl D1 rfl (.t (.t .h))) ?_
  refine Ga rfl (Gn (.t2 2 3) (Ab ?_))
  refine AY rfl (.cell rfl .m2 (.inl ⟨(by rw [Order.fl.len]; exact B6), rfl⟩) (.tmp rfl .n)) ?_
  intro w1 hS; refine ⟨?_, hS.Am⟩; rw [show Words.parse s = _ from ((AW c1).trans ((AW c2).trans ((AW c3).trans ((AW c5).trans ((AW c7).trans ((BB c8).trans ((AW c9).trans ((AW c10).trans ((AW c11).trans ((AW c15).trans (AW c16)))))))))))]; rfl
 have c8p := kz c8
 refine Aa ?_
 refine AB (.t5 2 4 5 6 8) ?_
 refine AA (CG (Gm rfl ?_))
 refine Gt (Br JQ (by decide) (Kn.own .m1) rfl rfl (by omega) (by first | omega | (simp only [Hd.cut] at *; omega) | (simp [Hd.cut] at q ⊢; omega))) ?_
 refine Gt (Dg rfl CV (Kn.own .m1) (by first | omega | (simp only [List.length_drop, Hd.cut] at *; omega) | (simp [Hd.cut] at q ⊢; omega))) ?_
 refine BA rfl Up (.c rfl .n) (fun w hS => FJ _ (by have := Words.MF s 0 1; exact Nat.le_trans this (by omega)) w (gl1.st hS) (gl2.st hS)) ?_
 refine Gm rfl (Gt (AM rfl rfl) (Gt (AM rfl rfl) (Gt (AM rfl rfl) (Gt (AM rfl rfl) (Gt (Ah GK rfl) ?_)))))
 refine AT (AK Order.l1 rfl rfl rfl C5 rfl .h) ?_
 refine Gt (Ah Fi rfl) ?_
 refine AT (AK Order.l3 rfl rfl rfl Eo rfl .h) ?_
 refine Gt (Ah G5 rfl) ?_
 refine AT (AK Order.l2 rfl rfl rfl KX rfl .h) ?_
 refine Ga rfl (Gn (.t6 2 4 5 6 7 8) (Gs (Gm rfl (Gt (CX rfl rfl) (Gm rfl (Ba 131 rfl rfl (fun q => Ah G5 rfl) (Ba 131 rfl rfl (fun q => AG (cF rfl q) Dj .m0 Order.l2 rfl rfl) ?_)))))))
 refine Ba 131 rfl rfl (fun q => AE (cF rfl q)) ?_
 refine Cu (t := 134) rfl rfl rfl (fun qc q => AE rfl) ?_
 refine UG (t := 134) rfl rfl rfl (fun qc q => by have q1 := q; have qc1 := qc; (try simp at q1 qc1); exact D7 ZM (.c (Bh rfl (by rw [qc, q]; rfl)) .n) (fun w hS => JM _ w)) ?_
 refine Cu (t := 134) rfl rfl rfl (fun qc q => BV (Bh rfl (by rw [qc, q]; rfl))) ?_
 refine Ba 131 rfl rfl (fun q => BK (cF rfl q) rfl (fun h => by rw [q, h]; rfl)) ?_
 refine Gt (BR rfl rfl (fun h => by rw [h]; rfl)) ?_
 refine Gn (.t6 2 4 5 6 8 139) ?_
 refine Gc (fun c17 => ?_) (fun c17 => ?_)
 ·
  refine Gs (Gm rfl ?_)
  refine DL rfl Ib rfl (.c rfl .n) .n (Bq _) (fun v14 B hv => ?_)
  obtain ⟨rfl, rfl⟩ := hv
  refine Gt (AM rfl rfl) (Gt (AM rfl rfl) ?_)
  refine AT (AK (AU.id Order.fl.len Order.fl.one) rfl rfl rfl D1 rfl (.t (.t .h))) ?_
  refine Ga rfl (Gn (.t2 2 3) (Ab (AD ?_)))
  refine AY rfl (.cell rfl .m2 (.inl ⟨(by rw [Order.fl.len]; exact B6), rfl⟩) (.tmp rfl .n)) ?_
  intro w1 hS; refine ⟨?_, hS.Am⟩; rw [show Words.parse s = _ from ((AW c1).trans ((AW c2).trans ((AW c3).trans ((AW c5).trans ((AW c7).trans ((AW c8).trans (BB c17)))))))]; rfl
 have c17p := kz c17
 refine Aa ?_
 refine AB (.t5 2 4 5 6 8) ?_
 refine AA (Gs (Gm rfl ?_))
 refine BA rfl Y6 (.c rfl .n) (fun w hS => IQ _ w) ?_
 refine Gm rfl (Gt (AM rfl rfl) (Gt (AM rfl rfl) (Ga rfl (Ga rfl (Gn (.t6 2 4 5 8 14 15) (Gs (Gm rfl ?_)))))))
 refine Gd DW rfl Tryz.underlying52 Eo rfl rfl (by decide) (by first | omega | (simp only [Hd.cut]; omega) | (simp only [Hd.cut] at *; omega)) (fun _ => (.t .h)) ?_
 refine Ga rfl (Gn (.t6 2 4 5 8 14 15) (CG (Gm rfl (Gt (Ar rfl Tryz.underlying52 rfl) (Gt (Cj rfl rfl) (Gm rfl (Bi 154 rfl rfl (fun q => AE rfl) ?_)))))))
 refine Bi 154 rfl rfl (fun q => Dv (Bh rfl q) rfl) (Gt (BK rfl rfl (fun h => h)) (Gm rfl (Bi 158 rfl rfl (fun q => AE rfl) ?_)))
 refine Bi 158 rfl rfl (fun q => by have q1 := q; (try simp at q1); exact Br JQ (by decide) (Kn.own .m1) (Bh rfl q) rfl (by omega) (by first | omega | (simp only [Hd.cut] at *; omega) | (simp [Hd.cut] at q ⊢; omega))) ?_
 refine Bi 158 rfl rfl (fun q => by have q1 := q; (try simp at q1); exact Dg (Bh rfl q) CV (Kn.own .m1) (by first | omega | (simp only [List.length_drop, Hd.cut] at *; omega) | (simp [Hd.cut] at q ⊢; omega))) ?_
 refine Bi 158 rfl rfl (fun q => AE rfl) (Bi 158 rfl rfl (fun q => Bw (Bh rfl q) (Bh rfl q)) (Gt (BK rfl rfl (fun h => h)) (Gn (.t7 2 4 5 8 14 15 164) ?_)))
 refine Gc (fun c18 => ?_) (fun c18 => ?_)
 ·
  have c18p := kz c18
  (try simp only [Hd.cut] at c18)
  rw [hlen] at c18
  refine Gs (Gm rfl ?_)
  refine Gd DW rfl Tryz.underlying52 Eo rfl rfl (by decide) (by first | omega | (simp only [Hd.cut]; omega) | (simp only [Hd.cut] at *; omega)) (fun _ => (.t .h)) ?_
  refine Ga rfl (Gn (.t6 2 4 5 8 14 15) (Gs (Gm rfl (Gt (Ar rfl Tryz.underlying52 rfl) (Gt (Ae rfl rfl) (Gn (.t7 2 4 5 8 14 15 169) ?_))))))
  refine Gc (fun c19 => ?_) (fun c19 => ?_)
  ·
   (try simp only [Hd.cut] at c19)
   rw [hlen] at c19
   refine Gs (Gm rfl ?_)
   refine DL rfl Ib rfl (.c rfl .n) .n (Bq _) (fun v15 B hv => ?_)
   obtain ⟨rfl, rfl⟩ := hv
   refine Gt (AM rfl rfl) (Gt (AM rfl rfl) ?_)
   refine AT (AK (AU.id Order.fl.len Order.fl.one) rfl rfl rfl D1 rfl (.t (.t .h))) ?_
   refine Ga rfl (Gn (.t2 2 3) (Ab (AD ?_)))
   refine AY rfl (.cell rfl .m2 (.inl ⟨(by rw [Order.fl.len]; exact B6), rfl⟩) (.tmp rfl .n)) ?_
   intro w1 hS; refine ⟨?_, hS.Am⟩; rw [show Words.parse s = _ from ((AW c1).trans ((AW c2).trans ((AW c3).trans ((AW c5).trans ((AW c7).trans ((AW c8).trans ((AW c17).trans ((BB c18).trans (BB c19)))))))))]; rfl
  have c19p := kz c19
  (try simp only [Hd.cut] at c19)
  rw [hlen] at c19
  refine Aa ?_
  refine AB (.t6 2 4 5 8 14 15) ?_
  refine AA (Ao (Af (Gs (Gm rfl (Gt (Ar rfl Tryz.underlying52 rfl) (Gt (Ae rfl rfl) (Gm rfl ?_)))))))
  refine Bi 178 rfl rfl (fun q => AE rfl) (Bi 178 rfl rfl (fun q => BV (Bh rfl q)) (Gt (BK rfl rfl (fun h => h)) (Ga rfl (Gn (.t6 2 4 5 8 14 174) ?_))))
  refine Gc (fun c20 => ?_) (fun c20 => ?_)
  ·
   (try simp only [Hd.cut] at c20)
   rw [hlen] at c20
   refine Gs (Gt (AZ rfl B6 .m0 (AU.id Order.fl.len Order.fl.one) rfl) ?_)
   refine AT (AK (AU.id Order.fl.len Order.fl.one) rfl rfl rfl D1 rfl (.t (.t .h))) ?_
   refine Ga rfl (Gn (.t2 2 3) (Ab (AS (AD ?_))))
   refine AY rfl (.cell rfl .m2 (.inl ⟨(by rw [Order.fl.len]; exact B6), rfl⟩) (.tmp rfl .n)) ?_
   intro w1 hS; refine ⟨?_, hS.Am⟩; rw [show Words.parse s = _ from ((AW c1).trans ((AW c2).trans ((AW c3).trans ((AW c5).trans ((AW c7).trans ((AW c8).trans ((AW c17).trans ((BB c18).trans ((AW c19).trans (BB c20))))))))))]; rfl
  have c20p := kz c20
  (try simp only [Hd.cut] at c20)
  rw [hlen] at c20
  refine Gs (Gm rfl (Gt (Ar rfl Tryz.underlying52 rfl) (Gt (CX rfl rfl) (Gm rfl (Ba 187 rfl rfl (fun q => AE rfl) (Ba 187 rfl rfl (fun q => Bw (cF rfl q) rfl) ?_))))))
  refine Gt (BR rfl rfl (fun h => by rw [h]; rfl)) ?_
  refine Ga rfl (Gn (.t5 2 4 5 8 183) ?_)
  refine Gc (fun c21 => ?_) (fun c21 => ?_)
  ·
   (try simp only [Hd.cut] at c21)
   rw [hlen] at c21
   refine Gs (Gm rfl ?_)
   refine DL rfl Ib rfl (.c rfl .n) .n (Bq _) (fun v16 B hv => ?_)
   obtain ⟨rfl, rfl⟩ := hv
   refine Gt (AM rfl rfl) (Gt (AM rfl rfl) ?_)
   refine AT (AK (AU.id Order.fl.len Order.fl.one) rfl rfl rfl D1 rfl (.t (.t .h))) ?_
   refine Ga rfl (Gn (.t2 2 3) (Ab (AS (AD ?_))))
   refine AY rfl (.cell rfl .m2 (.inl ⟨(by rw [Order.fl.len]; exact B6), rfl⟩) (.tmp rfl .n)) ?_
   intro w1 hS; refine ⟨?_, hS.Am⟩; rw [show Words.parse s = _ from ((AW c1).trans ((AW c2).trans ((AW c3).trans ((AW c5).trans ((AW c7).trans ((AW c8).trans ((AW c17).trans ((BB c18).trans ((AW c19).trans ((AW c20).trans (BB c21)))))))))))]; rfl
  have c21p := kz c21
  (try simp only [Hd.cut] at c21)
  rw [hlen] at c21
  refine Aa ?_
  refine AB (.t3 2 5 8) ?_
  refine AV (AA (Gs (Gm rfl ?_)))
  refine Gt (Br JQ (by decide) (Kn.own .m1) rfl rfl (by omega) (by first | omega | (simp only [Hd.cut] at *; omega) | (simp [Hd.cut] at q ⊢; omega))) ?_
  refine Gt (Dg rfl CV (Kn.own .m1) (by first | omega | (simp only [List.length_drop, Hd.cut] at *; omega) | (simp [Hd.cut] at q ⊢; omega))) ?_
  refine Gt (Ah Hr rfl) ?_
  refine AT (AK Order.l4 rfl rfl rfl Eo rfl .h) ?_
  refine Gn (.t2 2 8) (Gs (Gt (AZ rfl B6 .m0 (AU.id Order.fl.len Order.fl.one) rfl) ?_))
  refine AT (AK (AU.id Order.fl.len Order.fl.one) rfl rfl rfl D1 rfl (.t (.t .h))) ?_
  refine Ga rfl (Gn (.t2 2 3) (Ab ?_))
  refine AY rfl (.cell rfl .m2 (.inl ⟨(by rw [Order.fl.len]; exact B6), rfl⟩) (.tmp rfl .n)) ?_
  intro w1 hS; refine ⟨?_, hS.Am⟩; rw [show Words.parse s = _ from ((AW c1).trans ((AW c2).trans ((AW c3).trans ((AW c5).trans ((AW c7).trans ((AW c8).trans ((AW c17).trans ((BB c18).trans ((AW c19).trans ((AW c20).trans (AW c21)))))))))))]; rfl
 have c18p := kz c18
 (try simp only [Hd.cut] at c18)
 rw [hlen] at c18
 refine Aa ?_
 refine AB (.t6 2 4 5 8 14 15) ?_
 refine AA (Ao (Af (Gs (Gm rfl (Gt (Ar rfl Tryz.underlying52 rfl) (Gt (Ae rfl rfl) (Gm rfl ?_)))))))
 refine Bi 178 rfl rfl (fun q => AE rfl) (Bi 178 rfl rfl (fun q => BV (Bh rfl q)) (Gt (BK rfl rfl (fun h => h)) (Ga rfl (Gn (.t6 2 4 5 8 14 174) ?_))))
 refine Gc (fun c22 => ?_) (fun c22 => ?_)
 ·
  (try simp only [Hd.cut] at c22)
  rw [hlen] at c22
  refine Gs (Gt (AZ rfl B6 .m0 (AU.id Order.fl.len Order.fl.one) rfl) ?_)
  refine AT (AK (AU.id Order.fl.len Order.fl.one) rfl rfl rfl D1 rfl (.t (.t .h))) ?_
  refine Ga rfl (Gn (.t2 2 3) (Ab (AS (AD ?_))))
  refine AY rfl (.cell rfl .m2 (.inl ⟨(by rw [Order.fl.len]; exact B6), rfl⟩) (.tmp rfl .n)) ?_
  intro w1 hS; refine ⟨?_, hS.Am⟩; rw [show Words.parse s = _ from ((AW c1).trans ((AW c2).trans ((AW c3).trans ((AW c5).trans ((AW c7).trans ((AW c8).trans ((AW c17).trans ((AW c18).trans (BB c22)))))))))]; rfl
 have c22p := kz c22
 (try simp only [Hd.cut] at c22)
 rw [hlen] at c22
 refine Gs (Gm rfl (Gt (Ar rfl Tryz.underlying52 rfl) (Gt (CX rfl rfl) (Gm rfl (Ba 187 rfl rfl (fun q => AE rfl) (Ba 187 rfl rfl (fun q => Bw (cF rfl q) rfl) ?_))))))
 refine Gt (BR rfl rfl (fun h => by rw [h]; rfl)) ?_
 refine Ga rfl (Gn (.t5 2 4 5 8 183) ?_)
 refine Gc (fun c23 => ?_) (fun c23 => ?_)
 ·
  (try simp only [Hd.cut] at c23)
  rw [hlen] at c23
  refine Gs (Gm rfl ?_)
  refine DL rfl Ib rfl (.c rfl .n) .n (Bq _) (fun v17 B hv => ?_)
  obtain ⟨rfl, rfl⟩ := hv
  refine Gt (AM rfl rfl) (Gt (AM rfl rfl) ?_)
  refine AT (AK (AU.id Order.fl.len Order.fl.one) rfl rfl rfl D1 rfl (.t (.t .h))) ?_
  refine Ga rfl (Gn (.t2 2 3) (Ab (AS (AD ?_))))
  refine AY rfl (.cell rfl .m2 (.inl ⟨(by rw [Order.fl.len]; exact B6), rfl⟩) (.tmp rfl .n)) ?_
  intro w1 hS; refine ⟨?_, hS.Am⟩; rw [show Words.parse s = _ from ((AW c1).trans ((AW c2).trans ((AW c3).trans ((AW c5).trans ((AW c7).trans ((AW c8).trans ((AW c17).trans ((AW c18).trans ((AW c22).trans (BB c23))))))))))]; rfl
 have c23p := kz c23
 (try simp only [Hd.cut] at c23)
 rw [hlen] at c23
 refine Aa ?_
 refine AB (.t3 2 5 8) ?_
 refine AV (AA (Gs (Gm rfl ?_)))
 refine Gt (Br JQ (by decide) (Kn.own .m1) rfl rfl (by omega) (by first | omega | (simp only [Hd.cut] at *; omega) | (simp [Hd.cut] at q ⊢; omega))) ?_
 refine Gt (Dg rfl CV (Kn.own .m1) (by first | omega | (simp only [List.length_drop, Hd.cut] at *; omega) | (simp [Hd.cut] at q ⊢; omega))) ?_
 refine Gt (Ah Hr rfl) ?_
 refine AT (AK Order.l4 rfl rfl rfl Eo rfl .h) ?_
 refine Gn (.t2 2 8) (Gs (Gt (AZ rfl B6 .m0 (AU.id Order.fl.len Order.fl.one) rfl) ?_))
 refine AT (AK (AU.id Order.fl.len Order.fl.one) rfl rfl rfl D1 rfl (.t (.t .h))) ?_
 refine Ga rfl (Gn (.t2 2 3) (Ab ?_))
 refine AY rfl (.cell rfl .m2 (.inl ⟨(by rw [Order.fl.len]; exact B6), rfl⟩) (.tmp rfl .n)) ?_
 intro w1 hS; refine ⟨?_, hS.Am⟩; rw [show Words.parse s = _ from ((AW c1).trans ((AW c2).trans ((AW c3).trans ((AW c5).trans ((AW c7).trans ((AW c8).trans ((AW c17).trans ((AW c18).trans ((AW c22).trans (AW c23))))))))))]; rfl
theorem HJ (d : Int) (w : World) : Ei Tryz.prog 128 #[.int .i64 d] w fun v w' => v = .int .i64 (AH.opposite d) ∧ CB w w' := by
 refine Al [] [] Tryz.func128 rfl rfl rfl (St.start w []) ?_
 refine Gs (Ga rfl (Gn (.t1 0) (Gs (Gm rfl (Gt (LR rfl rfl) (Gt (KA rfl rfl) ?_))))))
 refine Gt (Av rfl rfl (IntWalk.i64_in _ (by omega))) ?_
 refine Gt (TL rfl rfl (by omega)) ?_
 refine Ga rfl (Gn (.t1 2) (Ab ?_))
 refine AY rfl (.tmp rfl .n) ?_
 intro w1 hS; refine ⟨?_, hS.Am⟩; rfl
theorem QO (b : Nat) (T : AF) (g : Hd) (d : Int) (hg : g.len = T.out.length) (hF : T.Fit) (hd : 0 ≤ d ∧ d < 6) (hn : T.out.length ≤ 80000) : FL Tryz.prog 99 #[.pointer (some ⟨b, 0, none⟩), .int .i64 d] [Ac.box b 163 (Ad.enc ⟨T.w, T.b, g⟩), Ac.own g 56 16 (T.out.flatMap Ing.Event.enc)] (fun w => (GV 0 AH.DG w ∧ 0 ∉ Cd [Ac.box b 163 (Ad.enc ⟨T.w, T.b, g⟩), Ac.own g 56 16 (T.out.flatMap Ing.Event.enc)])) (fun v B => ∃ g' : Hd, v = .tuple #[] ∧ g'.len = (T.walk d).out.length ∧ B = [Ac.box b 163 (Ad.enc ⟨(T.walk d).w, (T.walk d).b, g'⟩), Ac.own g' 56 16 ((T.walk d).out.flatMap Ing.Event.enc)]) := by
 intro w hS0 hH
 obtain ⟨gl0, gm0⟩ := hH
 have hb := hF.b
 have hr := hF.room
 have hx := hF.exit hd.1 hd.2
 refine Al _ _ Tryz.func99 rfl rfl rfl (hS0) ?_
 refine Ao ?_
 refine BE (N := 19) [0, 0, 0, 4, 12, 28, 2, 66, 194, 510, 1022, 2046, 1, 4097, 12289, 32767, 65535, 0, 262143] mix (by kernel_rfl) rfl ?_
 refine Pf 0 rfl (AE rfl) (Pf 1 rfl (AE rfl) (Pf 2 rfl (AE rfl) (Pf 3 rfl (BT rfl) (Pf 4 rfl (Ah CP rfl) (Pf 5 rfl (AG rfl A3 .m0 Ad.l1 rfl rfl) (Pf 6 rfl (BT rfl) (Pf 7 rfl (Ah A9 rfl) ?_)))))))
 refine Pf 8 rfl (Ah Bn rfl) ?_
 refine Pf 9 rfl (AR C6 rfl rfl (by first | omega | exact hb.1 | exact hb.2 | (dsimp only; omega)) (by first | omega | exact hb.1 | exact hb.2 | (dsimp only; omega))) ?_
 refine Pf 10 rfl (Ah C2 rfl) ?_
 refine Pf 11 rfl (AG rfl A3 .m0 (((Ad.l0.comp AH.l2).comp (AU.ar (n := 6) Aj.fl (by first | omega | exact hb | (dsimp only; omega)))).comp Aj.l3) rfl rfl) ?_
 refine Pf 12 rfl (BT rfl) (Pf 13 rfl (Ah A9 rfl) (Pf 14 rfl (Ah Gv rfl) ?_))
 refine Pf 15 rfl (AR Ox rfl rfl (by first | omega | exact hb.1 | exact hb.2 | (dsimp only; omega)) (by first | omega | exact hb.1 | exact hb.2 | (dsimp only; omega))) ?_
 refine Pf 16 rfl (AZ rfl OI .m0 ((Ad.l0.comp AH.l0).comp (AU.ar (n := 6) Room.fl (by first | omega | exact hb | (dsimp only; omega)))) rfl) ?_
 refine An 17 rfl (by kernel_rfl) ?_
 refine BH rfl O1 rfl (fun b1 => ?_)
 refine Bp rfl ⟨?_, ?_⟩
 · exact (Po rfl (AZ rfl OI .m1 ((Ad.l0.comp AH.l0).comp (AU.ar (n := 6) Room.fl (by first | omega | exact hb | (dsimp only; omega)))) rfl) rfl rfl (Po rfl (AR Ox rfl rfl (by first | omega | exact hb.1 | exact hb.2 | (dsimp only; omega)) (by first | omega | exact hb.1 | exact hb.2 | (dsimp only; omega))) rfl rfl (Po rfl (Ah Gv rfl) rfl rfl (Po rfl (Ah A9 rfl) rfl rfl (Po rfl (BT rfl) rfl rfl (Po rfl (AG rfl A3 .m1 (((Ad.l0.comp AH.l2).comp (AU.ar (n := 6) Aj.fl (by first | omega | exact hb | (dsimp only; omega)))).comp Aj.l3) rfl rfl) rfl rfl (Po rfl (Ah C2 rfl) rfl rfl (Po rfl (AR C6 rfl rfl (by first | omega | exact hb.1 | exact hb.2 | (dsimp only; omega)) (by first | omega | exact hb.1 | exact hb.2 | (dsimp only; omega))) rfl rfl (Po rfl (Ah Bn rfl) rfl rfl (Po rfl (Ah A9 rfl) rfl rfl (Po rfl (BT rfl) rfl rfl (Po rfl (AG rfl A3 .m1 Ad.l1 rfl rfl) rfl rfl (Po rfl (Ah CP rfl) rfl rfl (Po rfl (BT rfl) rfl rfl (Po rfl (AE rfl) rfl rfl (Po rfl (AE rfl) rfl rfl (Po rfl (AE rfl) rfl rfl Aq)))))))))))))))))
 refine An 18 rfl (by kernel_rfl) ?_
 refine AT (AK (AU.id Room.fl.len Room.fl.one) rfl rfl rfl Q0 rfl .h) ?_
 refine BN rfl ⟨?_, ?_⟩
 · exact (Pk (Pk (Pk (Pk (Pk (Pk (Pk (Pk (Pk (Pk (Pk (Pk (Pk (Pk (Pk (Pk (Pk Aq)))))))))))))))))
 refine A4 (by kernel_rfl) ?_
 refine AB (.t3 0 1 4) ?_
 refine AA (Af (Gs (Gm rfl (Gt (Ah MM rfl) ?_))))
 refine Gt (AR SU rfl rfl (by first | omega | exact hb.1 | exact hb.2 | (dsimp only; omega)) (by first | omega | exact hb.1 | exact hb.2 | (dsimp only; omega))) ?_
 refine Gt (AG rfl A3 .m0 (Room.l2.comp (AU.ar (n := 6) Bv (by first | omega | exact hb | (dsimp only; omega)))) rfl rfl) ?_
 refine Gt (Ae rfl rfl) (Ga rfl (Gn (.t4 0 1 4 58) ?_))
 refine Gc (fun c1 => ?_) (fun c1 => ?_)
 ·
  have c1p := kz c1
  refine AJ (Gm rfl ?_)
  refine Ag rfl ED (.c rfl (.c rfl .n)) (.c (.t .h) (.c (.t .h) .n)) (Bc _ _ _ _ hg hb (by omega)) (fun v1 B hv => ?_)
  obtain ⟨y2, rfl, y3, rfl⟩ := hv
  refine AQ (AB (.nil _) ?_)
  refine AV ?_
  refine Bk rfl .n ?_
  intro w1 hS
  have hS := (hS.perm (Ax.perm (.c .h (.c .h .n)))).A1
  have hq : T.walk d = _ := (BB c1)
  refine ⟨_, ⟨?gq1, rfl, ?hl1, ?hB1⟩, hS⟩
  case hB1 => rw [hq]; (try rfl)
  case hl1 => rw [hq]; assumption
 have c1p := kz c1
 refine Gs (Gm rfl (Gt (Ah Mc rfl) ?_))
 refine Gt (AR VO rfl rfl (by first | omega | exact hb.1 | exact hb.2 | (dsimp only; omega)) (by first | omega | exact hb.1 | exact hb.2 | (dsimp only; omega))) ?_
 refine Gt (AG rfl Dj .m0 (Room.l3.comp (AU.ar (n := 6) HF (by first | omega | exact hb | (dsimp only; omega)))) rfl rfl) ?_
 refine Ga rfl (Gn (.t4 0 1 4 66) ?_)
 refine Gc (fun c2 => ?_) (fun c2 => ?_)
 ·
  have c2p := kz c2
  refine AJ (Gm rfl ?_)
  refine Ag rfl ED (.c rfl (.c rfl .n)) (.c (.t .h) (.c (.t .h) .n)) (Bc _ _ _ _ hg hb (by omega)) (fun v4 B hv => ?_)
  obtain ⟨y5, rfl, y6, rfl⟩ := hv
  refine AQ (AB (.nil _) ?_)
  refine AV ?_
  refine Bk rfl .n ?_
  intro w1 hS
  have hS := (hS.perm (Ax.perm (.c .h (.c .h .n)))).A1
  have hq : T.walk d = _ := ((AW c1).trans (BB c2))
  refine ⟨_, ⟨?gq2, rfl, ?hl2, ?hB2⟩, hS⟩
  case hB2 => rw [hq]; (try rfl)
  case hl2 => rw [hq]; assumption
 have c2p := kz c2
 have gm := AF.Od (hF.BO { AF.Fk 1 with dir := d }) (r := (T.w.BQ.at T.me.room).CM.at d - 1) (by have h0 : ¬ (T.w.BQ.at (T.w.AN.at T.b).room).CM.at d = 0 := c1p; show 0 ≤ (T.w.BQ.at (T.w.AN.at T.b).room).CM.at d - 1 ∧ (T.w.BQ.at (T.w.AN.at T.b).room).CM.at d - 1 < 6; omega)
 refine Gs (Gm rfl (Gm rfl (Gt (BC N9 IP rfl (.cons Ing.Event.l0 rfl rfl rfl (.cons Ing.Event.l3 rfl rfl rfl (.cons Ing.Event.l4 rfl rfl rfl .nil)))) ?_)))
 refine Ag rfl O9 (.c rfl (.c rfl .n)) (.c (.t .h) (.c (.t .h) .n)) (CL _ T _ { AF.Fk 1 with dir := d } hg hb (show (-1 : Int) < 6 by decide) (by omega)) (fun v7 B hv => ?_)
 obtain ⟨y8, rfl, y9, rfl⟩ := hv
 refine Gn (.t3 0 1 4) (Ao ?_)
 refine BE (N := 16) [0, 0, 2, 6, 14, 0, 0, 96, 224, 480, 1, 1025, 3073, 8191, 16383, 32767] mix (by kernel_rfl) rfl ?_
 refine Pf 0 rfl (AE rfl) (Pf 1 rfl (AE rfl) (Pf 2 rfl (BT rfl) (Pf 3 rfl (Ah CP rfl) (Pf 4 rfl (AG rfl A3 .m0 Ad.l1 rfl rfl) (Pf 5 rfl (AE rfl) (Pf 6 rfl (Ah MM rfl) ?_))))))
 refine Pf 7 rfl (AR SU rfl rfl (by first | omega | exact hb.1 | exact hb.2 | (dsimp only; omega)) (by first | omega | exact hb.1 | exact hb.2 | (dsimp only; omega))) ?_
 refine Pf 8 rfl (AG rfl A3 .m2 (Room.l2.comp (AU.ar (n := 6) Bv (by first | omega | exact hb | (dsimp only; omega)))) rfl rfl) ?_
 refine Pf 9 rfl (E3 rfl rfl (IntWalk.i64_in _ (by first | omega | exact hb.1 | exact hb.2 | (dsimp only; omega)))) ?_
 refine Pf 10 rfl (BT rfl) (Pf 11 rfl (Ah A9 rfl) (Pf 12 rfl (Ah Bn rfl) ?_))
 refine Pf 13 rfl (AR C6 rfl rfl (by first | omega | exact hb.1 | exact hb.2 | (dsimp only; omega)) (by first | omega | exact hb.1 | exact hb.2 | (dsimp only; omega))) ?_
 refine Pf 14 rfl (Ah C2 rfl) ?_
 refine An 15 rfl (by kernel_rfl) ?_
 refine AT (AK (((Ad.l0.comp AH.l2).comp (AU.ar (n := 6) Aj.fl (by first | omega | exact hb | (dsimp only; omega)))).comp Aj.l3) rfl rfl rfl C5 rfl .h) ?_
 refine BN rfl ⟨?_, ?_⟩
 · exact (Pk (Pk (Pk (Pk (Pk (Pk (Pk (Pk (Pk (Pk (Pk (Pk (Pk (Pk (Pk Aq)))))))))))))))
 refine A4 (by kernel_rfl) ?_
 refine AB (.t2 0 1) ?_
 refine AA (Ao ?_)
 refine BE (N := 11) [0, 0, 2, 6, 14, 1, 33, 97, 255, 511, 1023] mix (by kernel_rfl) rfl ?_
 refine Pf 0 rfl (AE rfl) (Pf 1 rfl (AE rfl) (Pf 2 rfl (BT rfl) (Pf 3 rfl (Ah CP rfl) (Pf 4 rfl (AG rfl A3 .m0 Ad.l1 rfl rfl) (Pf 5 rfl (BT rfl) (Pf 6 rfl (Ah A9 rfl) (Pf 7 rfl (Ah Bn rfl) ?_)))))))
 refine Pf 8 rfl (AR C6 rfl rfl (by first | omega | exact hb.1 | exact hb.2 | (dsimp only; omega)) (by first | omega | exact hb.1 | exact hb.2 | (dsimp only; omega))) ?_
 refine Pf 9 rfl (Ah GG rfl) ?_
 refine An 10 rfl (by kernel_rfl) ?_
 refine AT (AK (((Ad.l0.comp AH.l2).comp (AU.ar (n := 6) Aj.fl (by first | omega | exact hb | (dsimp only; omega)))).comp Aj.l5) rfl rfl rfl C5 rfl .h) ?_
 refine BN rfl ⟨?_, ?_⟩
 · exact (Pk (Pk (Pk (Pk (Pk (Pk (Pk (Pk (Pk (Pk Aq))))))))))
 refine A4 (by kernel_rfl) ?_
 refine AB (.t2 0 1) ?_
 refine AA (Ao ?_)
 refine GC (fun _ => .h) (congrArg (fun q => Ad.enc ⟨q, _, _⟩) (AF.Xj (T.BO { AF.Fk 1 with dir := d }) hb _)) ?_
 refine AJ (Gm rfl (Gm rfl ?_))
 refine BA rfl Yy (.c rfl .n) (fun w hS => HJ _ w) ?_
 refine Gt (BC N9 IP rfl (.cons Ing.Event.l0 rfl rfl rfl (.cons Ing.Event.l3 rfl rfl rfl (.cons Ing.Event.l4 rfl rfl rfl .nil)))) ?_
 refine Ag rfl O9 (.c rfl (.c rfl .n)) (.c .h (.c .h .n)) (CL _ (AF.F2 (T.BO { AF.Fk 1 with dir := d }) ((T.w.BQ.at T.me.room).CM.at d - 1)) _ { AF.Fk 2 with dir := AH.opposite d } (by assumption) hb (show (-1 : Int) < 6 by decide) (show (AF.out (T.BO { AF.Fk 1 with dir := d })).length ≤ 100000 by simp only [AF.Cb]; omega)) (fun v10 B hv => ?_)
 obtain ⟨y11, rfl, y12, rfl⟩ := hv
 refine Gn (.t1 0) (AJ (Gm rfl ?_))
 refine BF rfl Ua (.c rfl .n) (.c .h (.c .h .n)) (HD _ (AF.BO (AF.F2 (T.BO { AF.Fk 1 with dir := d }) ((T.w.BQ.at T.me.room).CM.at d - 1)) { AF.Fk 2 with dir := AH.opposite d }) _ (by assumption) hb gm.fit.br (show _ ≤ 90000 by simp only [AF.Cb]; show (AF.out (T.BO { AF.Fk 1 with dir := d })).length + 1 ≤ 90000; simp only [AF.Cb]; omega)) (fun w hS => gl0.pull gm0 hS (.c .h (.c .h .n))) (fun v13 B hv => ?_)
 obtain ⟨y14, rfl, y15, rfl⟩ := hv
 refine AQ (AB (.nil _) ?_)
 refine AV ?_
 refine Bk rfl .n ?_
 intro w1 hS
 have hS := (hS.perm (Ax.perm (.c .h (.c .h .n)))).A1
 have hq : T.walk d = _ := ((AW c1).trans (AW c2))
 refine ⟨_, ⟨?gq3, rfl, ?hl3, ?hB3⟩, hS⟩
 case hB3 => rw [hq]; (try rfl)
 case hl3 => rw [hq]; assumption
theorem H2 (b : Nat) (T : AF) (g : Hd) (hF : T.Fit) : JS Tryz.prog 136 #[.pointer (some ⟨b, 0, none⟩)] [Ac.box b 163 (Ad.enc ⟨T.w, T.b, g⟩)] (fun v B => ∃ f : Hd, v = f.val ∧ f.len = (T.own).length ∧ B = [Ac.box b 163 (Ad.enc ⟨T.w, T.b, g⟩), Ac.own f 3 1 ((T.own).flatMap Au)]) := by
 intro w hS0
 have hb := hF.b
 have hr := hF.room
 refine Al _ _ Tryz.func136 rfl rfl rfl (hS0) ?_
 refine Gs (Ga rfl (Gn (.t1 0) (Ao ?_)))
 refine BE (N := 10) [0, 1, 3, 7, 0, 16, 48, 112, 255, 511] mix (by kernel_rfl) rfl ?_
 refine Pf 0 rfl (AE rfl) (Pf 1 rfl (BT rfl) (Pf 2 rfl (Ah A9 rfl) (Pf 3 rfl (AZ rfl BW .m0 Ad.l0 rfl) (Pf 4 rfl (AE rfl) (Pf 5 rfl (BT rfl) (Pf 6 rfl (Ah CP rfl) (Pf 7 rfl (AG rfl A3 .m0 Ad.l1 rfl rfl) ?_)))))))
 refine An 8 rfl (by kernel_rfl) ?_
 refine Ag rfl SZ (.c rfl (.c rfl (.c rfl .n))) .n (FF _ _ _) (fun v1 B hv => ?_)
 obtain ⟨y2, rfl, y3, rfl⟩ := hv
 refine Bp rfl ⟨?_, ?_⟩
 · exact (Pk (Pk (Pk (Pk (Pk (Pk (Pk (Pk Aq))))))))
 refine Pf 9 rfl (A0 rfl) ?_
 refine A4 (by kernel_rfl) ?_
 refine AB (.t1 2) ?_
 refine AA (Ab ?_)
 refine AY rfl (.tmp rfl .n) ?_
 intro w1 hS
 have hS := (hS.perm (Ax.perm (.c (.t .h) (.c .h .n)))).A1
 exact ⟨_, ⟨_, rfl, by assumption, rfl⟩, hS⟩
theorem Li (b : Nat) (T : AF) (g : Hd) (hF : T.Fit) : JS Tryz.prog 125 #[.pointer (some ⟨b, 0, none⟩)] [Ac.box b 163 (Ad.enc ⟨T.w, T.b, g⟩)] (fun v B => ∃ F : AH, F = T.E4.w ∧ v = .tuple #[] ∧ B = [Ac.box b 163 (Ad.enc ⟨F, T.b, g⟩)]) := by
 intro w hS0
 have hb := hF.b
 have hr := hF.room
 have ho9 := T.KN
 refine Al _ _ Tryz.func125 rfl rfl rfl (hS0) ?_
 refine CG (Gm rfl ?_)
 refine Ag rfl UX (.c rfl .n) (.c .h .n) (H2 _ _ _ (by first | assumption | omega)) (fun v1 B hv => ?_)
 obtain ⟨y2, rfl, y3, rfl⟩ := hv
 refine Gt (Ar rfl Tryz.underlying169 rfl) (Gm rfl (Gn (.t4 0 7 8 9) (Af ?_)))
 refine Bo (.t4 9 0 7 8) ?_
 refine Gk (fun (k : Int) (X : AF) => 0 ≤ k ∧ T.Ca T.own = X.Ca (T.own.drop k.toNat) ∧ X.b = T.b ∧ k ≤ (T.own.length : Int)) (fun (k : Int) (X : AF) => ((T.own.length : Int) - k).toNat) (fun (k : Int) (X : AF) => [(9, .int .i64 k)]) (fun (k : Int) (X : AF) => [Ac.box b 163 (Ad.enc ⟨X.w, X.b, g⟩)]) (0) (_) ?_ rfl rfl (fun k X hI1 => ?_)
 · exact ⟨by omega, rfl, rfl, by omega⟩
 obtain ⟨hI11, hI12, hI13, hI14⟩ := hI1
 refine Gs (Gt (A8 rfl rfl) (AQ (AA (Ao ?_))))
 refine Gc (fun c1 => ?_) (fun c1 => ?_)
 ·
  have c1p := kz c1
  have hx := AF.Ld (Bb.Ep (xs := T.own) (i := k.toNat) (by omega))
  refine Aa ?_
  refine AB (.t4 0 7 8 9) ?_
  refine AA (Ao (Af (Gs ?_)))
  refine Gt (Br GW (by decide) (Kn.own .m1) rfl rfl (by omega) (by omega)) ?_
  refine Gt (DH rfl A3 (Kn.own .m1) (by omega)) ?_
  refine Ga rfl (Gn (.t5 0 3 7 8 9) (Gs (Gm rfl (Gm rfl (Gt (BT rfl) (Gt (Ah A9 rfl) (Gt (Ah Cw rfl) ?_)))))))
  refine Gt (AR GA rfl rfl (by first | omega | (rw [hI13]; first | exact hb.1 | exact hb.2) | (dsimp only; omega)) (by first | omega | (rw [hI13]; first | exact hb.1 | exact hb.2) | (dsimp only; omega))) ?_
  refine Ga rfl (Gn (.t5 0 4 7 8 9) (CG (Gm rfl (Gt (BT rfl) (Gt (Ah Gy rfl) ?_)))))
  refine Gt (AG rfl A3 .m0 (((Ad.l0.comp AH.l1).comp (AU.arr (n := 9) Ak.fl (by first | omega | (rw [hI13]; first | exact hb.1 | exact hb.2) | (dsimp only; omega)) (by first | omega | (rw [hI13]; first | exact hb.1 | exact hb.2) | (dsimp only; omega)))).comp Ak.l1) rfl rfl) ?_
  refine Gt (Ae rfl rfl) (Gn (.t6 0 4 7 8 9 23) ?_)
  refine Gc (fun c2 => ?_) (fun c2 => ?_)
  ·
   have c2p := kz c2
   refine AJ (Gm rfl (Gt (BT rfl) (Gt (Ah F5 rfl) ?_)))
   refine AT (AK (((Ad.l0.comp AH.l1).comp (AU.arr (n := 9) Ak.fl (by first | omega | (rw [hI13]; first | exact hb.1 | exact hb.2) | (dsimp only; omega)) (by first | omega | (rw [hI13]; first | exact hb.1 | exact hb.2) | (dsimp only; omega)))).comp Ak.l4) rfl rfl rfl KX rfl .h) ?_
   refine Gn (.t5 0 4 7 8 9) ?_
   refine BE (N := 19) [0, 0, 0, 0, 8, 24, 56, 4, 132, 388, 1020, 2044, 4092, 8189, 16381, 32765, 65535, 131071, 262143] mix (by kernel_rfl) rfl ?_
   refine Pf 0 rfl (AE rfl) (Pf 1 rfl (AE rfl) (Pf 2 rfl (AE rfl) (Pf 3 rfl (AE rfl) (Pf 4 rfl (BT rfl) (Pf 5 rfl (Ah CP rfl) (Pf 6 rfl (AG rfl A3 .m0 Ad.l1 rfl rfl) (Pf 7 rfl (BT rfl) ?_)))))))
   refine Pf 8 rfl (Ah A9 rfl) (Pf 9 rfl (Ah Bn rfl) ?_)
   refine Pf 10 rfl (AR C6 rfl rfl (by first | omega | (rw [hI13]; first | exact hb.1 | exact hb.2) | (dsimp only; omega)) (by first | omega | (rw [hI13]; first | exact hb.1 | exact hb.2) | (dsimp only; omega))) ?_
   refine Pf 11 rfl (Ah C2 rfl) ?_
   refine Pf 12 rfl (AG rfl A3 .m0 (((Ad.l0.comp AH.l2).comp (AU.arr (n := 6) Aj.fl (by first | omega | (rw [hI13]; first | exact hb.1 | exact hb.2) | (dsimp only; omega)) (by first | omega | (rw [hI13]; first | exact hb.1 | exact hb.2) | (dsimp only; omega)))).comp Aj.l3) rfl rfl) ?_
   refine Pf 13 rfl (BT rfl) (Pf 14 rfl (Ah FU rfl) ?_)
   refine An 15 rfl (by kernel_rfl) ?_
   refine AT (AK (((Ad.l0.comp AH.l1).comp (AU.arr (n := 9) Ak.fl (by first | omega | (rw [hI13]; first | exact hb.1 | exact hb.2) | (dsimp only; omega)) (by first | omega | (rw [hI13]; first | exact hb.1 | exact hb.2) | (dsimp only; omega)))).comp Ak.l2) rfl rfl rfl C5 rfl .h) ?_
   refine BN rfl ⟨?_, ?_⟩
   · exact (Pk (Pk (Pk (Pk (Pk (Pk (Pk (Pk (Pk (Pk (Pk (Pk (Pk (Po rfl (AE rfl) rfl rfl (Pk Aq)))))))))))))))
   refine Pf 16 rfl (BT rfl) (Pf 17 rfl (Ah DF rfl) ?_)
   refine An 18 rfl (by kernel_rfl) ?_
   refine AT (AK (((Ad.l0.comp AH.l1).comp (AU.arr (n := 9) Ak.fl (by first | omega | (rw [hI13]; first | exact hb.1 | exact hb.2) | (dsimp only; omega)) (by first | omega | (rw [hI13]; first | exact hb.1 | exact hb.2) | (dsimp only; omega)))).comp Ak.l3) rfl rfl rfl C5 rfl .h) ?_
   refine BN rfl ⟨?_, ?_⟩
   · exact (Pk (Pk (Pk (Pk (Pk (Pk (Pk (Pk (Pk (Pk (Pk (Pk (Pk (Pk (Pk (Pk (Pk Aq)))))))))))))))))
   refine A4 (by kernel_rfl) ?_
   refine AB (.t4 0 7 8 9) ?_
   refine AV (AA ?_)
   refine GC (fun _ => .h) (congrArg (fun q => Ad.enc ⟨q, _, _⟩) (AF.VL X hx.1 hx.2 c2)) ?_
   refine AJ ?_
   refine Gt (Av rfl rfl (IntWalk.i64_in _ (by first | omega | (rw [hI13]; first | exact hb.1 | exact hb.2) | (dsimp only; omega)))) ?_
   refine Gm rfl ?_
   refine AQ (AB (.t4 0 7 8 9) ?_)
   refine Cq (k + 1) _ ?_ ?_ (.t4 9 0 7 8) (.refl _)
   · exact ⟨by omega, by rw [hI12, AF.L1 hI11 (by omega)], hI13, by omega⟩
   · omega
  have c2p := kz c2
  refine Aa ?_
  refine AB (.t5 0 4 7 8 9) ?_
  refine AA ?_
  refine BE (N := 19) [0, 0, 0, 0, 8, 24, 56, 4, 132, 388, 1020, 2044, 4092, 8189, 16381, 32765, 65535, 131071, 262143] mix (by kernel_rfl) rfl ?_
  refine Pf 0 rfl (AE rfl) (Pf 1 rfl (AE rfl) (Pf 2 rfl (AE rfl) (Pf 3 rfl (AE rfl) (Pf 4 rfl (BT rfl) (Pf 5 rfl (Ah CP rfl) (Pf 6 rfl (AG rfl A3 .m0 Ad.l1 rfl rfl) (Pf 7 rfl (BT rfl) ?_)))))))
  refine Pf 8 rfl (Ah A9 rfl) (Pf 9 rfl (Ah Bn rfl) ?_)
  refine Pf 10 rfl (AR C6 rfl rfl (by first | omega | (rw [hI13]; first | exact hb.1 | exact hb.2) | (dsimp only; omega)) (by first | omega | (rw [hI13]; first | exact hb.1 | exact hb.2) | (dsimp only; omega))) ?_
  refine Pf 11 rfl (Ah C2 rfl) ?_
  refine Pf 12 rfl (AG rfl A3 .m0 (((Ad.l0.comp AH.l2).comp (AU.arr (n := 6) Aj.fl (by first | omega | (rw [hI13]; first | exact hb.1 | exact hb.2) | (dsimp only; omega)) (by first | omega | (rw [hI13]; first | exact hb.1 | exact hb.2) | (dsimp only; omega)))).comp Aj.l3) rfl rfl) ?_
  refine Pf 13 rfl (BT rfl) (Pf 14 rfl (Ah FU rfl) ?_)
  refine An 15 rfl (by kernel_rfl) ?_
  refine AT (AK (((Ad.l0.comp AH.l1).comp (AU.arr (n := 9) Ak.fl (by first | omega | (rw [hI13]; first | exact hb.1 | exact hb.2) | (dsimp only; omega)) (by first | omega | (rw [hI13]; first | exact hb.1 | exact hb.2) | (dsimp only; omega)))).comp Ak.l2) rfl rfl rfl C5 rfl .h) ?_
  refine BN rfl ⟨?_, ?_⟩
  · exact (Pk (Pk (Pk (Pk (Pk (Pk (Pk (Pk (Pk (Pk (Pk (Pk (Pk (Po rfl (AE rfl) rfl rfl (Pk Aq)))))))))))))))
  refine Pf 16 rfl (BT rfl) (Pf 17 rfl (Ah DF rfl) ?_)
  refine An 18 rfl (by kernel_rfl) ?_
  refine AT (AK (((Ad.l0.comp AH.l1).comp (AU.arr (n := 9) Ak.fl (by first | omega | (rw [hI13]; first | exact hb.1 | exact hb.2) | (dsimp only; omega)) (by first | omega | (rw [hI13]; first | exact hb.1 | exact hb.2) | (dsimp only; omega)))).comp Ak.l3) rfl rfl rfl C5 rfl .h) ?_
  refine BN rfl ⟨?_, ?_⟩
  · exact (Pk (Pk (Pk (Pk (Pk (Pk (Pk (Pk (Pk (Pk (Pk (Pk (Pk (Pk (Pk (Pk (Pk Aq)))))))))))))))))
  refine A4 (by kernel_rfl) ?_
  refine AB (.t4 0 7 8 9) ?_
  refine AV (AA ?_)
  refine GC (fun _ => .h) (congrArg (fun q => Ad.enc ⟨q, _, _⟩) (AF.Vy X hx.1 hx.2 c2)) ?_
  refine AJ ?_
  refine Gt (Av rfl rfl (IntWalk.i64_in _ (by first | omega | (rw [hI13]; first | exact hb.1 | exact hb.2) | (dsimp only; omega)))) ?_
  refine Gm rfl ?_
  refine AQ (AB (.t4 0 7 8 9) ?_)
  refine Cq (k + 1) _ ?_ ?_ (.t4 9 0 7 8) (.refl _)
  · exact ⟨by omega, by rw [hI12, AF.L1 hI11 (by omega)], hI13, by omega⟩
  · omega
 have c1p := kz c1
 obtain rfl : k = (T.own.length : Int) := by omega
 rw [AF.JX] at hI12
 have hY : X = T.Ca T.own := hI12.symm
 refine Bf (AX (AX (Ai ?_)))
 refine AB (.t1 0) ?_
 refine AA (CG (Gm rfl (AQ (AA (Af ?_)))))
 refine Bo (.t2 45 0) ?_
 refine Gk (fun (k : Int) (Y : AF) => 0 ≤ k ∧ k ≤ 6 ∧ Y = (T.Ca T.own).DP k.toNat ∧ Y.b = T.b) (fun (k : Int) (Y : AF) => (6 - k).toNat) (fun (k : Int) (Y : AF) => [(45, .int .i64 k)]) (fun (k : Int) (Y : AF) => [Ac.box b 163 (Ad.enc ⟨Y.w, Y.b, g⟩)]) (0) (_) ?_ rfl rfl (fun k Y hI2 => ?_)
 · exact ⟨by omega, by omega, hY, hI13⟩
 obtain ⟨hI21, hI22, hI23, hI24⟩ := hI2
 refine Gs (Gt (A8 rfl rfl) (AQ (AA (Ao ?_))))
 refine Gc (fun c3 => ?_) (fun c3 => ?_)
 ·
  have c3p := kz c3
  refine Aa ?_
  refine AB (.t2 0 45) ?_
  refine AA (Ao (Af (Gs (Gm rfl (Ga rfl (Gn (.t3 0 5 45) (Ao ?_)))))))
  refine BE (N := 14) [0, 0, 1, 5, 13, 31, 63, 127, 0, 256, 768, 1792, 3840, 8191] mix (by kernel_rfl) rfl ?_
  refine Pf 0 rfl (AE rfl) (Pf 1 rfl (AE rfl) (Pf 2 rfl (BT rfl) (Pf 3 rfl (Ah A9 rfl) (Pf 4 rfl (Ah Bn rfl) ?_))))
  refine Pf 5 rfl (AR C6 rfl rfl (by first | omega | (rw [hI13]; first | exact hb.1 | exact hb.2) | (dsimp only; omega)) (by first | omega | (rw [hI13]; first | exact hb.1 | exact hb.2) | (dsimp only; omega))) ?_
  refine Pf 6 rfl (Ah GG rfl) ?_
  refine Pf 7 rfl (AG rfl A3 .m0 (((Ad.l0.comp AH.l2).comp (AU.arr (n := 6) Aj.fl (by first | omega | (rw [hI13]; first | exact hb.1 | exact hb.2) | (dsimp only; omega)) (by first | omega | (rw [hI13]; first | exact hb.1 | exact hb.2) | (dsimp only; omega)))).comp Aj.l5) rfl rfl) ?_
  refine Pf 8 rfl (AE rfl) (Pf 9 rfl (BT rfl) (Pf 10 rfl (Ah CP rfl) (Pf 11 rfl (AG rfl A3 .m0 Ad.l1 rfl rfl) ?_)))
  refine Pf 12 rfl (Av rfl rfl (IntWalk.i64_in _ (by first | omega | (rw [hI13]; first | exact hb.1 | exact hb.2) | (dsimp only; omega)))) ?_
  refine Pf 13 rfl (Ae rfl rfl) ?_
  refine A4 (by kernel_rfl) ?_
  refine AB (.t4 0 5 45 61) ?_
  refine AA ?_
  refine Gc (fun c4 => ?_) (fun c4 => ?_)
  ·
   have c4p := kz c4
   have hcb : decide ((Y.w.AN.at k).B0 = (T.Ca T.own).b + 1) = true := by rw [(AF.IX T.own T).1, ← hI24]; exact c4
   refine AJ (Gm rfl (Gm rfl (Gt (BT rfl) (Gt (Ah A9 rfl) (Gt (Ah Bn rfl) ?_)))))
   refine Gt (AR C6 rfl rfl (by first | omega | (rw [hI13]; first | exact hb.1 | exact hb.2) | (dsimp only; omega)) (by first | omega | (rw [hI13]; first | exact hb.1 | exact hb.2) | (dsimp only; omega))) ?_
   refine Gt (Ah GG rfl) ?_
   refine AT (AK (((Ad.l0.comp AH.l2).comp (AU.arr (n := 6) Aj.fl (by first | omega | (rw [hI13]; first | exact hb.1 | exact hb.2) | (dsimp only; omega)) (by first | omega | (rw [hI13]; first | exact hb.1 | exact hb.2) | (dsimp only; omega)))).comp Aj.l5) rfl rfl rfl C5 rfl .h) ?_
   refine AQ (AB (.t2 0 45) ?_)
   refine AV (AA (AJ ?_))
   refine Gt (Av rfl rfl (IntWalk.i64_in _ (by first | omega | (rw [hI13]; first | exact hb.1 | exact hb.2) | (dsimp only; omega)))) ?_
   refine Gm rfl ?_
   refine AQ (AB (.t2 0 45) ?_)
   refine Cq (k + 1) (Y.Ch k 0) ?_ ?_ (.t2 45 0) (.refl _)
   · exact ⟨by omega, by omega, by rw [AF.NW hI21, ← hI23, BB hcb], hI24⟩
   · omega
  have c4p := kz c4
  have hcb : decide ((Y.w.AN.at k).B0 = (T.Ca T.own).b + 1) = false := by rw [(AF.IX T.own T).1, ← hI24]; exact c4
  refine Aa ?_
  refine AB (.t2 0 45) ?_
  refine AV (AA (AJ ?_))
  refine Gt (Av rfl rfl (IntWalk.i64_in _ (by first | omega | (rw [hI13]; first | exact hb.1 | exact hb.2) | (dsimp only; omega)))) ?_
  refine Gm rfl ?_
  refine AQ (AB (.t2 0 45) ?_)
  refine Cq (k + 1) (Y) ?_ ?_ (.t2 45 0) (.refl _)
  · exact ⟨by omega, by omega, by rw [AF.NW hI21, ← hI23, AW hcb], hI24⟩
  · omega
 have c3p := kz c3
 obtain rfl : k = 6 := by omega
 refine Bf (AX (AX (Ai ?_)))
 refine AB (.t1 0) ?_
 refine AA ?_
 refine BE (N := 11) [0, 0, 2, 6, 14, 1, 33, 97, 255, 511, 1023] mix (by kernel_rfl) rfl ?_
 refine Pf 0 rfl (AE rfl) (Pf 1 rfl (AE rfl) (Pf 2 rfl (BT rfl) (Pf 3 rfl (Ah CP rfl) (Pf 4 rfl (AG rfl A3 .m0 Ad.l1 rfl rfl) (Pf 5 rfl (BT rfl) (Pf 6 rfl (Ah A9 rfl) (Pf 7 rfl (Ah Bn rfl) ?_)))))))
 refine Pf 8 rfl (AR C6 rfl rfl (by first | omega | (rw [hI13]; first | exact hb.1 | exact hb.2) | (dsimp only; omega)) (by first | omega | (rw [hI13]; first | exact hb.1 | exact hb.2) | (dsimp only; omega))) ?_
 refine Pf 9 rfl (Ah GG rfl) ?_
 refine An 10 rfl (by kernel_rfl) ?_
 refine AT (AK (((Ad.l0.comp AH.l2).comp (AU.arr (n := 6) Aj.fl (by first | omega | (rw [hI13]; first | exact hb.1 | exact hb.2) | (dsimp only; omega)) (by first | omega | (rw [hI13]; first | exact hb.1 | exact hb.2) | (dsimp only; omega)))).comp Aj.l5) rfl rfl rfl C5 rfl .h) ?_
 refine BN rfl ⟨?_, ?_⟩
 · exact (Pk (Pk (Pk (Pk (Pk (Pk (Pk (Pk (Pk (Pk Aq))))))))))
 refine A4 (by kernel_rfl) ?_
 refine Bk rfl .n ?_
 intro w1 hS
 have hS := (hS.perm (Ax.perm (.c .h .n))).A1
 have hq : T.E4 = Y.Ch Y.b 0 := by rw [hI24, hI23]; unfold AF.E4; rfl
 exact ⟨_, ⟨_, rfl, rfl, by rw [hq, ← hI24]; rfl⟩, hS⟩
theorem Q5 (b : Nat) (T : AF) (g : Hd) (hg : g.len = T.out.length) (hF : T.Fit) (hn : T.out.length ≤ 90000) : JS Tryz.prog 103 #[.pointer (some ⟨b, 0, none⟩)] [Ac.box b 163 (Ad.enc ⟨T.w, T.b, g⟩), Ac.own g 56 16 (T.out.flatMap Ing.Event.enc)] (fun v B => ∃ g' : Hd, v = .tuple #[] ∧ g'.len = (T.Ge).out.length ∧ B = [Ac.box b 163 (Ad.enc ⟨(T.Ge).w, (T.Ge).b, g'⟩), Ac.own g' 56 16 ((T.Ge).out.flatMap Ing.Event.enc)]) := by
 intro w hS0
 have hb := hF.b
 have hr := hF.room
 refine Al _ _ Tryz.func103 rfl rfl rfl (hS0) ?_
 refine Gs (Gm rfl ?_)
 refine Ag rfl UD (.c rfl (.c rfl .n)) (.c .h (.c .h .n)) (GO _ T _ 18 hg hb (by omega)) (fun v1 B hv => ?_)
 obtain ⟨y2, rfl, y3, rfl⟩ := hv
 refine Gn (.t1 0) (Gs (Gm rfl ?_))
 refine Ag rfl ZQ (.c rfl .n) (.c .h .n) (Li _ (T.kind 18) _ (hF.Ed rfl rfl)) (fun v4 B hv => ?_)
 obtain ⟨y5, y6, rfl, rfl⟩ := hv
 refine Gn (.t1 0) ?_
 refine BE (N := 11) [0, 0, 2, 6, 14, 0, 1, 65, 193, 511, 1023] mix (by kernel_rfl) rfl ?_
 refine Pf 0 rfl (AE rfl) (Pf 1 rfl (AE rfl) (Pf 2 rfl (BT rfl) (Pf 3 rfl (Ah CP rfl) (Pf 4 rfl (AG rfl A3 .m0 Ad.l1 rfl rfl) (Pf 5 rfl (BC Wt Lw rfl .nil) (Pf 6 rfl (BT rfl) (Pf 7 rfl (Ah A9 rfl) ?_)))))))
 refine Pf 8 rfl (Ah Bn rfl) ?_
 refine Pf 9 rfl (AR C6 rfl rfl (by first | exact hb.1 | exact hb.2 | omega | (dsimp only; omega)) (by first | exact hb.1 | exact hb.2 | omega | (dsimp only; omega))) ?_
 refine An 10 rfl (by kernel_rfl) ?_
 refine AT (AK ((Ad.l0.comp AH.l2).comp (AU.arr (n := 6) Aj.fl (by first | exact hb.1 | exact hb.2 | omega | (dsimp only; omega)) (by first | exact hb.1 | exact hb.2 | omega | (dsimp only; omega)))) rfl rfl rfl KQ rfl .h) ?_
 refine BN rfl ⟨?_, ?_⟩
 · exact (Pk (Pk (Pk (Pk (Pk (Pk (Pk (Pk (Pk (Pk Aq))))))))))
 refine A4 (by kernel_rfl) ?_
 refine Bk rfl .n ?_
 intro w1 hS
 have hS := (hS.perm (Ax.perm (.c .h (.c .h .n)))).A1
 obtain ⟨hf1, hf2, hf3⟩ := T.Nf
 refine ⟨_, ⟨?gq, rfl, ?hl, ?hB⟩, hS⟩
 case hB => rw [hf1, hf2, hf3, ← y6]
 case hl => rw [hf2]; exact y3
theorem Io (b : Nat) (T : AF) (g : Hd) (u : Ap) (hg : g.len = T.out.length) (hF : T.Fit) (hu : u.length ≤ 5000000) (hn : T.out.length ≤ 99000) : FL Tryz.prog 131 #[.pointer (some ⟨b, 0, none⟩), BS u] [Ac.box b 163 (Ad.enc ⟨T.w, T.b, g⟩), Ac.own g 56 16 (T.out.flatMap Ing.Event.enc)] (fun w => (Gl 7 w ∧ 7 ∉ Cd [Ac.box b 163 (Ad.enc ⟨T.w, T.b, g⟩), Ac.own g 56 16 (T.out.flatMap Ing.Event.enc)]) ∧ (Gl 8 w ∧ 8 ∉ Cd [Ac.box b 163 (Ad.enc ⟨T.w, T.b, g⟩), Ac.own g 56 16 (T.out.flatMap Ing.Event.enc)])) (fun v B => ∃ g' : Hd, v = .tuple #[.int .i64 (T.A6 u).2.1, .bool (T.A6 u).2.2] ∧ g'.len = ((T.A6 u).1).out.length ∧ B = [Ac.box b 163 (Ad.enc ⟨((T.A6 u).1).w, ((T.A6 u).1).b, g'⟩), Ac.own g' 56 16 (((T.A6 u).1).out.flatMap Ing.Event.enc)]) := by
 intro w hS0 hH
 obtain ⟨⟨gl0, gm0⟩, ⟨gl1, gm1⟩⟩ := hH
 have hb := hF.b
 have hr := hF.room
 refine Al _ _ Tryz.func131 rfl rfl rfl (hS0) ?_
 refine Gs (Ga rfl (Ga rfl (Gn (.t2 0 1) (Gs (Gm rfl ?_)))))
 refine BA rfl Up (.c rfl .n) (fun w hS => FJ _ (by first | assumption | omega) w (gl0.stM gm0 hS) (gl1.stM gm1 hS)) ?_
 refine Gm rfl (Gt (AM rfl rfl) (Gt (AM rfl rfl) (Gt (AM rfl rfl) (Gt (AM rfl rfl) (Ga rfl (Ga rfl (Ga rfl ?_)))))))
 refine Ga rfl (Gn (.t5 0 6 7 8 9) (CG (Gm rfl (Gt (Ae rfl rfl) (Gm rfl (Bi 20 rfl rfl (fun q => AE rfl) (Bi 20 rfl rfl (fun q => BV (Bh rfl q)) ?_)))))))
 refine Gt (BK rfl rfl (fun h => h)) (Gn (.t4 0 6 7 23) ?_)
 refine Gc (fun c1 => ?_) (fun c1 => ?_)
 ·
  have c1p := kz c1
  have hnf := Words.VI u (of_decide_eq_true (Bool.and_eq_true_iff.1 c1).1)
  refine Gs (Gm rfl (Gn (.t4 0 6 7 24) (Af ?_)))
  refine Bo (.t4 6 24 0 7) ?_
  refine Gk (fun (k : Int) (n : Int) => 0 ≤ k ∧ k ≤ 6 ∧ T.IV (Words.EF u).2.1 6 (Words.EF u).1 = T.IV (Words.EF u).2.1 (6 - k).toNat n ∧ -k ≤ n ∧ n ≤ 99) (fun (k : Int) (n : Int) => (6 - k).toNat) (fun (k : Int) (n : Int) => [(6, .int .i64 n), (24, .int .i64 k)]) (fun (k : Int) (n : Int) => []) (0) (_) ?_ rfl rfl (fun k n hI1 => ?_)
  · exact ⟨by omega, by omega, rfl, by omega, by omega⟩
  obtain ⟨hI11, hI12, hI13, hI14, hI15⟩ := hI1
  refine Gs (Gt (A8 rfl rfl) (AQ (AA (Ao ?_))))
  refine Gc (fun c2 => ?_) (fun c2 => ?_)
  ·
   have c2p := kz c2
   refine Aa ?_
   refine AB (.t4 0 6 7 24) ?_
   refine AA (Ao (Af (Gs (Gm rfl (Ga rfl (Gn (.t5 0 6 7 10 24) (Ao ?_)))))))
   refine Ao ?_
   refine BE (N := 31) [0, 0, 2, 6, 14, 31, 63, 127, 127, 255, 767, 1791, 4095, 8191, 16383, 127, 65535, 131071, 262143, 524287, 1048575, 2097151, 4194303, 524287, 8912895, 25690111, 59244543, 524287, 268435455, 536870911, 1073741823] mix (by kernel_rfl) rfl ?_
   refine Pf 0 rfl (AE rfl) (Pf 1 rfl (AE rfl) (Pf 2 rfl (BT rfl) (Pf 3 rfl (Ah CP rfl) (Pf 4 rfl (AG rfl A3 .m0 Ad.l1 rfl rfl) (Pf 5 rfl (Ae rfl rfl) (Pf 6 rfl (AE rfl) (Hf 7 33 rfl rfl rfl (fun q => AE rfl) ?_)))))))
   refine Hf 8 33 rfl rfl rfl (fun q => AE rfl) (Hf 9 33 rfl rfl rfl (fun q => BT (cF rfl q)) (Hf 10 33 rfl rfl rfl (fun q => Ah A9 (cF rfl q)) (Hf 11 33 rfl rfl rfl (fun q => Ah Bn (cF rfl q)) ?_)))
   refine BZ 12 rfl rfl (by kernel_rfl) (G2 (t := 33) rfl rfl (fun q => by have q1 := q; (try simp at q1); exact IT (AR C6 (cF rfl q) (cF rfl q) (by first | omega | exact hb.1 | exact hb.2 | (dsimp only; omega)) (by first | omega | exact hb.1 | exact hb.2 | (dsimp only; omega))))) ?_
   refine Hf 13 33 rfl rfl rfl (fun q => Ah K1 (cF rfl q)) ?_
   refine BZ 14 rfl rfl (by kernel_rfl) (G2 (t := 33) rfl rfl (fun q => by have q1 := q; (try simp at q1); exact IT (AG (cF rfl q) CV .m0 (((Ad.l0.comp AH.l2).comp (AU.ar (n := 6) Aj.fl (by first | omega | exact hb | (dsimp only; omega)))).comp Aj.l0) rfl rfl))) ?_
   refine Hf 15 33 rfl rfl rfl (fun q => AE rfl) (Hf 16 33 rfl rfl rfl (fun q => Dv (cF rfl q) (cF rfl q)) ?_)
   refine Pf 17 rfl (BR rfl rfl (fun h => by rw [h]; rfl)) ?_
   refine Pf 18 rfl (AE rfl) (Hf 19 45 rfl rfl rfl (fun q => AE rfl) (Hf 20 45 rfl rfl rfl (fun q => BT (cF rfl q)) (Hf 21 45 rfl rfl rfl (fun q => Ah A9 (cF rfl q)) (Hf 22 45 rfl rfl rfl (fun q => AZ (cF rfl q) BW .m0 Ad.l0 rfl) (Hf 23 45 rfl rfl rfl (fun q => AE rfl) (Hf 24 45 rfl rfl rfl (fun q => BT (cF rfl q)) (Hf 25 45 rfl rfl rfl (fun q => Ah CP (cF rfl q)) ?_)))))))
   refine Hf 26 45 rfl rfl rfl (fun q => AG (cF rfl q) A3 .m0 Ad.l1 rfl rfl) (Hf 27 45 rfl rfl rfl (fun q => AE rfl) ?_)
   refine BZ 28 rfl rfl (by kernel_rfl) (G2 (t := 45) rfl rfl (fun q => by have q1 := q; (try simp at q1); exact K9 (D7 Nu (.c (cF rfl q) (.c (cF rfl q) (.c (cF rfl q) .n))) (fun w hS => DN _ _ _ w)))) ?_
   refine Hf 29 45 rfl rfl rfl (fun q => BV (cF rfl q)) ?_
   refine Pf 30 rfl (BR rfl rfl (fun h => by rw [h]; rfl)) ?_
   refine A4 (by kernel_rfl) ?_
   refine AB (.t6 0 6 7 10 24 57) ?_
   refine AA ?_
   refine Gc (fun c3 => ?_) (fun c3 => ?_)
   ·
    have c3p := kz c3
    refine Bf (AX (Ai ?_))
    refine AB (.t4 0 6 7 24) ?_
    refine AA (AJ ?_)
    refine Gt (Av rfl rfl (IntWalk.i64_in _ (by first | omega | exact hb.1 | exact hb.2 | (dsimp only; omega)))) ?_
    refine Gm rfl ?_
    refine AQ (AB (.t4 0 6 7 24) ?_)
    refine Cq (k + 1) (n) ?_ ?_ (.t4 6 24 0 7) (.refl _)
    · exact ⟨by omega, by omega, by rw [hI13, AF.Kp hI11 (by omega), BB c3], by omega, by omega⟩
    · omega
   have c3p := kz c3
   refine Aa ?_
   refine AB (.t5 0 6 7 10 24) ?_
   refine AA (Gs (Gm rfl ?_))
   refine Gt (E3 rfl rfl (IntWalk.i64_in _ (by first | omega | exact hb.1 | exact hb.2 | (dsimp only; omega)))) ?_
   refine Ga rfl (Gn (.t5 0 6 7 10 24) (Gs (Gm rfl (Gt (Ae rfl rfl) (Gn (.t6 0 6 7 10 24 61) ?_)))))
   refine Gc (fun c4 => ?_) (fun c4 => ?_)
   ·
    have c4p := kz c4
    refine Gs (Gm rfl (Ga rfl (Ga rfl (Gn (.t2 4 5) (Ab (AS (AD ?_)))))))
    refine AD (AS (AD ?_))
    refine AY rfl (.tmp rfl (.tmp rfl .n)) ?_
    intro w1 hS
    have hS := (hS.perm (Ax.perm (.c .h (.c .h .n)))).A1
    have hs : T.IV (Words.EF u).2.1 6 (Words.EF u).1 = some k := by rw [hI13, AF.Kp hI11 (by omega), AW c3, BB c4]
    have hq : T.A6 u = (T, k, true) := (show T.A6 u = _ from BB c1).trans (by simp only [hs])
    refine ⟨_, ⟨?gq1, ?hv1, ?hl1, ?hB1⟩, hS⟩
    case hB1 => rw [hq]; (try rfl)
    case hv1 => rw [hq]; (try rfl)
    case hl1 => rw [hq]; assumption
   have c4p := kz c4
   refine Aa ?_
   refine AB (.t4 0 6 7 24) ?_
   refine AV (AA (AJ ?_))
   refine Gt (Av rfl rfl (IntWalk.i64_in _ (by first | omega | exact hb.1 | exact hb.2 | (dsimp only; omega)))) ?_
   refine Gm rfl ?_
   refine AQ (AB (.t4 0 6 7 24) ?_)
   refine Cq (k + 1) (n - 1) ?_ ?_ (.t4 6 24 0 7) (.refl _)
   · exact ⟨by omega, by omega, by rw [hI13, AF.Kp hI11 (by omega), AW c3, AW c4], by omega, by omega⟩
   · omega
  have c2p := kz c2
  obtain rfl : k = 6 := by omega
  refine Bf (AX (AX (Ai ?_)))
  refine AB (.t1 0) ?_
  refine AA (Gs (Gm rfl ?_))
  refine Ag rfl ED (.c rfl (.c rfl .n)) (.c .h (.c .h .n)) (Bc _ _ _ _ hg hb (by omega)) (fun v1 B hv => ?_)
  obtain ⟨y2, rfl, y3, rfl⟩ := hv
  refine Gn (.nil _) (Gs (Ga rfl (Ga rfl (AQ (AA (Ab ?_))))))
  refine AY rfl (.tmp rfl (.tmp rfl .n)) ?_
  intro w1 hS
  have hS := (hS.perm (Ax.perm (.c .h (.c .h .n)))).A1
  have hs : T.IV (Words.EF u).2.1 6 (Words.EF u).1 = none := by rw [hI13]; rfl
  have hq : T.A6 u = (T.tell AF.Nt, 0, false) := (show T.A6 u = _ from BB c1).trans (by simp only [hs])
  refine ⟨_, ⟨?gq2, ?hv2, ?hl2, ?hB2⟩, hS⟩
  case hB2 => rw [hq]; (try rfl)
  case hv2 => rw [hq]; (try rfl)
  case hl2 => rw [hq]; assumption
 have c1p := kz c1
 refine Aa ?_
 refine AB (.t1 0) ?_
 refine AA (Gs (Gm rfl ?_))
 refine Ag rfl ED (.c rfl (.c rfl .n)) (.c .h (.c .h .n)) (Bc _ _ _ _ hg hb (by omega)) (fun v4 B hv => ?_)
 obtain ⟨y5, rfl, y6, rfl⟩ := hv
 refine Gn (.nil _) (Gs (Ga rfl (Ga rfl (AQ (AA (Ab ?_))))))
 refine AY rfl (.tmp rfl (.tmp rfl .n)) ?_
 intro w1 hS
 have hS := (hS.perm (Ax.perm (.c .h (.c .h .n)))).A1
 have hq : T.A6 u = (T.tell AF.Nt, 0, false) := AW c1
 refine ⟨_, ⟨?gq3, ?hv3, ?hl3, ?hB3⟩, hS⟩
 case hB3 => rw [hq]; (try rfl)
 case hv3 => rw [hq]; (try rfl)
 case hl3 => rw [hq]; assumption
theorem PW (b : Nat) (T : AF) (g : Hd) (o : Order) (hg : g.len = T.out.length) (hF : T.Fit) (hm : o.name.length ≤ 5000000) (hn : T.out.length ≤ 90000) : FL Tryz.prog 104 #[.pointer (some ⟨b, 0, none⟩), .agg o.enc.toArray] [Ac.box b 163 (Ad.enc ⟨T.w, T.b, g⟩), Ac.own g 56 16 (T.out.flatMap Ing.Event.enc)] (fun w => (Gl 7 w ∧ 7 ∉ Cd [Ac.box b 163 (Ad.enc ⟨T.w, T.b, g⟩), Ac.own g 56 16 (T.out.flatMap Ing.Event.enc)]) ∧ (Gl 8 w ∧ 8 ∉ Cd [Ac.box b 163 (Ad.enc ⟨T.w, T.b, g⟩), Ac.own g 56 16 (T.out.flatMap Ing.Event.enc)])) (fun v B => ∃ g' : Hd, v = .tuple #[] ∧ g'.len = (T.E0 o).out.length ∧ B = [Ac.box b 163 (Ad.enc ⟨(T.E0 o).w, (T.E0 o).b, g'⟩), Ac.own g' 56 16 ((T.E0 o).out.flatMap Ing.Event.enc)]) := by
 intro w hS0 hH
 obtain ⟨⟨gl0, gm0⟩, ⟨gl1, gm1⟩⟩ := hH
 have hb := hF.b
 have hr := hF.room
 have hsr := T.Lz (if (!decide (o.nth = 1) || o.Bj) = true then [] else o.name)
 have hsb : 0 ≤ (T.A6 (if (!decide (o.nth = 1) || o.Bj) = true then [] else o.name)).1.b ∧ (T.A6 (if (!decide (o.nth = 1) || o.Bj) = true then [] else o.name)).1.b < 6 := by rw [(T.JD _).2]; exact hb
 refine Al _ _ Tryz.func104 rfl rfl rfl (hS0) ?_
 refine Gs ?_
 refine B4 rfl rfl rfl (fun b1 => ?_)
 refine Gn (.t2 0 3) (Gs (Gt (Ah Fi rfl) (Gt (AG rfl CV .m0 Order.l3 rfl rfl) (Ga rfl (Gn (.t3 0 3 4) (CG (Gt (Ah GK rfl) ?_)))))))
 refine Gt (AG rfl A3 .m0 Order.l1 rfl rfl) (Gt (CX rfl rfl) (Gm rfl (Ba 12 rfl rfl (fun q => Ah G5 rfl) (Ba 12 rfl rfl (fun q => AG (cF rfl q) Dj .m0 Order.l2 rfl rfl) ?_))))
 refine Gt (BR rfl rfl (fun h => by rw [h]; rfl)) ?_
 refine Gn (.t3 0 4 15) ?_
 refine RA (BS) (s := (if (!decide (o.nth = 1) || o.Bj) = true then [] else o.name)) rfl rfl rfl rfl rfl ?_
 refine AB (.t2 0 4) ?_
 refine AA (Gs (Gm rfl (Gm rfl ?_)))
 refine BF rfl ZO (.c rfl (.c rfl .n)) (.c (.t .h) (.c (.t .h) .n)) (Io _ T _ _ hg hF (by split <;> (try simp) <;> omega) (by omega)) (fun w hS => ⟨gl0.pull gm0 hS (.c (.t .h) (.c (.t .h) .n)), gl1.pull gm1 hS (.c (.t .h) (.c (.t .h) .n))⟩) (fun v1 B hv => ?_)
 obtain ⟨y2, rfl, y3, rfl⟩ := hv
 refine Gm rfl (Gt (AM rfl rfl) (Gt (AM rfl rfl) (Ga rfl (Ga rfl (Gn (.t3 0 5 6) (CG (Gm rfl ?_)))))))
 refine Gt (BV rfl) (Gn (.t3 0 5 23) ?_)
 refine Gc (fun c1 => ?_) (fun c1 => ?_)
 ·
  have c1p := kz c1
  refine Ab (AD ?_)
  refine AY rfl .n ?_
  intro w1 hS
  have hS := (hS.perm (Ax.perm (.c .h (.c .h .n)))).A1
  have hq : T.E0 o = _ := BB c1
  refine ⟨_, ⟨?gq1, rfl, ?hl1, ?hB1⟩, hS⟩
  case hB1 => rw [hq]; (try rfl)
  case hl1 => rw [hq]; assumption
 have c1p := kz c1
 refine Aa ?_
 refine AB (.t2 0 5) ?_
 refine AA (Ao ?_)
 refine BE (N := 13) [0, 0, 2, 6, 14, 0, 32, 1, 129, 385, 1023, 2047, 4095] mix (by kernel_rfl) rfl ?_
 refine Pf 0 rfl (AE rfl) (Pf 1 rfl (AE rfl) (Pf 2 rfl (BT rfl) (Pf 3 rfl (Ah CP rfl) (Pf 4 rfl (AG rfl A3 .m0 Ad.l1 rfl rfl) (Pf 5 rfl (AE rfl) ?_)))))
 refine Pf 6 rfl (Av rfl rfl (IntWalk.i64_in _ (by first | omega | exact hsb.1 | exact hsb.2 | (dsimp only; omega)))) ?_
 refine Pf 7 rfl (BT rfl) (Pf 8 rfl (Ah A9 rfl) (Pf 9 rfl (Ah Bn rfl) ?_))
 refine Pf 10 rfl (AR C6 rfl rfl (by first | omega | exact hsb.1 | exact hsb.2 | (dsimp only; omega)) (by first | omega | exact hsb.1 | exact hsb.2 | (dsimp only; omega))) ?_
 refine Pf 11 rfl (Ah GG rfl) ?_
 refine An 12 rfl (by kernel_rfl) ?_
 refine AT (AK (((Ad.l0.comp AH.l2).comp (AU.ar (n := 6) Aj.fl (by first | omega | exact hsb | (dsimp only; omega)))).comp Aj.l5) rfl rfl rfl C5 rfl .h) ?_
 refine BN rfl ⟨?_, ?_⟩
 · exact (Pk (Pk (Pk (Pk (Pk (Pk (Pk (Pk (Pk (Pk (Pk (Pk Aq))))))))))))
 refine A4 (by kernel_rfl) ?_
 refine AB (.t2 0 5) ?_
 refine AA (CG (Gm rfl (Gm rfl (Gt (BT rfl) (Gt (Ah A9 rfl) (Gt (Ah Bn rfl) ?_))))))
 refine Gt (AR C6 rfl rfl (by first | omega | exact hsb.1 | exact hsb.2 | (dsimp only; omega)) (by first | omega | exact hsb.1 | exact hsb.2 | (dsimp only; omega))) ?_
 refine Gt (Ah GG rfl) ?_
 refine Gt (AG rfl A3 .m0 (((Ad.l0.comp AH.l2).comp (AU.ar (n := 6) Aj.fl (by first | omega | exact hsb | (dsimp only; omega)))).comp Aj.l5) rfl rfl) ?_
 refine Gt (Ae rfl rfl) (Gn (.t3 0 5 44) ?_)
 refine Gc (fun c2 => ?_) (fun c2 => ?_)
 ·
  have c2p := kz c2
  refine BE (N := 13) [0, 0, 0, 4, 12, 28, 60, 1, 129, 385, 1023, 2047, 4095] mix (by kernel_rfl) rfl ?_
  refine Pf 0 rfl (AE rfl) (Pf 1 rfl (AE rfl) (Pf 2 rfl (AE rfl) (Pf 3 rfl (BT rfl) (Pf 4 rfl (Ah CP rfl) (Pf 5 rfl (AG rfl A3 .m0 Ad.l1 rfl rfl) ?_)))))
  refine Pf 6 rfl (Av rfl rfl (IntWalk.i64_in _ (by first | omega | exact hsb.1 | exact hsb.2 | (dsimp only; omega)))) ?_
  refine Pf 7 rfl (BT rfl) (Pf 8 rfl (Ah A9 rfl) (Pf 9 rfl (Ah Bn rfl) ?_))
  refine Pf 10 rfl (AR C6 rfl rfl (by first | omega | exact hsb.1 | exact hsb.2 | (dsimp only; omega)) (by first | omega | exact hsb.1 | exact hsb.2 | (dsimp only; omega))) ?_
  refine Pf 11 rfl (Ah GG rfl) ?_
  refine An 12 rfl (by kernel_rfl) ?_
  refine AT (AK (((Ad.l0.comp AH.l2).comp (AU.ar (n := 6) Aj.fl (by first | omega | exact hsb | (dsimp only; omega)))).comp Aj.l5) rfl rfl rfl C5 rfl .h) ?_
  refine BN rfl ⟨?_, ?_⟩
  · exact (Pk (Pk (Pk (Pk (Pk (Pk (Pk (Pk (Pk (Pk (Pk (Pk Aq))))))))))))
  refine A4 (by kernel_rfl) ?_
  refine AB (.t1 0) ?_
  refine AA (AJ (Gm rfl ?_))
  refine Ag rfl ED (.c rfl (.c rfl .n)) (.c .h (.c .h .n)) (Bc _ (AF.Ch (AF.Ch (T.A6 (if (!decide (o.nth = 1) || o.Bj) = true then [] else o.name)).1 (T.A6 (if (!decide (o.nth = 1) || o.Bj) = true then [] else o.name)).1.b ((T.A6 (if (!decide (o.nth = 1) || o.Bj) = true then [] else o.name)).2.1 + 1)) (T.A6 (if (!decide (o.nth = 1) || o.Bj) = true then [] else o.name)).2.1 ((T.A6 (if (!decide (o.nth = 1) || o.Bj) = true then [] else o.name)).1.b + 1)) _ _ (by assumption) hsb (by show (T.A6 (if (!decide (o.nth = 1) || o.Bj) = true then [] else o.name)).1.out.length ≤ 100000; have := T.G9 (if (!decide (o.nth = 1) || o.Bj) = true then [] else o.name); omega)) (fun v4 B hv => ?_)
  obtain ⟨y5, rfl, y6, rfl⟩ := hv
  refine AQ ?_
  refine Bk rfl .n ?_
  intro w1 hS
  have hS := (hS.perm (Ax.perm (.c .h (.c .h .n)))).A1
  have hq : T.E0 o = _ := (show T.E0 o = _ from AW c1).trans (congrArg (fun q => AF.tell q AF.QM) (BB c2))
  refine ⟨_, ⟨?gq2, rfl, ?hl2, ?hB2⟩, hS⟩
  case hB2 => rw [hq]; (try rfl)
  case hl2 => rw [hq]; assumption
 have c2p := kz c2
 refine Aa ?_
 refine AB (.t1 0) ?_
 refine AA (AJ (Gm rfl ?_))
 refine Ag rfl ED (.c rfl (.c rfl .n)) (.c .h (.c .h .n)) (Bc _ (AF.Ch (T.A6 (if (!decide (o.nth = 1) || o.Bj) = true then [] else o.name)).1 (T.A6 (if (!decide (o.nth = 1) || o.Bj) = true then [] else o.name)).1.b ((T.A6 (if (!decide (o.nth = 1) || o.Bj) = true then [] else o.name)).2.1 + 1)) _ _ (by assumption) hsb (by show (T.A6 (if (!decide (o.nth = 1) || o.Bj) = true then [] else o.name)).1.out.length ≤ 100000; have := T.G9 (if (!decide (o.nth = 1) || o.Bj) = true then [] else o.name); omega)) (fun v7 B hv => ?_)
 obtain ⟨y8, rfl, y9, rfl⟩ := hv
 refine AQ ?_
 refine Bk rfl .n ?_
 intro w1 hS
 have hS := (hS.perm (Ax.perm (.c .h (.c .h .n)))).A1
 have hq : T.E0 o = _ := (show T.E0 o = _ from AW c1).trans (congrArg (fun q => AF.tell q AF.QM) (AW c2))
 refine ⟨_, ⟨?gq3, rfl, ?hl3, ?hB3⟩, hS⟩
 case hB3 => rw [hq]; (try rfl)
 case hl3 => rw [hq]; assumption
theorem I4 (b : Nat) (T : AF) (g : Hd) (hF : T.Fit) : JS Tryz.prog 132 #[.pointer (some ⟨b, 0, none⟩)] [Ac.box b 163 (Ad.enc ⟨T.w, T.b, g⟩)] (fun v B => ∃ f : Hd, v = f.val ∧ f.len = (T.seen).length ∧ B = [Ac.box b 163 (Ad.enc ⟨T.w, T.b, g⟩), Ac.own f 3 1 ((T.seen).flatMap Au)]) := by
 intro w hS0
 have hb := hF.b
 have hr := hF.room
 refine Al _ _ Tryz.func132 rfl rfl rfl (hS0) ?_
 refine Gs (Ga rfl (Gn (.t1 0) (Ao ?_)))
 refine BE (N := 12) [0, 0, 2, 6, 14, 1, 33, 97, 255, 511, 1023, 2047] mix (by kernel_rfl) rfl ?_
 refine Pf 0 rfl (AE rfl) (Pf 1 rfl (AE rfl) (Pf 2 rfl (BT rfl) (Pf 3 rfl (Ah CP rfl) (Pf 4 rfl (AG rfl A3 .m0 Ad.l1 rfl rfl) (Pf 5 rfl (BT rfl) (Pf 6 rfl (Ah A9 rfl) (Pf 7 rfl (Ah Bn rfl) ?_)))))))
 refine Pf 8 rfl (AR C6 rfl rfl (by first | omega | exact hb.1 | exact hb.2 | (dsimp only; omega)) (by first | omega | exact hb.1 | exact hb.2 | (dsimp only; omega))) ?_
 refine Pf 9 rfl (Ah C2 rfl) ?_
 refine Pf 10 rfl (AG rfl A3 .m0 (((Ad.l0.comp AH.l2).comp (AU.ar (n := 6) Aj.fl (by first | omega | exact hb | (dsimp only; omega)))).comp Aj.l3) rfl rfl) ?_
 refine Pf 11 rfl (A0 rfl) ?_
 refine A4 (by kernel_rfl) ?_
 refine AB (.t2 0 3) ?_
 refine AA (CG (Gm rfl (Gt (BT rfl) (Gt (Ah A9 rfl) (Gt (AZ rfl BW .m0 Ad.l0 rfl) (Gm rfl ?_))))))
 refine BA rfl Ug (.c rfl (.c rfl .n)) (fun w hS => Ea _ _ w) ?_
 refine Gt (BV rfl) (Gn (.t3 0 3 21) ?_)
 refine Gc (fun c1 => ?_) (fun c1 => ?_)
 ·
  refine Gs (Ga rfl (Gn (.t1 2) (Ab (AD ?_))))
  refine AY rfl (.tmp rfl .n) ?_
  intro w1 hS
  have hS := hS.Ck 3 1
  have hS := (hS.perm (Ax.perm (.c (.t .h) (.c .h .n)))).A1
  have hq : T.seen = _ := BB c1
  exact ⟨_, ⟨⟨none, 0, 0⟩, rfl, by rw [hq]; rfl, by rw [hq]; rfl⟩, hS⟩
 have c1p := kz c1
 refine Aa ?_
 refine AB (.t2 0 3) ?_
 refine AA (Gs (Gm rfl (Gt (BT rfl) (Gt (Ah A9 rfl) (Gt (AZ rfl BW .m0 Ad.l0 rfl) (Gm rfl ?_))))))
 refine Ag rfl SZ (.c rfl (.c rfl (.c rfl .n))) .n (FF _ _ _) (fun v2 B hv => ?_)
 obtain ⟨y3, rfl, y4, rfl⟩ := hv
 refine Ga rfl (Gn (.t1 2) (Ab ?_))
 refine AY rfl (.tmp rfl .n) ?_
 intro w1 hS
 have hS := (hS.perm (Ax.perm (.c (.t .h) (.c .h .n)))).A1
 have hq : T.seen = _ := (AW c1)
 exact ⟨_, ⟨_, rfl, by rw [hq]; first | rfl | assumption, by rw [hq]; rfl⟩, hS⟩
theorem Ev (b : Nat) (T : AF) (g : Hd) (f : Hd) (l : List Int) (z : Int) (u : Ap) (a : Bool) (hF : T.Fit) (hf : f.len = l.length) (hl : l.length ≤ 100) (hi : ∀ i ∈ l, 0 ≤ i ∧ i < 9) : JS Tryz.prog 134 #[.pointer (some ⟨b, 0, none⟩), f.val, .int .i64 z, BS u, .bool a] [Ac.box b 163 (Ad.enc ⟨T.w, T.b, g⟩), Ac.own f 3 1 (l.flatMap Au)] (fun v B => ∃ h : Hd, v = h.val ∧ h.len = (AF.BP T.w l z u a).length ∧ B = [Ac.box b 163 (Ad.enc ⟨T.w, T.b, g⟩), Ac.own f 3 1 (l.flatMap Au), Ac.own h 3 1 ((AF.BP T.w l z u a).flatMap Au)]) := by
 intro w hS0
 have hb := hF.b
 have hr := hF.room
 refine Al _ _ Tryz.func134 rfl rfl rfl (hS0) ?_
 refine Gs (Ga rfl (Gn (.t5 0 1 2 3 4) (Gs (Ga rfl (AQ (AA (CG ?_)))))))
 refine Gm rfl (Gt (Ar rfl Tryz.underlying169 rfl) (Gm rfl (Gn (.t8 0 2 3 4 11 14 15 16) (Af ?_))))
 refine Bo (.t8 11 16 0 2 3 4 14 15) ?_
 refine E7 Au 3 1 ?_
 refine Dt (fun (k : Int) (xs : List Int) (h : Hd) => 0 ≤ k ∧ k ≤ (l.length : Int) ∧ xs = AF.JK T.w u (l.take k.toNat) ∧ h.len = xs.length ∧ xs.length ≤ k.toNat) (fun (k : Int) (xs : List Int) (h : Hd) => ((l.length : Int) - k).toNat) (fun (k : Int) (xs : List Int) (h : Hd) => [(11, h.val), (16, .int .i64 k)]) (fun (k : Int) (xs : List Int) (h : Hd) => [Ac.own h 3 1 (xs.flatMap Au)]) (0) ([]) (_) ?_ rfl rfl (fun k xs h hI1 => ?_)
 · exact ⟨by omega, by omega, rfl, rfl, by simp⟩
 obtain ⟨hI11, hI12, hI13, hI14, hI15⟩ := hI1
 refine Gs (Gt (A8 rfl rfl) (AQ (AA (Ao ?_))))
 refine Gc (fun c1 => ?_) (fun c1 => ?_)
 ·
  have c1p := kz c1
  have hx := hi _ (Bb.Ep (xs := l) (i := k.toNat) (by omega))
  refine Aa ?_
  refine AB (.t8 0 2 3 4 11 14 15 16) ?_
  refine AA (Ao (Af (Gs ?_)))
  refine Gt (Br GW (by decide) (Kn.own .m2) rfl rfl (by omega) (by omega)) ?_
  refine Gt (DH rfl A3 (Kn.own .m2) (by omega)) ?_
  refine Ga rfl (Gn (.t9 0 2 3 4 11 13 14 15 16) (Gs (Gm rfl (Gt (Bw rfl rfl) (Gm rfl (Ba 22 rfl rfl (fun q => AE rfl) (Ba 22 rfl rfl (fun q => AE rfl) ?_)))))))
  refine Ba 22 rfl rfl (fun q => BT (cF rfl q)) (Ba 22 rfl rfl (fun q => Ah A9 (cF rfl q)) (Ba 22 rfl rfl (fun q => Ah Cw (cF rfl q)) ?_))
  refine Ba 22 rfl rfl (fun q => by have q1 := q; (try simp at q1); exact AR GA (cF rfl q) (cF rfl q) (by first | omega | exact hb.1 | exact hb.2) (by first | omega | exact hb.1 | exact hb.2)) ?_
  refine Ba 22 rfl rfl (fun q => Ah MS (cF rfl q)) ?_
  refine Ba 22 rfl rfl (fun q => by have q1 := q; (try simp at q1); exact AG (cF rfl q) CV .m1 (((Ad.l0.comp AH.l1).comp (AU.ar (n := 9) Ak.fl (by first | omega | exact hb))).comp Ak.l0) rfl rfl) ?_
  refine Ba 22 rfl rfl (fun q => AE rfl) (Ba 22 rfl rfl (fun q => Bw (cF rfl q) (cF rfl q)) ?_)
  refine Gt (BR rfl rfl (fun h => by rw [h]; rfl)) ?_
  refine Gn (.t10 0 2 3 4 11 13 14 15 16 33) ?_
  refine Gc (fun c2 => ?_) (fun c2 => ?_)
  ·
   have c2p := kz c2
   refine AJ (Gm rfl (Gm rfl ?_))
   refine Fg Au Bv rfl Tryz.underlying169 C5 aM rfl (by decide) (by decide) rfl rfl (fun b1 => ?_)
   refine Cc Bv rfl Tryz.underlying169 C5 aM rfl cR (by decide) (by decide) rfl rfl (fun w hS => Src.D3 Tryz.underlying169 ((Kn.own .m0) w hS)) (by (try dsimp only); omega) (fun _ => (.t .h)) (fun h1 h1l h1z => ?_)
   refine Ga rfl ?_
   refine AQ (AB (.t8 0 2 3 4 11 14 15 16) ?_)
   refine AV (AA (AJ ?_))
   refine Gt (Av rfl rfl (IntWalk.i64_in _ (by first | omega | exact hb.1 | exact hb.2))) ?_
   refine Gm rfl ?_
   refine AQ (AB (.t8 0 2 3 4 11 14 15 16) ?_)
   refine Bz (k + 1) _ _ ?_ ?_ (.t8 11 16 0 2 3 4 14 15) (.cons _ (.refl _))
   · exact ⟨by omega, by omega, by rw [AF.YA hI11 (by omega) c2, ← hI13], (by (try dsimp only at *) <;> (try simp only [List.length_append, List.length_cons, List.length_nil]) <;> omega), (by (try simp only [List.length_append, List.length_cons, List.length_nil]); omega)⟩
   · omega
  have c2p := kz c2
  refine Aa ?_
  refine AB (.t8 0 2 3 4 11 14 15 16) ?_
  refine AV (AA (AJ ?_))
  refine Gt (Av rfl rfl (IntWalk.i64_in _ (by first | omega | exact hb.1 | exact hb.2))) ?_
  refine Gm rfl ?_
  refine AQ (AB (.t8 0 2 3 4 11 14 15 16) ?_)
  refine Bz (k + 1) _ _ ?_ ?_ (.t8 11 16 0 2 3 4 14 15) (.refl _)
  · exact ⟨by omega, by omega, by rw [AF.YZ hI11 (by omega) c2, ← hI13], (by (try dsimp only at *) <;> (try simp only [List.length_append, List.length_cons, List.length_nil]) <;> omega), (by (try simp only [List.length_append, List.length_cons, List.length_nil]); omega)⟩
  · omega
 have c1p := kz c1
 obtain rfl : k = (l.length : Int) := by omega
 have hx3 := hI13
 rw [show (l.length : Int).toNat = l.length by omega, List.take_length] at hx3
 have hpa := AF.Us T.w u l
 rw [← hx3] at hpa
 refine Bf (AX (AX (Ai ?_)))
 refine AB (.t3 2 4 11) ?_
 refine AA (CG (Gm rfl (Gn (.t3 2 11 39) ?_)))
 refine Gc (fun c3 => ?_) (fun c3 => ?_)
 ·
  have c3p := kz c3
  refine Gs (Gm rfl (Ga rfl (Gn (.t1 10) (Ab (AD ?_)))))
  refine AY rfl (.tmp rfl .n) ?_
  intro w1 hS
  have hS := (hS.perm (Ax.perm (.c (.t .h) (.c (.t .h) (.c .h .n))))).A1
  have hq : AF.BP T.w l z u a = _ := (BB c3)
  refine ⟨_, ⟨_, rfl, ?hl1, ?hB1⟩, hS⟩
  case hB1 => rw [hq]; (try rw [← hx3]); (try rfl)
  case hl1 => rw [hq]; first | rfl | (rw [← hx3]; first | assumption | (simp only [Hd.cut, List.length_drop, List.length_take]; omega))
 have c3p := kz c3
 refine Aa ?_
 refine AB (.t2 2 11) ?_
 refine AA (CG (Gm rfl (Gt (A8 rfl rfl) (Gm rfl (Ba 43 rfl rfl (fun q => AE rfl) (Ba 43 rfl rfl (fun q => AE rfl) (Ba 43 rfl rfl (fun q => Ar rfl Tryz.underlying169 (cF rfl q)) ?_)))))))
 refine Ba 43 rfl rfl (fun q => Cj (cF rfl q) (cF rfl q)) ?_
 refine Gt (BR rfl rfl (fun h => by rw [h]; rfl)) ?_
 refine Gn (.t3 2 11 48) ?_
 refine Gc (fun c4 => ?_) (fun c4 => ?_)
 ·
  have c4p := kz c4
  rw [hI14, hx3] at c4
  refine Gs (Ga rfl (Gn (.t1 10) (Ab (AD ?_))))
  refine AY rfl (.tmp rfl .n) ?_
  intro w1 hS
  have hS := hS.Ck 3 1
  have hS := (hS.perm (Ax.perm (.c (.t (.t .h)) (.c (.t (.t .h)) (.c .h .n))))).A1
  have hq : AF.BP T.w l z u a = _ := ((AW c3).trans (BB c4))
  refine ⟨_, ⟨⟨none, 0, 0⟩, rfl, ?hl2, ?hB2⟩, hS⟩
  case hB2 => rw [hq]; (try rw [← hx3]); (try rfl)
  case hl2 => rw [hq]; first | rfl | (rw [← hx3]; first | assumption | (simp only [Hd.cut, List.length_drop, List.length_take]; omega))
 have c4p := kz c4
 have c4q := c4p
 rw [hI14, hx3] at c4
 refine Aa ?_
 refine AB (.t2 2 11) ?_
 refine AA (Gs (Gm rfl (Gm rfl ?_)))
 refine Gt (E3 rfl rfl (IntWalk.i64_in _ (by first | omega | exact hb.1 | exact hb.2))) ?_
 refine Gm rfl ?_
 refine Tb Bv rfl Tryz.underlying169 C5 rfl rfl rfl (by first | omega | exact hb.1 | exact hb.2) (by first | omega | exact hb.1 | exact hb.2) (by first | omega | exact hb.1 | exact hb.2) (fun _ => .h) ?_
 refine Ga rfl (Gn (.t1 10) (Ab ?_))
 refine AY rfl (.tmp rfl .n) ?_
 intro w1 hS
 have hS := (hS.perm (Ax.perm (.c (.t .h) (.c (.t .h) (.c .h .n))))).A1
 have hq : AF.BP T.w l z u a = _ := ((AW c3).trans (AW c4))
 refine ⟨_, ⟨_, rfl, ?hl3, ?hB3⟩, hS⟩
 case hB3 => rw [hq]; (try rw [← hx3]); (try rfl)
 case hl3 => rw [hq]; first | rfl | (rw [← hx3]; first | assumption | (simp only [Hd.cut, List.length_drop, List.length_take]; omega))
theorem Rm (b : Nat) (T : AF) (g : Hd) (u : Ap) (hF : T.Fit) (hu : u.length ≤ 5000000) : FL Tryz.prog 161 #[.pointer (some ⟨b, 0, none⟩), BS u] [Ac.box b 163 (Ad.enc ⟨T.w, T.b, g⟩)] (fun w => (Gl 7 w ∧ 7 ∉ Cd [Ac.box b 163 (Ad.enc ⟨T.w, T.b, g⟩)]) ∧ (Gl 8 w ∧ 8 ∉ Cd [Ac.box b 163 (Ad.enc ⟨T.w, T.b, g⟩)])) (fun v B => v = .tuple #[.int .i64 (T.one u).1, .bool (T.one u).2] ∧ B = [Ac.box b 163 (Ad.enc ⟨T.w, T.b, g⟩)]) := by
 intro w hS0 hH
 obtain ⟨⟨gl0, gm0⟩, ⟨gl1, gm1⟩⟩ := hH
 have hb := hF.b
 have hr := hF.room
 have ho9 := T.KN
 have hs9 := T.Ip
 refine Al _ _ Tryz.func161 rfl rfl rfl (hS0) ?_
 refine Gs (Ga rfl (Ga rfl (Gn (.t2 0 1) (Gs (Gm rfl ?_)))))
 refine BA rfl Up (.c rfl .n) (fun w hS => FJ _ (by first | assumption | omega) w (gl0.stM gm0 hS) (gl1.stM gm1 hS)) ?_
 refine Gm rfl (Gt (AM rfl rfl) (Gt (AM rfl rfl) (Gt (AM rfl rfl) (Gt (AM rfl rfl) (Ga rfl (Ga rfl (Ga rfl ?_)))))))
 refine Ga rfl (Gn (.t5 0 6 7 8 9) (CG (Gm rfl (Gt (CX rfl rfl) (Gm rfl (Ba 20 rfl rfl (fun q => AE rfl) ?_))))))
 refine Gt (BR rfl rfl (fun h => by rw [h]; rfl)) ?_
 refine Gn (.t4 0 6 7 22) ?_
 refine Gc (fun c1 => ?_) (fun c1 => ?_)
 ·
  refine Gs (Ga rfl (Ga rfl (Gn (.t2 4 5) (Ab (AD ?_)))))
  refine AY rfl (.tmp rfl (.tmp rfl .n)) ?_
  intro w1 hS
  have hS := (hS.perm (Ax.perm (.c .h .n))).A1
  have hq : T.one u = _ := (BB c1)
  exact ⟨_, ⟨by rw [hq]; rfl, rfl⟩, hS⟩
 have c1p := kz c1
 refine Aa ?_
 refine AB (.t3 0 6 7) ?_
 refine AA (Gs (Gm rfl (Gm rfl ?_)))
 refine Ag rfl UX (.c rfl .n) (.c .h .n) (H2 _ _ _ (by first | assumption | omega)) (fun v1 B hv => ?_)
 obtain ⟨y2, rfl, y3, rfl⟩ := hv
 refine Gm rfl ?_
 refine Ag rfl WL (.c rfl .n) (.c .h .n) (I4 _ _ _ (by first | assumption | omega)) (fun v5 B hv => ?_)
 obtain ⟨y6, rfl, y7, rfl⟩ := hv
 refine Cc Bv rfl Tryz.underlying169 C5 aM rfl cR (by decide) (by decide) rfl rfl (fun w hS => Src.D3 Tryz.underlying169 ((Kn.own .m1) w hS)) (by (try dsimp only); omega) (fun _ => (.t (.t .h))) (fun h9 h9l h9z => ?_)
 refine Gm rfl (Gm rfl ?_)
 refine Ag rfl Pa (.c rfl (.c rfl (.c rfl (.c rfl (.c rfl .n))))) (.c .h (.c (.t .h) .n)) (Ev _ T _ _ (T.own ++ T.seen) _ _ _ hF (by rw [List.length_append]; omega) (by rw [List.length_append]; omega) (fun i hi => AF.Qf hi)) (fun v10 B hv => ?_)
 obtain ⟨y11, rfl, y12, rfl⟩ := hv
 refine Ga rfl (Gn (.t1 10) (CG (Gm rfl (Gt (Ar rfl Tryz.underlying169 rfl) (Gt (Ae rfl rfl) (Gn (.t2 10 34) ?_))))))
 refine Gc (fun c2 => ?_) (fun c2 => ?_)
 ·
  have c2p := kz c2
  have hpl := y12
  rw [hpl] at c2 c2p
  refine Gs (Ga rfl (Ga rfl (Gn (.t2 4 5) (Ab (AD ?_)))))
  refine AY rfl (.tmp rfl (.tmp rfl .n)) ?_
  intro w1 hS
  have hS := (hS.perm (Ax.perm (.c .h .n))).A1
  have hq : T.one u = _ := ((AW c1).trans (BB c2))
  exact ⟨_, ⟨by rw [hq]; rfl, rfl⟩, hS⟩
 have c2p := kz c2
 have hpl := y12
 rw [hpl] at c2 c2p
 refine Aa ?_
 refine AB (.t1 10) ?_
 refine AA (Gs (Gm rfl ?_))
 refine Gt (Br GW (by decide) (Kn.own .m2) rfl rfl (by omega) (by omega)) ?_
 refine Gt (DH rfl A3 (Kn.own .m2) (by omega)) ?_
 refine Ga rfl (Ga rfl (Gn (.t2 4 5) (Ab ?_)))
 refine AY rfl (.tmp rfl (.tmp rfl .n)) ?_
 intro w1 hS
 have hS := (hS.perm (Ax.perm (.c .h .n))).A1
 have hq : T.one u = _ := ((AW c1).trans (AW c2))
 exact ⟨_, ⟨by rw [hq]; rfl, rfl⟩, hS⟩
theorem Ml (b : Nat) (T : AF) (g : Hd) (u : Ap) (hg : g.len = T.out.length) (hF : T.Fit) (hu : u.length ≤ 5000000) (hn : T.out.length ≤ 99000) : FL Tryz.prog 133 #[.pointer (some ⟨b, 0, none⟩), BS u] [Ac.box b 163 (Ad.enc ⟨T.w, T.b, g⟩), Ac.own g 56 16 (T.out.flatMap Ing.Event.enc)] (fun w => (Gl 7 w ∧ 7 ∉ Cd [Ac.box b 163 (Ad.enc ⟨T.w, T.b, g⟩), Ac.own g 56 16 (T.out.flatMap Ing.Event.enc)]) ∧ (Gl 8 w ∧ 8 ∉ Cd [Ac.box b 163 (Ad.enc ⟨T.w, T.b, g⟩), Ac.own g 56 16 (T.out.flatMap Ing.Event.enc)])) (fun v B => ∃ g' : Hd, v = .tuple #[.int .i64 (T.box u).2.1, .bool (T.box u).2.2] ∧ g'.len = ((T.box u).1).out.length ∧ B = [Ac.box b 163 (Ad.enc ⟨((T.box u).1).w, ((T.box u).1).b, g'⟩), Ac.own g' 56 16 (((T.box u).1).out.flatMap Ing.Event.enc)]) := by
 intro w hS0 hH
 obtain ⟨⟨gl0, gm0⟩, ⟨gl1, gm1⟩⟩ := hH
 have hb := hF.b
 have hr := hF.room
 have ho := T.Uc u
 refine Al _ _ Tryz.func133 rfl rfl rfl (hS0) ?_
 refine Gs (Ga rfl (Ga rfl (Gn (.t2 0 1) (Gs (Gm rfl (Gm rfl ?_))))))
 refine BF rfl ag (.c rfl (.c rfl .n)) (.c .h .n) (Rm _ T _ _ hF hu) (fun w hS => ⟨gl0.pull gm0 hS (.c .h .n), gl1.pull gm1 hS (.c .h .n)⟩) (fun v1 B hv => ?_)
 obtain ⟨rfl, rfl⟩ := hv
 refine Gm rfl (Gt (AM rfl rfl) (Gt (AM rfl rfl) (Ga rfl (Ga rfl (Gn (.t3 0 6 7) (CG (Gm rfl ?_)))))))
 refine Gt (BV rfl) (Gm rfl (Ba 16 rfl rfl (fun q => AE rfl) (Ba 16 rfl rfl (fun q => AE rfl) (Ba 16 rfl rfl (fun q => BT (cF rfl q)) (Ba 16 rfl rfl (fun q => Ah A9 (cF rfl q)) (Ba 16 rfl rfl (fun q => Ah Cw (cF rfl q)) ?_))))))
 refine Ba 16 rfl rfl (fun q => by have q1 := q; (try simp at q1); exact AR GA (cF rfl q) (cF rfl q) (by first | omega | exact hb.1 | exact hb.2 | (dsimp only; omega)) (by first | omega | exact hb.1 | exact hb.2 | (dsimp only; omega))) ?_
 refine Ba 16 rfl rfl (fun q => Ah Gy (cF rfl q)) ?_
 refine Ba 16 rfl rfl (fun q => by have q1 := q; (try simp at q1); exact AG (cF rfl q) A3 .m0 (((Ad.l0.comp AH.l1).comp (AU.ar (n := 9) Ak.fl (by first | omega | exact hb | (dsimp only; omega)))).comp Ak.l1) rfl rfl) ?_
 refine Ba 16 rfl rfl (fun q => CX (cF rfl q) rfl) ?_
 refine Gt (BR rfl rfl (fun h => by rw [h]; rfl)) ?_
 refine Gn (.t3 0 6 26) ?_
 refine Gc (fun c1 => ?_) (fun c1 => ?_)
 ·
  have c1p := kz c1
  refine Gs (Gm rfl ?_)
  refine Ag rfl ED (.c rfl (.c rfl .n)) (.c .h (.c .h .n)) (Bc _ _ _ _ hg hb (by omega)) (fun v2 B hv => ?_)
  obtain ⟨y3, rfl, y4, rfl⟩ := hv
  refine Gn (.nil _) (Gs (Ga rfl (Ga rfl (AQ (AA (Ab (AD ?_)))))))
  refine AY rfl (.tmp rfl (.tmp rfl .n)) ?_
  intro w1 hS
  have hS := (hS.perm (Ax.perm (.c .h (.c .h .n)))).A1
  have hq : T.box u = _ := (BB c1)
  refine ⟨_, ⟨?gq1, ?hv1, ?hl1, ?hB1⟩, hS⟩
  case hB1 => rw [hq]; (try rfl)
  case hv1 => rw [hq]; (try rfl)
  case hl1 => rw [hq]; assumption
 have c1p := kz c1
 refine Aa ?_
 refine AB (.t2 0 6) ?_
 refine AA (CG (Gm rfl (Gm rfl (Gt (BT rfl) (Gt (Ah A9 rfl) (Gt (Ah Cw rfl) ?_))))))
 refine Gt (AR GA rfl rfl (by first | omega | exact hb.1 | exact hb.2 | (dsimp only; omega)) (by first | omega | exact hb.1 | exact hb.2 | (dsimp only; omega))) ?_
 refine Gt (Ah F5 rfl) ?_
 refine Gt (AG rfl Dj .m0 (((Ad.l0.comp AH.l1).comp (AU.ar (n := 9) Ak.fl (by first | omega | exact hb | (dsimp only; omega)))).comp Ak.l4) rfl rfl) ?_
 refine Gt (BV rfl) (Gn (.t3 0 6 37) ?_)
 refine Gc (fun c2 => ?_) (fun c2 => ?_)
 ·
  have c2p := kz c2
  refine Gs (Gm rfl ?_)
  refine Ag rfl ED (.c rfl (.c rfl .n)) (.c .h (.c .h .n)) (Bc _ _ _ _ hg hb (by omega)) (fun v5 B hv => ?_)
  obtain ⟨y6, rfl, y7, rfl⟩ := hv
  refine Gn (.nil _) (Gs (Ga rfl (Ga rfl (AQ (AA (Ab (AD ?_)))))))
  refine AY rfl (.tmp rfl (.tmp rfl .n)) ?_
  intro w1 hS
  have hS := (hS.perm (Ax.perm (.c .h (.c .h .n)))).A1
  have hq : T.box u = _ := ((AW c1).trans (BB c2))
  refine ⟨_, ⟨?gq2, ?hv2, ?hl2, ?hB2⟩, hS⟩
  case hB2 => rw [hq]; (try rfl)
  case hv2 => rw [hq]; (try rfl)
  case hl2 => rw [hq]; assumption
 have c2p := kz c2
 refine Aa ?_
 refine AB (.t1 6) ?_
 refine AA (Gs (Gm rfl (Ga rfl (Ga rfl (Gn (.t2 4 5) (Ab ?_))))))
 refine AY rfl (.tmp rfl (.tmp rfl .n)) ?_
 intro w1 hS
 have hS := (hS.perm (Ax.perm (.c .h (.c .h .n)))).A1
 have hq : T.box u = _ := ((AW c1).trans (AW c2))
 refine ⟨_, ⟨?gq3, ?hv3, ?hl3, ?hB3⟩, hS⟩
 case hB3 => rw [hq]; (try rfl)
 case hv3 => rw [hq]; (try rfl)
 case hl3 => rw [hq]; assumption
theorem Dx (b : Nat) (T : AF) (g : Hd) (k i : Int) (hg : g.len = T.out.length) (hb : 0 ≤ T.b ∧ T.b < 6) (hi : 0 ≤ i ∧ i < 9) (hn : T.out.length ≤ 100000) : JS Tryz.prog 135 #[.pointer (some ⟨b, 0, none⟩), .int .i64 k, .int .i64 i] [Ac.box b 163 (Ad.enc ⟨T.w, T.b, g⟩), Ac.own g 56 16 (T.out.flatMap Ing.Event.enc)] (fun v B => ∃ g' : Hd, v = .tuple #[] ∧ g'.len = (T.Bs k i).out.length ∧ B = [Ac.box b 163 (Ad.enc ⟨(T.Bs k i).w, (T.Bs k i).b, g'⟩), Ac.own g' 56 16 ((T.Bs k i).out.flatMap Ing.Event.enc)]) := by
 intro w hS0
 refine Al _ _ Tryz.func135 rfl rfl rfl (hS0) ?_
 refine AJ (Gm rfl (Gm rfl (Gm rfl (Gm rfl (Gt (BT rfl) (Gt (Ah A9 rfl) (Gt (Ah Cw rfl) ?_)))))))
 refine Gt (AR GA rfl rfl (by (try dsimp only at *); omega) (by (try dsimp only at *); omega)) ?_
 refine Gt (Ah MS rfl) ?_
 refine Gt (AG rfl CV .m0 (((Ad.l0.comp AH.l1).comp (AU.arr (n := 9) Ak.fl (by (try dsimp only at *); omega) (by (try dsimp only at *); omega))).comp Ak.l0) rfl rfl) ?_
 refine Gt (BC N9 IP rfl (.cons Ing.Event.l0 rfl rfl rfl (.cons Ing.Event.l3 rfl rfl rfl (.cons Ing.Event.l8 rfl rfl rfl .nil)))) ?_
 refine Ag rfl O9 (.c rfl (.c rfl .n)) (.c .h (.c .h .n)) (CL _ _ _ { AF.Fk k with Bs := (T.w.AO.at i).name } hg hb (show (-1 : Int) < 6 by decide) hn) (fun v1 B hv => ?_)
 obtain ⟨y2, rfl, y3, rfl⟩ := hv
 refine AQ ?_
 refine Bk rfl .n ?_
 intro w1 hS
 have hS := (hS.perm (Ax.perm (.c .h (.c .h .n)))).A1
 exact ⟨_, ⟨_, rfl, by assumption, rfl⟩, hS⟩
theorem RT (b : Nat) (T : AF) (g : Hd) (o : Order) (hg : g.len = T.out.length) (hF : T.Fit) (hu : o.second.length ≤ 5000000) (hn : T.out.length ≤ 90000) : FL Tryz.prog 105 #[.pointer (some ⟨b, 0, none⟩), .agg o.enc.toArray] [Ac.box b 163 (Ad.enc ⟨T.w, T.b, g⟩), Ac.own g 56 16 (T.out.flatMap Ing.Event.enc)] (fun w => (Gl 7 w ∧ 7 ∉ Cd [Ac.box b 163 (Ad.enc ⟨T.w, T.b, g⟩), Ac.own g 56 16 (T.out.flatMap Ing.Event.enc)]) ∧ (Gl 8 w ∧ 8 ∉ Cd [Ac.box b 163 (Ad.enc ⟨T.w, T.b, g⟩), Ac.own g 56 16 (T.out.flatMap Ing.Event.enc)])) (fun v B => ∃ g' : Hd, v = .tuple #[] ∧ g'.len = (T.get o).out.length ∧ B = [Ac.box b 163 (Ad.enc ⟨(T.get o).w, (T.get o).b, g'⟩), Ac.own g' 56 16 ((T.get o).out.flatMap Ing.Event.enc)]) := by
 intro w hS0 hH
 obtain ⟨⟨gl0, gm0⟩, ⟨gl1, gm1⟩⟩ := hH
 have hb := hF.b
 have hr := hF.room
 refine Al _ _ Tryz.func105 rfl rfl rfl (hS0) ?_
 refine Gs ?_
 refine B4 rfl rfl rfl (fun b1 => ?_)
 refine Gn (.t2 0 3) (Gs (Gm rfl ?_))
 refine Ag rfl WL (.c rfl .n) (.c (.t .h) .n) (I4 _ _ _ (by first | assumption | omega)) (fun v1 B hv => ?_)
 obtain ⟨y2, rfl, y3, rfl⟩ := hv
 refine Ga rfl (Gn (.t3 0 3 4) (CG (Gt (Ah Hr rfl) (Gt (AG rfl CV .m2 Order.l4 rfl rfl) (Gt (Dv rfl rfl) (Gn (.t4 0 3 4 14) ?_))))))
 refine Gc (fun c1 => ?_) (fun c1 => ?_)
 ·
  have c1p := kz c1
  refine Gs (Gm rfl (Gt (Ah Hr rfl) (Gt (AG rfl CV .m2 Order.l4 rfl rfl) ?_)))
  refine BF rfl ZE (.c rfl (.c rfl .n)) (.c .h (.c (.t (.t .h)) .n)) (Ml _ T _ _ hg hF hu (by omega)) (fun w hS => ⟨gl0.pull gm0 hS (.c .h (.c (.t (.t .h)) .n)), gl1.pull gm1 hS (.c .h (.c (.t (.t .h)) .n))⟩) (fun v5 B hv => ?_)
  obtain ⟨y6, rfl, y7, rfl⟩ := hv
  refine Gm rfl (Gt (AM rfl rfl) (Gt (AM rfl rfl) (Ga rfl (Ga rfl (Gn (.t4 0 3 5 6) (CG (Gm rfl ?_)))))))
  refine Gt (BV rfl) (Gn (.t4 0 3 5 23) ?_)
  refine Gc (fun c2 => ?_) (fun c2 => ?_)
  ·
   have c2p := kz c2
   refine Ab (AD (AD ?_))
   refine AY rfl .n ?_
   intro w1 hS
   have hS := (hS.perm (Ax.perm (.c .h (.c .h .n)))).A1
   have hq : T.get o = _ := ((BB c1).trans (BB c2))
   refine ⟨_, ⟨?gq1, rfl, ?hl1, ?hB1⟩, hS⟩
   case hB1 => rw [hq]; (try rfl)
   case hl1 => rw [hq]; assumption
  have c2p := kz c2
  refine Aa ?_
  refine AB (.t3 0 3 5) ?_
  refine AA (AJ (Gm rfl (Gt (BT rfl) (Gt (Ah A9 rfl) (Gt (AZ rfl BW .m0 Ad.l0 rfl) (Gm rfl ?_))))))
  refine Ag rfl SZ (.c rfl (.c rfl (.c rfl .n))) .n (FF _ _ _) (fun v8 B hv => ?_)
  obtain ⟨y9, rfl, y10, rfl⟩ := hv
  refine Ga rfl (Gn (.t3 0 3 4) (Gs (Gm rfl (Gm rfl (Gt (Ah GK rfl) (Gt (AG rfl A3 .m4 Order.l1 rfl rfl) (Gt (Ah Fi rfl) ?_)))))))
  refine Gt (AG rfl CV .m4 Order.l3 rfl rfl) (Gt (Ah G5 rfl) (Gt (AG rfl Dj .m4 Order.l2 rfl rfl) ?_))
  refine Ag rfl Pa (.c rfl (.c rfl (.c rfl (.c rfl (.c rfl .n))))) (.c (.t .h) (.c .h .n)) (Ev _ (T.box o.second).1 _ _ ((T.box o.second).1.w.has 2 (T.box o.second).2.1) _ _ _ (hF.Ed (T.JW _).1 (T.JW _).2) (by assumption) (Nat.le_trans (AH.H6 _ _ _) (by decide)) (fun i hi => AH.Fp hi)) (fun v12 B hv => ?_)
  obtain ⟨y13, rfl, y14, rfl⟩ := hv
  refine Ga rfl (Gn (.t2 0 4) (CG (Gm rfl (Gt (Ar rfl Tryz.underlying169 rfl) (Gt (Ae rfl rfl) (Gn (.t3 0 4 41) ?_))))))
  refine Gc (fun c3 => ?_) (fun c3 => ?_)
  ·
   have c3p := kz c3
   rw [y14] at c3
   refine AJ (Gm rfl ?_)
   refine Ag rfl ED (.c rfl (.c rfl .n)) (.c .h (.c (.t (.t .h)) .n)) (Bc _ (T.box o.second).1 _ _ (by assumption) (by rw [(T.JW _).2]; exact hb) (by have := T.Hw o.second; omega)) (fun v16 B hv => ?_)
   obtain ⟨y17, rfl, y18, rfl⟩ := hv
   refine Gn (.t2 0 4) (Gs (Gm rfl (Gt (Ar rfl Tryz.underlying169 rfl) (Gm rfl (Gn (.t4 0 44 45 46) (Af ?_))))))
   refine Bo (.t4 46 0 44 45) ?_
   refine Be (.t .h) ?_
   refine Be (.t .h) ?_
   refine Dt (fun (k : Int) (X : AF) (h : Hd) => 0 ≤ k ∧ k ≤ ((AF.BP (T.box o.second).1.w ((T.box o.second).1.w.has 2 (T.box o.second).2.1) o.nth o.name o.Bj).length : Int) ∧ T.get o = X.DB ((AF.BP (T.box o.second).1.w ((T.box o.second).1.w.has 2 (T.box o.second).2.1) o.nth o.name o.Bj).drop k.toNat) ∧ X.b = T.b ∧ (X.out.length : Int) ≤ T.out.length + 2 + k ∧ h.len = X.out.length ∧ ((AF.BP (T.box o.second).1.w ((T.box o.second).1.w.has 2 (T.box o.second).2.1) o.nth o.name o.Bj).length : Int) ≤ 9) (fun (k : Int) (X : AF) (h : Hd) => (((AF.BP (T.box o.second).1.w ((T.box o.second).1.w.has 2 (T.box o.second).2.1) o.nth o.name o.Bj).length : Int) - k).toNat) (fun (k : Int) (X : AF) (h : Hd) => [(46, .int .i64 k)]) (fun (k : Int) (X : AF) (h : Hd) => [Ac.box b 163 (Ad.enc ⟨X.w, X.b, h⟩), Ac.own h 56 16 (X.out.flatMap Ing.Event.enc)]) (0) (_) (_) ?_ rfl rfl (fun k X h hI1 => ?_)
   · exact ⟨by omega, by omega, ((BB c1).trans (AW c2)).trans (congrArg (fun q => AF.DB q _) (BB c3)), (T.JW _).2, by have := T.Hw o.second; (try simp only [AF.CE]); omega, by assumption, by have := (AF.EU (T.box o.second).1.w ((T.box o.second).1.w.has 2 (T.box o.second).2.1) o.nth o.name o.Bj).length_le; have := AH.H6 (T.box o.second).1.w 2 (T.box o.second).2.1; omega⟩
   obtain ⟨hI11, hI12, hI13, hI14, hI15, hI16, hI17⟩ := hI1
   refine Gs (Gt (A8 rfl rfl) (AQ (AA (Ao ?_))))
   refine Gc (fun c4 => ?_) (fun c4 => ?_)
   ·
    have c4p := kz c4
    have hx : 0 ≤ (AF.BP (T.box o.second).1.w ((T.box o.second).1.w.has 2 (T.box o.second).2.1) o.nth o.name o.Bj).getD k.toNat 0 ∧ (AF.BP (T.box o.second).1.w ((T.box o.second).1.w.has 2 (T.box o.second).2.1) o.nth o.name o.Bj).getD k.toNat 0 < 9 := (fun i hi => AH.Fp (AF.Dn hi)) _ (Bb.Ep (xs := (AF.BP (T.box o.second).1.w ((T.box o.second).1.w.has 2 (T.box o.second).2.1) o.nth o.name o.Bj)) (i := k.toNat) (by omega))
    refine Aa ?_
    refine AB (.t4 0 44 45 46) ?_
    refine AA (Ao (Af (Gs ?_)))
    refine Gt (Br GW (by decide) (Kn.own .m3) rfl rfl (by omega) (by omega)) ?_
    refine Gt (DH rfl A3 (Kn.own .m3) (by omega)) ?_
    refine Ga rfl (Gn (.t5 0 8 44 45 46) (Gs (Gm rfl (Gm rfl (Gt (BT rfl) (Gt (Ah A9 rfl) (Gt (Ah Cw rfl) ?_)))))))
    refine Gt (AR GA rfl rfl (by first | omega | exact hb.1 | exact hb.2 | (dsimp only; omega)) (by first | omega | exact hb.1 | exact hb.2 | (dsimp only; omega))) ?_
    refine Ga rfl (Gn (.t6 0 8 9 44 45 46) (Gs (Gm rfl (Gm rfl (Gm rfl (Gt (BT rfl) (Gt (Ah CP rfl) ?_)))))))
    refine Gt (AG rfl A3 .m0 Ad.l1 rfl rfl) (Gt (BT rfl) (Gt (Ah FU rfl) ?_))
    refine AT (AK (((Ad.l0.comp AH.l1).comp (AU.ar (n := 9) Ak.fl (by first | omega | exact hb | (dsimp only; omega)))).comp Ak.l2) rfl rfl rfl C5 rfl .h) ?_
    refine Gt (BT rfl) (Gt (Ah DF rfl) ?_)
    refine AT (AK (((Ad.l0.comp AH.l1).comp (AU.ar (n := 9) Ak.fl (by first | omega | exact hb | (dsimp only; omega)))).comp Ak.l3) rfl rfl rfl C5 rfl .h) ?_
    refine Gn (.t5 0 8 44 45 46) ?_
    refine GC (fun _ => .h) (congrArg (fun q => Ad.enc ⟨q, _, _⟩) (AF.HM X hx.1 hx.2 1 X.b)) ?_
    refine AJ (Gm rfl (Gm rfl ?_))
    refine Ag rfl Nd (.c rfl (.c rfl (.c rfl .n))) (.c .h (.c .h .n)) (Dx _ (X.place ((AF.BP (T.box o.second).1.w ((T.box o.second).1.w.has 2 (T.box o.second).2.1) o.nth o.name o.Bj).getD k.toNat 0) 1 X.b) _ 3 ((AF.BP (T.box o.second).1.w ((T.box o.second).1.w.has 2 (T.box o.second).2.1) o.nth o.name o.Bj).getD k.toNat 0) (by assumption) (show 0 ≤ X.b ∧ X.b < 6 by rw [hI14]; exact hb) hx (show X.out.length ≤ 100000 by omega)) (fun v19 B hv => ?_)
    obtain ⟨y20, rfl, y21, rfl⟩ := hv
    refine AQ (AB (.t4 0 44 45 46) ?_)
    refine AV (AA (AJ ?_))
    refine Gt (Av rfl rfl (IntWalk.i64_in _ (by first | omega | exact hb.1 | exact hb.2 | (dsimp only; omega)))) ?_
    refine Gm rfl ?_
    refine AQ (AB (.t4 0 44 45 46) ?_)
    refine Bz (k + 1) _ _ ?_ ?_ (.t4 46 0 44 45) (.refl _)
    · exact ⟨by omega, by omega, by rw [hI13, AF.G8 hI11 (by omega)], hI14, (by rw [AF.FV]; show ((X.out.length + 1 : Nat) : Int) ≤ _; omega), by assumption, hI17⟩
    · omega
   have c4p := kz c4
   obtain rfl : k = ((AF.BP (T.box o.second).1.w ((T.box o.second).1.w.has 2 (T.box o.second).2.1) o.nth o.name o.Bj).length : Int) := by omega
   rw [AF.JX] at hI13
   refine Bf (AX (AX (Ai ?_)))
   refine Bk rfl .n ?_
   intro w1 hS
   have hS := (hS.perm (Ax.perm (.c .h (.c .h .n)))).A1
   refine ⟨_, ⟨?gq2, rfl, ?hl2, ?hB2⟩, hS⟩
   case hB2 => rw [hI13]; rfl
   case hl2 => rw [hI13]; exact hI16
  have c3p := kz c3
  rw [y14] at c3
  refine Aa ?_
  refine AB (.t2 0 4) ?_
  refine AA (Gs (Gm rfl (Gt (Ar rfl Tryz.underlying169 rfl) (Gm rfl (Gn (.t4 0 44 45 46) (Af ?_))))))
  refine Bo (.t4 46 0 44 45) ?_
  refine Be (.t (.t (.t .h))) ?_
  refine Be (.t .h) ?_
  refine Dt (fun (k : Int) (X : AF) (h : Hd) => 0 ≤ k ∧ k ≤ ((AF.BP (T.box o.second).1.w ((T.box o.second).1.w.has 2 (T.box o.second).2.1) o.nth o.name o.Bj).length : Int) ∧ T.get o = X.DB ((AF.BP (T.box o.second).1.w ((T.box o.second).1.w.has 2 (T.box o.second).2.1) o.nth o.name o.Bj).drop k.toNat) ∧ X.b = T.b ∧ (X.out.length : Int) ≤ T.out.length + 2 + k ∧ h.len = X.out.length ∧ ((AF.BP (T.box o.second).1.w ((T.box o.second).1.w.has 2 (T.box o.second).2.1) o.nth o.name o.Bj).length : Int) ≤ 9) (fun (k : Int) (X : AF) (h : Hd) => (((AF.BP (T.box o.second).1.w ((T.box o.second).1.w.has 2 (T.box o.second).2.1) o.nth o.name o.Bj).length : Int) - k).toNat) (fun (k : Int) (X : AF) (h : Hd) => [(46, .int .i64 k)]) (fun (k : Int) (X : AF) (h : Hd) => [Ac.box b 163 (Ad.enc ⟨X.w, X.b, h⟩), Ac.own h 56 16 (X.out.flatMap Ing.Event.enc)]) (0) (_) (_) ?_ rfl rfl (fun k X h hI1 => ?_)
  · exact ⟨by omega, by omega, ((BB c1).trans (AW c2)).trans (congrArg (fun q => AF.DB q _) (AW c3)), (T.JW _).2, by have := T.Hw o.second; (try simp only [AF.CE]); omega, by assumption, by have := (AF.EU (T.box o.second).1.w ((T.box o.second).1.w.has 2 (T.box o.second).2.1) o.nth o.name o.Bj).length_le; have := AH.H6 (T.box o.second).1.w 2 (T.box o.second).2.1; omega⟩
  obtain ⟨hI11, hI12, hI13, hI14, hI15, hI16, hI17⟩ := hI1
  refine Gs (Gt (A8 rfl rfl) (AQ (AA (Ao ?_))))
  refine Gc (fun c5 => ?_) (fun c5 => ?_)
  ·
   have c5p := kz c5
   have hx : 0 ≤ (AF.BP (T.box o.second).1.w ((T.box o.second).1.w.has 2 (T.box o.second).2.1) o.nth o.name o.Bj).getD k.toNat 0 ∧ (AF.BP (T.box o.second).1.w ((T.box o.second).1.w.has 2 (T.box o.second).2.1) o.nth o.name o.Bj).getD k.toNat 0 < 9 := (fun i hi => AH.Fp (AF.Dn hi)) _ (Bb.Ep (xs := (AF.BP (T.box o.second).1.w ((T.box o.second).1.w.has 2 (T.box o.second).2.1) o.nth o.name o.Bj)) (i := k.toNat) (by omega))
   refine Aa ?_
   refine AB (.t4 0 44 45 46) ?_
   refine AA (Ao (Af (Gs ?_)))
   refine Gt (Br GW (by decide) (Kn.own .m3) rfl rfl (by omega) (by omega)) ?_
   refine Gt (DH rfl A3 (Kn.own .m3) (by omega)) ?_
   refine Ga rfl (Gn (.t5 0 8 44 45 46) (Gs (Gm rfl (Gm rfl (Gt (BT rfl) (Gt (Ah A9 rfl) (Gt (Ah Cw rfl) ?_)))))))
   refine Gt (AR GA rfl rfl (by first | omega | exact hb.1 | exact hb.2 | (dsimp only; omega)) (by first | omega | exact hb.1 | exact hb.2 | (dsimp only; omega))) ?_
   refine Ga rfl (Gn (.t6 0 8 9 44 45 46) (Gs (Gm rfl (Gm rfl (Gm rfl (Gt (BT rfl) (Gt (Ah CP rfl) ?_)))))))
   refine Gt (AG rfl A3 .m0 Ad.l1 rfl rfl) (Gt (BT rfl) (Gt (Ah FU rfl) ?_))
   refine AT (AK (((Ad.l0.comp AH.l1).comp (AU.ar (n := 9) Ak.fl (by first | omega | exact hb | (dsimp only; omega)))).comp Ak.l2) rfl rfl rfl C5 rfl .h) ?_
   refine Gt (BT rfl) (Gt (Ah DF rfl) ?_)
   refine AT (AK (((Ad.l0.comp AH.l1).comp (AU.ar (n := 9) Ak.fl (by first | omega | exact hb | (dsimp only; omega)))).comp Ak.l3) rfl rfl rfl C5 rfl .h) ?_
   refine Gn (.t5 0 8 44 45 46) ?_
   refine GC (fun _ => .h) (congrArg (fun q => Ad.enc ⟨q, _, _⟩) (AF.HM X hx.1 hx.2 1 X.b)) ?_
   refine AJ (Gm rfl (Gm rfl ?_))
   refine Ag rfl Nd (.c rfl (.c rfl (.c rfl .n))) (.c .h (.c .h .n)) (Dx _ (X.place ((AF.BP (T.box o.second).1.w ((T.box o.second).1.w.has 2 (T.box o.second).2.1) o.nth o.name o.Bj).getD k.toNat 0) 1 X.b) _ 3 ((AF.BP (T.box o.second).1.w ((T.box o.second).1.w.has 2 (T.box o.second).2.1) o.nth o.name o.Bj).getD k.toNat 0) (by assumption) (show 0 ≤ X.b ∧ X.b < 6 by rw [hI14]; exact hb) hx (show X.out.length ≤ 100000 by omega)) (fun v22 B hv => ?_)
   obtain ⟨y23, rfl, y24, rfl⟩ := hv
   refine AQ (AB (.t4 0 44 45 46) ?_)
   refine AV (AA (AJ ?_))
   refine Gt (Av rfl rfl (IntWalk.i64_in _ (by first | omega | exact hb.1 | exact hb.2 | (dsimp only; omega)))) ?_
   refine Gm rfl ?_
   refine AQ (AB (.t4 0 44 45 46) ?_)
   refine Bz (k + 1) _ _ ?_ ?_ (.t4 46 0 44 45) (.refl _)
   · exact ⟨by omega, by omega, by rw [hI13, AF.G8 hI11 (by omega)], hI14, (by rw [AF.FV]; show ((X.out.length + 1 : Nat) : Int) ≤ _; omega), by assumption, hI17⟩
   · omega
  have c5p := kz c5
  obtain rfl : k = ((AF.BP (T.box o.second).1.w ((T.box o.second).1.w.has 2 (T.box o.second).2.1) o.nth o.name o.Bj).length : Int) := by omega
  rw [AF.JX] at hI13
  refine Bf (AX (AX (Ai ?_)))
  refine Bk rfl .n ?_
  intro w1 hS
  have hS := (hS.perm (Ax.perm (.c .h (.c .h .n)))).A1
  refine ⟨_, ⟨?gq3, rfl, ?hl3, ?hB3⟩, hS⟩
  case hB3 => rw [hI13]; rfl
  case hl3 => rw [hI13]; exact hI16
 have c1p := kz c1
 refine Aa ?_
 refine AB (.t3 0 3 4) ?_
 refine AA (Gs (Gm rfl (Gm rfl (Gt (Ah GK rfl) (Gt (AG rfl A3 .m2 Order.l1 rfl rfl) (Gt (Ah Fi rfl) (Gt (AG rfl CV .m2 Order.l3 rfl rfl) ?_)))))))
 refine Gt (Ah G5 rfl) (Gt (AG rfl Dj .m2 Order.l2 rfl rfl) ?_)
 refine Ag rfl Pa (.c rfl (.c rfl (.c rfl (.c rfl (.c rfl .n))))) (.c .h (.c .h .n)) (Ev _ T _ _ T.seen _ _ _ hF (by assumption) (Nat.le_trans T.Ip (by decide)) (fun i hi => AF.N2 hi)) (fun v25 B hv => ?_)
 obtain ⟨y26, rfl, y27, rfl⟩ := hv
 refine Ga rfl (Gn (.t2 0 4) (CG (Gm rfl (Gt (Ar rfl Tryz.underlying169 rfl) (Gt (Ae rfl rfl) (Gn (.t3 0 4 41) ?_))))))
 refine Gc (fun c6 => ?_) (fun c6 => ?_)
 ·
  have c6p := kz c6
  rw [y27] at c6
  refine AJ (Gm rfl ?_)
  refine Ag rfl ED (.c rfl (.c rfl .n)) (.c .h (.c (.t (.t (.t .h))) .n)) (Bc _ T _ _ (by assumption) (by exact hb) (by have := T.Hw o.second; omega)) (fun v29 B hv => ?_)
  obtain ⟨y30, rfl, y31, rfl⟩ := hv
  refine Gn (.t2 0 4) (Gs (Gm rfl (Gt (Ar rfl Tryz.underlying169 rfl) (Gm rfl (Gn (.t4 0 44 45 46) (Af ?_))))))
  refine Bo (.t4 46 0 44 45) ?_
  refine Be (.t .h) ?_
  refine Be (.t .h) ?_
  refine Dt (fun (k : Int) (X : AF) (h : Hd) => 0 ≤ k ∧ k ≤ ((AF.BP T.w T.seen o.nth o.name o.Bj).length : Int) ∧ T.get o = X.DB ((AF.BP T.w T.seen o.nth o.name o.Bj).drop k.toNat) ∧ X.b = T.b ∧ (X.out.length : Int) ≤ T.out.length + 2 + k ∧ h.len = X.out.length ∧ ((AF.BP T.w T.seen o.nth o.name o.Bj).length : Int) ≤ 9) (fun (k : Int) (X : AF) (h : Hd) => (((AF.BP T.w T.seen o.nth o.name o.Bj).length : Int) - k).toNat) (fun (k : Int) (X : AF) (h : Hd) => [(46, .int .i64 k)]) (fun (k : Int) (X : AF) (h : Hd) => [Ac.box b 163 (Ad.enc ⟨X.w, X.b, h⟩), Ac.own h 56 16 (X.out.flatMap Ing.Event.enc)]) (0) (_) (_) ?_ rfl rfl (fun k X h hI1 => ?_)
  · exact ⟨by omega, by omega, (AW c1).trans (congrArg (fun q => AF.DB q _) (BB c6)), rfl, by have := T.Hw o.second; (try simp only [AF.CE]); omega, by assumption, by have := (AF.EU T.w T.seen o.nth o.name o.Bj).length_le; have := T.Ip; omega⟩
  obtain ⟨hI11, hI12, hI13, hI14, hI15, hI16, hI17⟩ := hI1
  refine Gs (Gt (A8 rfl rfl) (AQ (AA (Ao ?_))))
  refine Gc (fun c7 => ?_) (fun c7 => ?_)
  ·
   have c7p := kz c7
   have hx : 0 ≤ (AF.BP T.w T.seen o.nth o.name o.Bj).getD k.toNat 0 ∧ (AF.BP T.w T.seen o.nth o.name o.Bj).getD k.toNat 0 < 9 := (fun i hi => AF.N2 (AF.Dn hi)) _ (Bb.Ep (xs := (AF.BP T.w T.seen o.nth o.name o.Bj)) (i := k.toNat) (by omega))
   refine Aa ?_
   refine AB (.t4 0 44 45 46) ?_
   refine AA (Ao (Af (Gs ?_)))
   refine Gt (Br GW (by decide) (Kn.own .m3) rfl rfl (by omega) (by omega)) ?_
   refine Gt (DH rfl A3 (Kn.own .m3) (by omega)) ?_
   refine Ga rfl (Gn (.t5 0 8 44 45 46) (Gs (Gm rfl (Gm rfl (Gt (BT rfl) (Gt (Ah A9 rfl) (Gt (Ah Cw rfl) ?_)))))))
   refine Gt (AR GA rfl rfl (by first | omega | exact hb.1 | exact hb.2 | (dsimp only; omega)) (by first | omega | exact hb.1 | exact hb.2 | (dsimp only; omega))) ?_
   refine Ga rfl (Gn (.t6 0 8 9 44 45 46) (Gs (Gm rfl (Gm rfl (Gm rfl (Gt (BT rfl) (Gt (Ah CP rfl) ?_)))))))
   refine Gt (AG rfl A3 .m0 Ad.l1 rfl rfl) (Gt (BT rfl) (Gt (Ah FU rfl) ?_))
   refine AT (AK (((Ad.l0.comp AH.l1).comp (AU.ar (n := 9) Ak.fl (by first | omega | exact hb | (dsimp only; omega)))).comp Ak.l2) rfl rfl rfl C5 rfl .h) ?_
   refine Gt (BT rfl) (Gt (Ah DF rfl) ?_)
   refine AT (AK (((Ad.l0.comp AH.l1).comp (AU.ar (n := 9) Ak.fl (by first | omega | exact hb | (dsimp only; omega)))).comp Ak.l3) rfl rfl rfl C5 rfl .h) ?_
   refine Gn (.t5 0 8 44 45 46) ?_
   refine GC (fun _ => .h) (congrArg (fun q => Ad.enc ⟨q, _, _⟩) (AF.HM X hx.1 hx.2 1 X.b)) ?_
   refine AJ (Gm rfl (Gm rfl ?_))
   refine Ag rfl Nd (.c rfl (.c rfl (.c rfl .n))) (.c .h (.c .h .n)) (Dx _ (X.place ((AF.BP T.w T.seen o.nth o.name o.Bj).getD k.toNat 0) 1 X.b) _ 3 ((AF.BP T.w T.seen o.nth o.name o.Bj).getD k.toNat 0) (by assumption) (show 0 ≤ X.b ∧ X.b < 6 by rw [hI14]; exact hb) hx (show X.out.length ≤ 100000 by omega)) (fun v32 B hv => ?_)
   obtain ⟨y33, rfl, y34, rfl⟩ := hv
   refine AQ (AB (.t4 0 44 45 46) ?_)
   refine AV (AA (AJ ?_))
   refine Gt (Av rfl rfl (IntWalk.i64_in _ (by first | omega | exact hb.1 | exact hb.2 | (dsimp only; omega)))) ?_
   refine Gm rfl ?_
   refine AQ (AB (.t4 0 44 45 46) ?_)
   refine Bz (k + 1) _ _ ?_ ?_ (.t4 46 0 44 45) (.refl _)
   · exact ⟨by omega, by omega, by rw [hI13, AF.G8 hI11 (by omega)], hI14, (by rw [AF.FV]; show ((X.out.length + 1 : Nat) : Int) ≤ _; omega), by assumption, hI17⟩
   · omega
  have c7p := kz c7
  obtain rfl : k = ((AF.BP T.w T.seen o.nth o.name o.Bj).length : Int) := by omega
  rw [AF.JX] at hI13
  refine Bf (AX (AX (Ai ?_)))
  refine Bk rfl .n ?_
  intro w1 hS
  have hS := (hS.perm (Ax.perm (.c .h (.c .h .n)))).A1
  refine ⟨_, ⟨?gq4, rfl, ?hl4, ?hB4⟩, hS⟩
  case hB4 => rw [hI13]; rfl
  case hl4 => rw [hI13]; exact hI16
 have c6p := kz c6
 rw [y27] at c6
 refine Aa ?_
 refine AB (.t2 0 4) ?_
 refine AA (Gs (Gm rfl (Gt (Ar rfl Tryz.underlying169 rfl) (Gm rfl (Gn (.t4 0 44 45 46) (Af ?_))))))
 refine Bo (.t4 46 0 44 45) ?_
 refine Be (.t (.t (.t (.t .h)))) ?_
 refine Be (.t .h) ?_
 refine Dt (fun (k : Int) (X : AF) (h : Hd) => 0 ≤ k ∧ k ≤ ((AF.BP T.w T.seen o.nth o.name o.Bj).length : Int) ∧ T.get o = X.DB ((AF.BP T.w T.seen o.nth o.name o.Bj).drop k.toNat) ∧ X.b = T.b ∧ (X.out.length : Int) ≤ T.out.length + 2 + k ∧ h.len = X.out.length ∧ ((AF.BP T.w T.seen o.nth o.name o.Bj).length : Int) ≤ 9) (fun (k : Int) (X : AF) (h : Hd) => (((AF.BP T.w T.seen o.nth o.name o.Bj).length : Int) - k).toNat) (fun (k : Int) (X : AF) (h : Hd) => [(46, .int .i64 k)]) (fun (k : Int) (X : AF) (h : Hd) => [Ac.box b 163 (Ad.enc ⟨X.w, X.b, h⟩), Ac.own h 56 16 (X.out.flatMap Ing.Event.enc)]) (0) (_) (_) ?_ rfl rfl (fun k X h hI1 => ?_)
 · exact ⟨by omega, by omega, (AW c1).trans (congrArg (fun q => AF.DB q _) (AW c6)), rfl, by have := T.Hw o.second; (try simp only [AF.CE]); omega, by assumption, by have := (AF.EU T.w T.seen o.nth o.name o.Bj).length_le; have := T.Ip; omega⟩
 obtain ⟨hI11, hI12, hI13, hI14, hI15, hI16, hI17⟩ := hI1
 refine Gs (Gt (A8 rfl rfl) (AQ (AA (Ao ?_))))
 refine Gc (fun c8 => ?_) (fun c8 => ?_)
 ·
  have c8p := kz c8
  have hx : 0 ≤ (AF.BP T.w T.seen o.nth o.name o.Bj).getD k.toNat 0 ∧ (AF.BP T.w T.seen o.nth o.name o.Bj).getD k.toNat 0 < 9 := (fun i hi => AF.N2 (AF.Dn hi)) _ (Bb.Ep (xs := (AF.BP T.w T.seen o.nth o.name o.Bj)) (i := k.toNat) (by omega))
  refine Aa ?_
  refine AB (.t4 0 44 45 46) ?_
  refine AA (Ao (Af (Gs ?_)))
  refine Gt (Br GW (by decide) (Kn.own .m3) rfl rfl (by omega) (by omega)) ?_
  refine Gt (DH rfl A3 (Kn.own .m3) (by omega)) ?_
  refine Ga rfl (Gn (.t5 0 8 44 45 46) (Gs (Gm rfl (Gm rfl (Gt (BT rfl) (Gt (Ah A9 rfl) (Gt (Ah Cw rfl) ?_)))))))
  refine Gt (AR GA rfl rfl (by first | omega | exact hb.1 | exact hb.2 | (dsimp only; omega)) (by first | omega | exact hb.1 | exact hb.2 | (dsimp only; omega))) ?_
  refine Ga rfl (Gn (.t6 0 8 9 44 45 46) (Gs (Gm rfl (Gm rfl (Gm rfl (Gt (BT rfl) (Gt (Ah CP rfl) ?_)))))))
  refine Gt (AG rfl A3 .m0 Ad.l1 rfl rfl) (Gt (BT rfl) (Gt (Ah FU rfl) ?_))
  refine AT (AK (((Ad.l0.comp AH.l1).comp (AU.ar (n := 9) Ak.fl (by first | omega | exact hb | (dsimp only; omega)))).comp Ak.l2) rfl rfl rfl C5 rfl .h) ?_
  refine Gt (BT rfl) (Gt (Ah DF rfl) ?_)
  refine AT (AK (((Ad.l0.comp AH.l1).comp (AU.ar (n := 9) Ak.fl (by first | omega | exact hb | (dsimp only; omega)))).comp Ak.l3) rfl rfl rfl C5 rfl .h) ?_
  refine Gn (.t5 0 8 44 45 46) ?_
  refine GC (fun _ => .h) (congrArg (fun q => Ad.enc ⟨q, _, _⟩) (AF.HM X hx.1 hx.2 1 X.b)) ?_
  refine AJ (Gm rfl (Gm rfl ?_))
  refine Ag rfl Nd (.c rfl (.c rfl (.c rfl .n))) (.c .h (.c .h .n)) (Dx _ (X.place ((AF.BP T.w T.seen o.nth o.name o.Bj).getD k.toNat 0) 1 X.b) _ 3 ((AF.BP T.w T.seen o.nth o.name o.Bj).getD k.toNat 0) (by assumption) (show 0 ≤ X.b ∧ X.b < 6 by rw [hI14]; exact hb) hx (show X.out.length ≤ 100000 by omega)) (fun v35 B hv => ?_)
  obtain ⟨y36, rfl, y37, rfl⟩ := hv
  refine AQ (AB (.t4 0 44 45 46) ?_)
  refine AV (AA (AJ ?_))
  refine Gt (Av rfl rfl (IntWalk.i64_in _ (by first | omega | exact hb.1 | exact hb.2 | (dsimp only; omega)))) ?_
  refine Gm rfl ?_
  refine AQ (AB (.t4 0 44 45 46) ?_)
  refine Bz (k + 1) _ _ ?_ ?_ (.t4 46 0 44 45) (.refl _)
  · exact ⟨by omega, by omega, by rw [hI13, AF.G8 hI11 (by omega)], hI14, (by rw [AF.FV]; show ((X.out.length + 1 : Nat) : Int) ≤ _; omega), by assumption, hI17⟩
  · omega
 have c8p := kz c8
 obtain rfl : k = ((AF.BP T.w T.seen o.nth o.name o.Bj).length : Int) := by omega
 rw [AF.JX] at hI13
 refine Bf (AX (AX (Ai ?_)))
 refine Bk rfl .n ?_
 intro w1 hS
 have hS := (hS.perm (Ax.perm (.c .h (.c .h .n)))).A1
 refine ⟨_, ⟨?gq5, rfl, ?hl5, ?hB5⟩, hS⟩
 case hB5 => rw [hI13]; rfl
 case hl5 => rw [hI13]; exact hI16
theorem MT (X : AH) (i box : Int) (w : World) : Ei Tryz.prog 137 #[.agg X.enc.toArray, .int .i64 i, .int .i64 box] w fun v w' => v = .bool (X.TH i box) ∧ CB w w' := by
 refine Al [] [] Tryz.func137 rfl rfl rfl (St.start w []) ?_
 refine Gs ?_
 refine B4 rfl rfl rfl (fun b1 => ?_)
 refine Ga rfl (Gn (.t3 1 2 3) (CG (Gm rfl (AQ (AA (Af ?_))))))
 refine Bo (.t4 1 7 2 3) ?_
 refine Gk (fun (k : Int) (j : Int) => 0 ≤ k ∧ k ≤ 10 ∧ X.TH i box = X.inside box (10 - k).toNat j) (fun (k : Int) (j : Int) => (10 - k).toNat) (fun (k : Int) (j : Int) => [(1, .int .i64 j), (7, .int .i64 k)]) (fun (k : Int) (j : Int) => []) (0) (i) ?_ rfl rfl (fun k j hI1 => ?_)
 · exact ⟨Int.le_refl _, by omega, rfl⟩
 obtain ⟨hI11, hI12, hI13⟩ := hI1
 refine Gs (Gt (A8 rfl rfl) (AQ (AA (Ao ?_))))
 refine Gc (fun c1 => ?_) (fun c1 => ?_)
 ·
  have c1p := kz c1
  rw [show (10 - k).toNat = (10 - (k + 1)).toNat + 1 from by omega, AH.inside] at hI13
  refine Aa ?_
  refine AB (.t4 1 2 3 7) ?_
  refine AA (Ao (Af (CG (Gm rfl (Gm rfl (Gt (Ae rfl rfl) (Gn (.t5 1 2 3 7 11) ?_)))))))
  refine Gc (fun c2 => ?_) (fun c2 => ?_)
  ·
   refine Gs (Ga rfl (Gn (.t1 6) (Ab (AD (AS (AD (AD ?_)))))))
   refine AS (AD ?_)
   refine AY rfl (.tmp rfl .n) ?_
   intro w1 hS; refine ⟨congrArg Value.bool ?_, hS.Am⟩; rw [hI13]; simp only [c1, c2, ↓reduceIte, Bool.false_eq_true]
  have c2p := kz c2
  refine Aa ?_
  refine AB (.t4 1 2 3 7) ?_
  refine AA (CG (Gm rfl (Gt (A8 rfl rfl) (Gm rfl (Ba 14 rfl rfl (fun q => AE rfl) (Ba 14 rfl rfl (fun q => CN (cF rfl q) rfl) ?_))))))
  refine Gt (BR rfl rfl (fun h => by rw [h]; rfl)) ?_
  refine Gm rfl (Ba 18 rfl rfl (fun q => AE rfl) (Ba 18 rfl rfl (fun q => Ah Cw rfl) ?_))
  refine Ba 18 rfl rfl (fun q => by have q1 := q; (try simp at q1); exact AR GA (cF rfl q) (cF rfl q) (by omega) (by omega)) ?_
  refine Ba 18 rfl rfl (fun q => Ah FU (cF rfl q)) ?_
  refine Ba 18 rfl rfl (fun q => by have q1 := q; (try simp at q1); exact AG (cF rfl q) A3 .m0 ((AH.l1.comp (AU.ar (n := 9) Ak.fl (by omega))).comp Ak.l2) rfl rfl) ?_
  refine Ba 18 rfl rfl (fun q => CX (cF rfl q) rfl) ?_
  refine Gt (BR rfl rfl (fun h => by rw [h]; rfl)) ?_
  refine Gn (.t5 1 2 3 7 25) ?_
  refine Gc (fun c3 => ?_) (fun c3 => ?_)
  ·
   refine Gs (Ga rfl (Gn (.t1 6) (Ab (AD (AS (AD (AD ?_)))))))
   refine AS (AD ?_)
   refine AY rfl (.tmp rfl .n) ?_
   intro w1 hS; refine ⟨congrArg Value.bool ?_, hS.Am⟩; rw [hI13]; simp only [c1, c2, c3, ↓reduceIte, Bool.false_eq_true]
  have c3p := kz c3
  have h9 : 0 ≤ j ∧ j < 9 := by simp at c3; omega
  refine Aa ?_
  refine AB (.t4 1 2 3 7) ?_
  refine AA (AJ (Gm rfl (Gt (Ah Cw rfl) ?_)))
  refine Gt (AR GA rfl rfl (by omega) (by omega)) ?_
  refine Gt (Ah DF rfl) ?_
  refine Gt (AG rfl A3 .m0 ((AH.l1.comp (AU.ar (n := 9) Ak.fl (by omega))).comp Ak.l3) rfl rfl) ?_
  refine Ga rfl ?_
  refine AQ (AB (.t4 1 2 3 7) ?_)
  refine AV (AA (AJ ?_))
  refine Gt (Av rfl rfl (IntWalk.i64_in _ (by omega))) ?_
  refine Gm rfl ?_
  refine AQ (AB (.t4 1 2 3 7) ?_)
  refine Cq (k + 1) ((X.AO.at j).at_) ?_ ?_ (.t4 1 7 2 3) (.refl _)
  · exact ⟨by omega, by omega, by rw [hI13]; simp only [c1, c2, c3, ↓reduceIte, Bool.false_eq_true]⟩
  · omega
 have c1p := kz c1
 obtain rfl : k = 10 := by omega
 refine Bf (AX (AX (Ai ?_)))
 refine AB (.nil _) ?_
 refine AA (Gs (Ga rfl (AQ (AA (Ab ?_)))))
 refine AY rfl (.tmp rfl .n) ?_
 intro w1 hS; refine ⟨congrArg Value.bool ?_, hS.Am⟩; rw [hI13]; rfl
end Go.Proofs.YtoidpggbbfncpaaGreatDoor
