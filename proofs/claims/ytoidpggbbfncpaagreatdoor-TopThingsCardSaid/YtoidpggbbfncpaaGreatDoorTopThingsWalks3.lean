/- What the functions that the law TopThings reaches compute: walks, part 3. No condition. -/
import Derived.Test.YtoidpggbbfncpaaGreatDoorCards
import Derived.Test.YtoidpggbbfncpaaGreatDoorTie
import Derived.Deep.DeepHandedRow
import Derived.Test.YtoidpggbbfncpaaGreatDoorRows
import Derived.Test.YtoidpggbbfncpaaGreatDoorTopThingsEc3
import Derived.Test.YtoidpggbbfncpaaGreatDoorTopThingsRa1
import Derived.Test.YtoidpggbbfncpaaGreatDoorTopThingsRb1
import Derived.Test.YtoidpggbbfncpaaGreatDoorTopThingsRc1
import Derived.Test.YtoidpggbbfncpaaGreatDoorTopThingsWalks
import Derived.Test.YtoidpggbbfncpaaGreatDoorTopThingsWalks2
set_option linter.unusedSimpArgs false
set_option linter.unusedVariables false
set_option maxRecDepth 100000
set_option maxHeartbeats 1000000
namespace Go.Proofs.YtoidpggbbfncpaaGreatDoor
open Go Go.Ing Go.RowKit Go.ChangeShapes Go.WideShapes Go.ChangeAt
theorem FC (u : Ap) (hu : u.length ≤ 5000000) (w : World) (gl0 : Gk 7 w) (gl1 : Gk 8 w) : Ef Tryz.prog 154 #[BT u] w fun v w' => v = .tuple #[.int .i64 (Words.ED u).1, BT (Words.ED u).2.1, .bool (Words.ED u).2.2.1, .int .i64 (Words.ED u).2.2.2] ∧ CA w w' := by
 have hcut := Words.ND 46 u
 refine Al [] [] Tryz.func154 rfl rfl rfl (St.start w []) ?_
 refine Gs (Ga rfl (Ga rfl (Ga rfl (Ga rfl (Gn (.t1 0) (CD (Gm rfl ?_)))))))
 refine Gt (Bu rfl rfl) (Gn (.t2 0 14) ?_)
 refine Gc (fun c1 => ?_) (fun c1 => ?_)
 ·
  refine Gs (Ga rfl (Ga rfl (Ga rfl (Ga rfl (Gn (.t4 2 3 4 5) (Ab (AD ?_)))))))
  refine AY rfl (.tmp rfl (.tmp rfl (.tmp rfl (.tmp rfl .n)))) ?_
  intro w1 hS; refine ⟨?_, hS.Am⟩; rw [show Words.ED u = _ from (BB c1)]; rfl
 have c1p := kz c1
 refine Aa ?_
 refine AB (.t1 0) ?_
 refine AA (CD (Gm rfl ?_))
 refine BA rfl bw (.c rfl (.c rfl .n)) (fun w hS => I5 _ _ w) ?_
 refine Gm rfl (Gt (AM rfl rfl) (Gt (AM rfl rfl) (Ga rfl (Ga rfl (Gn (.t3 0 6 7) (Gs (Gm rfl ?_)))))))
 refine Gm rfl (Bm 21 rfl rfl (fun q => AF rfl) (Bm 21 rfl rfl (fun q => Df (Bh rfl q) rfl) (Gt (BJ rfl rfl (fun h => h)) (Gm rfl (Bm 25 rfl rfl (fun q => AF rfl) ?_)))))
 refine L4 (t := 25) rfl rfl rfl (fun q => D5 Y0 (.c (Bh rfl q) (.c rfl .n)) (fun w hS => F0 _ 46 w)) ?_
 refine Bm 25 rfl rfl (fun q => BX (Bh rfl q)) (Gt (BJ rfl rfl (fun h => h)) (Gn (.t3 0 6 29) ?_))
 refine Gc (fun c2 => ?_) (fun c2 => ?_)
 ·
  refine Gs (Gm rfl (Ga rfl (Ga rfl (Ga rfl (Ga rfl (Gn (.t4 2 3 4 5) (Ab ?_)))))))
  refine AD ?_
  refine AY rfl (.tmp rfl (.tmp rfl (.tmp rfl (.tmp rfl .n)))) ?_
  intro w1 hS; refine ⟨?_, hS.Am⟩; rw [show Words.ED u = _ from ((AW c1).trans (BB c2))]; rfl
 have c2p := kz c2
 refine Aa ?_
 refine AB (.t1 0) ?_
 refine AA (Gs (Gm rfl ?_))
 refine BA rfl bO (.c rfl (.c rfl .n)) (fun w hS => IP _ 46 (by omega) w) ?_
 refine Gm rfl (Gt (AM rfl rfl) (Gt (AM rfl rfl) (Gt (AM rfl rfl) (Ga rfl (Ga rfl (Ga rfl (Gn (.t4 0 8 9 10) ?_)))))))
 refine CD (Gm rfl (Gt (BX rfl) (Gn (.t4 0 8 9 38) ?_)))
 refine Gc (fun c3 => ?_) (fun c3 => ?_)
 ·
  refine CD (Gm rfl (Gt (Bu rfl rfl) (Gn (.t2 0 40) ?_)))
  refine Gc (fun c4 => ?_) (fun c4 => ?_)
  ·
   refine Gs (Ga rfl (Ga rfl (Ga rfl (Ga rfl (Gn (.t4 2 3 4 5) (Ab (AD ?_)))))))
   refine AD ?_
   refine AY rfl (.tmp rfl (.tmp rfl (.tmp rfl (.tmp rfl .n)))) ?_
   intro w1 hS; refine ⟨?_, hS.Am⟩; rw [show Words.ED u = _ from ((AW c1).trans ((AW c2).trans ((BB c3).trans (BB c4))))]; rfl
  refine Aa ?_
  refine AB (.t1 0) ?_
  refine AA (Gs (Gm rfl (Ga rfl (Ga rfl (Ga rfl (Ga rfl (Gn (.t4 2 3 4 5) ?_)))))))
  refine Ab (AD ?_)
  refine AY rfl (.tmp rfl (.tmp rfl (.tmp rfl (.tmp rfl .n)))) ?_
  intro w1 hS; refine ⟨?_, hS.Am⟩; rw [show Words.ED u = _ from ((AW c1).trans ((AW c2).trans ((BB c3).trans (AW c4))))]; rfl
 have c3p := kz c3
 refine Aa ?_
 refine AB (.t2 8 9) ?_
 refine AA (Gs (Gm rfl ?_))
 refine BE rfl bg (.c rfl .n) .n (LK _ (by omega)) (fun w hS => ⟨gl0.st hS, gl1.st hS⟩) (fun v1 B hv => ?_)
 rcases hv with ⟨y2, y3, rfl, rfl⟩ | ⟨y4, y5, y6, y7, rfl, rfl⟩
 ·
  refine Gm rfl (Gt (AM rfl rfl) (Gt (AM rfl rfl) (Ga rfl (Ga rfl (Gn (.t4 8 9 11 12) (CD (Gm rfl ?_)))))))
  refine Gt (RY Tryz.underlying109 rfl) (Gm rfl ?_)
  refine EJ (t := 49) rfl rfl rfl (AF rfl) ?_
  refine EJ (t := 49) rfl rfl rfl (A9 rfl rfl) ?_
  refine Gt (Dx rfl rfl) (Gm rfl (Bc 53 rfl rfl (fun q => AF rfl) (Bc 53 rfl rfl (fun q => Ci (cF rfl q) rfl) ?_)))
  refine Gt (BS rfl rfl (fun h => by rw [h]; rfl)) ?_
  refine Gm rfl (Bc 57 rfl rfl (fun q => AF rfl) ?_)
  refine Bc 57 rfl rfl (fun q => by have q1 := q; (try simp at q1); exact Bk Tryz.underlying9 (cF rfl q) rfl (by decide) (by first | omega | (have hq := Words.SP (by assumption); omega))) ?_
  refine Bc 57 rfl rfl (fun q => A9 (cF rfl q) rfl) ?_
  refine Gt (BS rfl rfl (fun h => by rw [h]; rfl)) ?_
  refine Gm rfl (Bc 62 rfl rfl (fun q => AF rfl) ?_)
  refine Bc 62 rfl rfl (fun q => by have q1 := q; (try simp at q1); exact Bk Tryz.underlying9 (cF rfl q) rfl (by decide) (by first | omega | (have hq := Words.SP (by assumption); omega))) ?_
  refine Bc 62 rfl rfl (fun q => Ci (cF rfl q) rfl) ?_
  refine Gt (BS rfl rfl (fun h => by rw [h]; rfl)) ?_
  refine Gm rfl (Bc 67 rfl rfl (fun q => AF rfl) (Bc 67 rfl rfl (fun q => Bu (cF rfl q) rfl) ?_))
  refine Gt (BS rfl rfl (fun h => by rw [h]; rfl)) ?_
  refine Gm rfl (Bc 71 rfl rfl (fun q => AF rfl) ?_)
  refine Qt (t := 71) rfl rfl rfl (fun q => by have q1 := q; (try simp at q1); exact D5 Y0 (.c (cF rfl q) (.c rfl .n)) (fun w hS => F0 _ 46 w)) ?_
  refine Gt (BS rfl rfl (fun h => by rw [h]; rfl)) ?_
  refine Gn (.t3 9 11 74) ?_
  refine Gc (fun c5 => ?_) (fun c5 => ?_)
  ·
   refine Gs (Ga rfl (Ga rfl (Ga rfl (Ga rfl (Gn (.t4 2 3 4 5) (Ab (AD ?_)))))))
   refine AY rfl (.tmp rfl (.tmp rfl (.tmp rfl (.tmp rfl .n)))) ?_
   intro w1 hS; refine ⟨?_, hS.Am⟩; rw [show Words.ED u = _ from ((AW c1).trans ((AW c2).trans (AW c3))), Words.Tu y3, BB c5]; rfl
  refine Aa ?_
  refine AB (.t2 9 11) ?_
  refine AA (Gs (Gm rfl (Gm rfl (Ga rfl (Ga rfl (Ga rfl (Ga rfl ?_)))))))
  refine Gn (.t4 2 3 4 5) (Ab ?_)
  refine AY rfl (.tmp rfl (.tmp rfl (.tmp rfl (.tmp rfl .n)))) ?_
  intro w1 hS; refine ⟨?_, hS.Am⟩; rw [show Words.ED u = _ from ((AW c1).trans ((AW c2).trans (AW c3))), Words.Tu y3, AW c5]; rfl
 refine Gm rfl (Gt (AM rfl rfl) (Gt (AM rfl rfl) (Ga rfl (Ga rfl (Gn (.t4 8 9 11 12) (CD (Gm rfl ?_)))))))
 refine Gt (YV Tryz.underlying109 rfl) (Gm rfl ?_)
 refine C8 (t := 49) rfl rfl rfl rfl ?_
 refine C8 (t := 49) rfl rfl rfl rfl ?_
 refine Gt (DU rfl rfl) (Gm rfl ?_)
 refine C8 (t := 53) rfl rfl rfl rfl ?_
 refine C8 (t := 53) rfl rfl rfl rfl ?_
 refine Gt (DU rfl rfl) (Gm rfl ?_)
 refine C8 (t := 57) rfl rfl rfl rfl ?_
 refine C8 (t := 57) rfl rfl rfl rfl ?_
 refine C8 (t := 57) rfl rfl rfl rfl ?_
 refine Gt (DU rfl rfl) (Gm rfl ?_)
 refine C8 (t := 62) rfl rfl rfl rfl ?_
 refine C8 (t := 62) rfl rfl rfl rfl ?_
 refine C8 (t := 62) rfl rfl rfl rfl ?_
 refine Gt (DU rfl rfl) (Gm rfl ?_)
 refine C8 (t := 67) rfl rfl rfl rfl ?_
 refine C8 (t := 67) rfl rfl rfl rfl ?_
 refine Gt (DU rfl rfl) (Gm rfl ?_)
 refine C8 (t := 71) rfl rfl rfl rfl ?_
 refine C8 (t := 71) rfl rfl rfl rfl ?_
 refine Gt (DU rfl rfl) (Gn (.t3 9 11 74) ?_)
 refine Gw rfl rfl ?_
 refine Gs (Ga rfl (Ga rfl (Ga rfl (Ga rfl (Gn (.t4 2 3 4 5) (Ab (AD ?_)))))))
 refine AY rfl (.tmp rfl (.tmp rfl (.tmp rfl (.tmp rfl .n)))) ?_
 intro w1 hS; refine ⟨?_, hS.Am⟩; rw [show Words.ED u = _ from ((AW c1).trans ((AW c2).trans (AW c3))), Words.XI y7]; rfl
theorem JE (z : Int) (w : World) : Ef Tryz.prog 155 #[.int .i64 z] w fun v w' => v = .bool (Words.many z) ∧ CA w w' := by
 refine Al [] [] Tryz.func155 rfl rfl rfl (St.start w []) ?_
 refine Gs (Ga rfl (Gn (.t1 0) (Gs (Gm rfl (Gt (Af rfl rfl) (Gm rfl (Bc 5 rfl rfl (fun q => AF rfl) ?_)))))))
 refine Bc 5 rfl rfl (fun q => Af (cF rfl q) rfl) ?_
 refine Gt (BS rfl rfl (fun h => by rw [h]; rfl)) ?_
 refine Gm rfl (Bc 9 rfl rfl (fun q => AF rfl) (Bc 9 rfl rfl (fun q => Af (cF rfl q) rfl) ?_))
 refine Gt (BS rfl rfl (fun h => by rw [h]; rfl)) ?_
 refine Ga rfl (Gn (.t1 2) (Ab ?_))
 refine AY rfl (.tmp rfl .n) ?_
 intro w1 hS; refine ⟨?_, hS.Am⟩; rfl
theorem IN (z : Int) (w : World) : Ef Tryz.prog 156 #[.int .i64 z] w fun v w' => v = .tuple #[BT (Words.NK z).1, .bool (Words.NK z).2] ∧ CA w w' := by
 refine Al [] [] Tryz.func156 rfl rfl rfl (St.start w []) ?_
 refine Gs (Ga rfl (Ga rfl (Gn (.t1 0) (CD (Gm rfl (Gn (.t1 4) (Ae ?_)))))))
 refine Gs (Gt (Af rfl rfl) (Ga rfl (Gn (.t2 4 5) ?_)))
 refine Gc (fun c1 => ?_) (fun c1 => ?_)
 ·
  refine Gs (Ga rfl (Ga rfl (Gn (.t2 2 3) (Ab (AS (AD ?_))))))
  refine AY rfl (.tmp rfl (.tmp rfl .n)) ?_
  intro w1 hS; refine ⟨?_, hS.Am⟩; rw [show Words.NK z = _ from (BB c1)]; rfl
 refine Gs (Gt (Af rfl rfl) (Ga rfl (Gn (.t2 4 7) ?_)))
 refine Gc (fun c2 => ?_) (fun c2 => ?_)
 ·
  refine Gs (Ga rfl (Ga rfl (Gn (.t2 2 3) (Ab (AS (AD ?_))))))
  refine AY rfl (.tmp rfl (.tmp rfl .n)) ?_
  intro w1 hS; refine ⟨?_, hS.Am⟩; rw [show Words.NK z = _ from ((AW c1).trans (BB c2))]; rfl
 refine Gs (Gt (Af rfl rfl) (Ga rfl (Gn (.t1 9) ?_)))
 refine Gc (fun c3 => ?_) (fun c3 => ?_)
 ·
  refine Gs (Ga rfl (Ga rfl (Gn (.t2 2 3) (Ab (AS (AD ?_))))))
  refine AY rfl (.tmp rfl (.tmp rfl .n)) ?_
  intro w1 hS; refine ⟨?_, hS.Am⟩; rw [show Words.NK z = _ from ((AW c1).trans ((AW c2).trans (BB c3)))]; rfl
 refine Aa ?_
 refine AB (.nil _) ?_
 refine AV (AA (Gs (Ga rfl (Ga rfl (AQ (AA (Ab ?_)))))))
 refine AY rfl (.tmp rfl (.tmp rfl .n)) ?_
 intro w1 hS; refine ⟨?_, hS.Am⟩; rw [show Words.NK z = _ from ((AW c1).trans ((AW c2).trans (AW c3)))]; rfl
theorem L3 (s : Ap) (hs : s.length ≤ 4000000) (w : World) (gl0 : GV 0 AG.DD w) (gl1 : Gk 7 w) (gl2 : Gk 8 w) : Ef Tryz.prog 122 #[BT s] w fun v w' => v = .tuple #[.agg (Words.parse s).1.enc.toArray, .int .i64 (Words.parse s).2] ∧ CA w w' := by
 refine Al [] [] Tryz.func122 rfl rfl rfl (St.start w []) ?_
 refine Gs ?_
 refine BF rfl L0 rfl (fun b1 => ?_)
 refine Ga rfl (Gn (.t2 0 2) (Gs (Ga rfl (AQ (AA (Gs (Gm rfl ?_)))))))
 refine Ai rfl bY (.c rfl .n) .n (MC _ hs) (fun v1 B hv => ?_)
 obtain ⟨y2, rfl, y3, rfl⟩ := hv
 refine Ga rfl (Gn (.t4 0 2 4 5) (CD (Gm rfl (Gt (Ar rfl Tryz.underlying52 rfl) (Gt (Af rfl rfl) (Gn (.t5 0 2 4 5 20) ?_))))))
 refine Gc (fun c1 => ?_) (fun c1 => ?_)
 ·
  have hlen := y3
  (try simp only [Hd.cut] at c1)
  rw [hlen] at c1
  refine Gs (Gm rfl ?_)
  refine DI rfl IL rfl (.c rfl .n) .n (Bq _) (fun v5 B hv => ?_)
  obtain ⟨rfl, rfl⟩ := hv
  refine Gt (AM rfl rfl) (Gt (AM rfl rfl) ?_)
  refine AT (AK (AU.id Order.fl.len Order.fl.one) rfl rfl rfl Dz rfl (.t .h)) ?_
  refine Ga rfl (Gn (.t2 2 3) (Ab (AD ?_)))
  refine AY rfl (.cell rfl .m1 (.inl ⟨(by rw [Order.fl.len]; exact B6), rfl⟩) (.tmp rfl .n)) ?_
  intro w1 hS; refine ⟨?_, hS.Am⟩; rw [show Words.parse s = _ from (BB c1)]; rfl
 have c1p := kz c1
 have hlen := y3
 (try simp only [Hd.cut] at c1)
 rw [hlen] at c1
 refine Aa ?_
 refine AB (.t4 0 2 4 5) ?_
 refine AA (Gs (Gm rfl ?_))
 refine Gt (Br JH (by decide) (Kn.own .m0) rfl rfl (by omega) (by first | omega | (simp only [Hd.cut] at *; omega) | (simp [Hd.cut] at q ⊢; omega))) ?_
 refine Gt (Dd rfl CO (Kn.own .m0) (by first | omega | (simp only [List.length_drop, Hd.cut] at *; omega) | (simp [Hd.cut] at q ⊢; omega))) ?_
 refine BA rfl Yu (.c rfl .n) (fun w hS => JD _ w (gl0.st hS)) ?_
 refine Gm rfl (Gt (AM rfl rfl) (Gt (AM rfl rfl) (Ga rfl (Ga rfl (Gn (.t6 0 2 4 5 6 7) (CD (Gm rfl ?_)))))))
 refine Gt (Cg rfl rfl) (Gn (.t7 0 2 4 5 6 7 33) ?_)
 refine Gc (fun c2 => ?_) (fun c2 => ?_)
 ·
  refine Gs (Gm rfl (Gm rfl ?_))
  refine DI rfl IL rfl (.c rfl .n) .n (Bq _) (fun v6 B hv => ?_)
  obtain ⟨rfl, rfl⟩ := hv
  refine Gt (AM rfl rfl) (Gt (AM rfl rfl) ?_)
  refine AT (AK (AU.id Order.fl.len Order.fl.one) rfl rfl rfl Dz rfl (.t .h)) ?_
  refine Ga rfl (Gn (.t2 2 3) (Ab (AD ?_)))
  refine AY rfl (.cell rfl .m1 (.inl ⟨(by rw [Order.fl.len]; exact B6), rfl⟩) (.tmp rfl .n)) ?_
  intro w1 hS; refine ⟨?_, hS.Am⟩; rw [show Words.parse s = _ from ((AW c1).trans (BB c2))]; rfl
 have c2p := kz c2
 refine Aa ?_
 refine AB (.t5 0 2 4 5 6) ?_
 refine AA (Gs (Gm rfl (Gt (BC Rr L0 rfl (.cons Order.l0 rfl rfl rfl .nil)) ?_)))
 refine BF rfl L0 rfl (fun b2 => ?_)
 refine AT (AK (AU.id Order.fl.len Order.fl.one) rfl rfl rfl Dz rfl .h) ?_
 refine Gn (.t6 0 2 4 5 6 8) (Gs (Gm rfl ?_))
 refine GX DS rfl Tryz.underlying52 Ey rfl rfl (by decide) (by first | omega | (simp only [Hd.cut]; omega) | (simp only [Hd.cut] at *; omega)) (fun _ => (.t .h)) ?_
 refine Ga rfl (Gn (.t6 0 2 4 5 6 8) (Ao (Ae (Gs (Gm rfl (Gt (Af rfl rfl) (Ga rfl ?_)))))))
 refine Gn (.t7 0 2 4 5 6 8 43) ?_
 refine Gc (fun c3 => ?_) (fun c3 => ?_)
 ·
  have c3p := kz c3
  refine Gs (Gm rfl ?_)
  refine BA rfl aL (.c rfl (.c rfl .n)) (fun w hS => JJ _ (by omega) w) ?_
  refine BA rfl bO (.c rfl (.c rfl .n)) (fun w hS => IP _ 32 (by have := Words.Lv 32 s; omega) w) ?_
  refine Gm rfl (Gt (AM rfl rfl) (Gt (AM rfl rfl) (Gt (AM rfl rfl) (Ga rfl (Ga rfl (Ga rfl (Gn (.t4 2 4 8 10) ?_)))))))
  refine CD (Gm rfl ?_)
  refine BA rfl aH (.c rfl (.c rfl .n)) (fun w hS => Hw _ (by have h1 := Words.Lv 32 s; have h2 := Words.ND 32 (Words.P5 32 s); omega) w) ?_
  refine Gt (Ah RC rfl) ?_
  refine AT (AK Order.l5 rfl rfl rfl Ey rfl .h) ?_
  refine Gn (.t3 2 4 8) (Gs (Gt (Ah RC rfl) (Gt (AH rfl CO .m0 Order.l5 rfl rfl) (Gt (Bu rfl rfl) (Gn (.t4 2 4 8 58) ?_)))))
  refine Gc (fun c4 => ?_) (fun c4 => ?_)
  ·
   refine Gs (Gm rfl ?_)
   refine DI rfl IL rfl (.c rfl .n) .n (Bq _) (fun v7 B hv => ?_)
   obtain ⟨rfl, rfl⟩ := hv
   refine Gt (AM rfl rfl) (Gt (AM rfl rfl) ?_)
   refine AT (AK (AU.id Order.fl.len Order.fl.one) rfl rfl rfl Dz rfl (.t (.t .h))) ?_
   refine Ga rfl (Gn (.t2 2 3) (Ab (AD (AS (AD ?_)))))
   refine AY rfl (.cell rfl .m2 (.inl ⟨(by rw [Order.fl.len]; exact B6), rfl⟩) (.tmp rfl .n)) ?_
   intro w1 hS; refine ⟨?_, hS.Am⟩; rw [show Words.parse s = _ from ((AW c1).trans ((AW c2).trans ((BB c3).trans (BB c4))))]; rfl
  refine Aa ?_
  refine AB (.t2 2 8) ?_
  refine AA (Gs (Gt (AZ rfl B6 .m0 (AU.id Order.fl.len Order.fl.one) rfl) ?_))
  refine AT (AK (AU.id Order.fl.len Order.fl.one) rfl rfl rfl Dz rfl (.t (.t .h))) ?_
  refine Ga rfl (Gn (.t2 2 3) (Ab (AS (AD ?_))))
  refine AY rfl (.cell rfl .m2 (.inl ⟨(by rw [Order.fl.len]; exact B6), rfl⟩) (.tmp rfl .n)) ?_
  intro w1 hS; refine ⟨?_, hS.Am⟩; rw [show Words.parse s = _ from ((AW c1).trans ((AW c2).trans ((BB c3).trans (AW c4))))]; rfl
 have c3p := kz c3
 refine Gs (Gm rfl (Gt (H3 rfl rfl) (Gm rfl (Bc 67 rfl rfl (fun q => AF rfl) (Bc 67 rfl rfl (fun q => CM (cF rfl q) rfl) ?_)))))
 refine Gt (BS rfl rfl (fun h => by rw [h]; rfl)) ?_
 refine Ga rfl (Gn (.t6 2 4 5 6 8 64) ?_)
 refine Gc (fun c5 => ?_) (fun c5 => ?_)
 ·
  refine CD (Gm rfl (Gt (Ar rfl Tryz.underlying52 rfl) (Gt (Ci rfl rfl) (Gn (.t4 2 4 8 73) ?_))))
  refine Gc (fun c6 => ?_) (fun c6 => ?_)
  ·
   (try simp only [Hd.cut] at c6)
   rw [hlen] at c6
   refine Gs (Gm rfl ?_)
   refine DI rfl IL rfl (.c rfl .n) .n (Bq _) (fun v8 B hv => ?_)
   obtain ⟨rfl, rfl⟩ := hv
   refine Gt (AM rfl rfl) (Gt (AM rfl rfl) ?_)
   refine AT (AK (AU.id Order.fl.len Order.fl.one) rfl rfl rfl Dz rfl (.t (.t .h))) ?_
   refine Ga rfl (Gn (.t2 2 3) (Ab (AD (AS (AD ?_)))))
   refine AY rfl (.cell rfl .m2 (.inl ⟨(by rw [Order.fl.len]; exact B6), rfl⟩) (.tmp rfl .n)) ?_
   intro w1 hS; refine ⟨?_, hS.Am⟩; rw [show Words.parse s = _ from ((AW c1).trans ((AW c2).trans ((AW c3).trans ((BB c5).trans (BB c6)))))]; rfl
  (try simp only [Hd.cut] at c6)
  rw [hlen] at c6
  refine Aa ?_
  refine AB (.t2 2 8) ?_
  refine AA (Gs (Gt (AZ rfl B6 .m0 (AU.id Order.fl.len Order.fl.one) rfl) ?_))
  refine AT (AK (AU.id Order.fl.len Order.fl.one) rfl rfl rfl Dz rfl (.t (.t .h))) ?_
  refine Ga rfl (Gn (.t2 2 3) (Ab (AS (AD ?_))))
  refine AY rfl (.cell rfl .m2 (.inl ⟨(by rw [Order.fl.len]; exact B6), rfl⟩) (.tmp rfl .n)) ?_
  intro w1 hS; refine ⟨?_, hS.Am⟩; rw [show Words.parse s = _ from ((AW c1).trans ((AW c2).trans ((AW c3).trans ((BB c5).trans (AW c6)))))]; rfl
 have c5p := kz c5
 refine Gs (Gm rfl (Gt (Ar rfl Tryz.underlying52 rfl) (Gt (Af rfl rfl) (Ga rfl (Gn (.t6 2 4 5 6 8 79) ?_)))))
 refine Gc (fun c7 => ?_) (fun c7 => ?_)
 ·
  (try simp only [Hd.cut] at c7)
  rw [hlen] at c7
  refine Gs (Gm rfl ?_)
  refine DI rfl IL rfl (.c rfl .n) .n (Bq _) (fun v9 B hv => ?_)
  obtain ⟨rfl, rfl⟩ := hv
  refine Gt (AM rfl rfl) (Gt (AM rfl rfl) ?_)
  refine AT (AK (AU.id Order.fl.len Order.fl.one) rfl rfl rfl Dz rfl (.t (.t .h))) ?_
  refine Ga rfl (Gn (.t2 2 3) (Ab (AS (AD ?_))))
  refine AY rfl (.cell rfl .m2 (.inl ⟨(by rw [Order.fl.len]; exact B6), rfl⟩) (.tmp rfl .n)) ?_
  intro w1 hS; refine ⟨?_, hS.Am⟩; rw [show Words.parse s = _ from ((AW c1).trans ((AW c2).trans ((AW c3).trans ((AW c5).trans (BB c7)))))]; rfl
 have c7p := kz c7
 (try simp only [Hd.cut] at c7)
 rw [hlen] at c7
 refine Aa ?_
 refine AB (.t5 2 4 5 6 8) ?_
 refine AV (AA (CD (Gm rfl (Gt (Af rfl rfl) (Gm rfl (Bc 89 rfl rfl (fun q => AF rfl) (Bc 89 rfl rfl (fun q => Af (cF rfl q) rfl) ?_)))))))
 refine Gt (BS rfl rfl (fun h => by rw [h]; rfl)) ?_
 refine Gn (.t6 2 4 5 6 8 92) ?_
 refine Gc (fun c8 => ?_) (fun c8 => ?_)
 ·
  have c8p := kz c8
  refine Gs (Gm rfl ?_)
  refine Gt (Br JH (by decide) (Kn.own .m1) rfl rfl (by omega) (by first | omega | (simp only [Hd.cut] at *; omega) | (simp [Hd.cut] at q ⊢; omega))) ?_
  refine Gt (Dd rfl CO (Kn.own .m1) (by first | omega | (simp only [List.length_drop, Hd.cut] at *; omega) | (simp [Hd.cut] at q ⊢; omega))) ?_
  refine BA rfl Yu (.c rfl .n) (fun w hS => JD _ w (gl0.st hS)) ?_
  refine Gm rfl (Gt (AM rfl rfl) (Gt (AM rfl rfl) (Ga rfl (Ga rfl (Gn (.t7 2 4 5 6 8 12 13) (Gs (Gm rfl ?_)))))))
  refine Gt (Af rfl rfl) (Gm rfl (Bm 102 rfl rfl (fun q => AF rfl) (Bm 102 rfl rfl (fun q => A9 (Bh rfl q) rfl) (Gt (BJ rfl rfl (fun h => h)) (Gm rfl (Bm 106 rfl rfl (fun q => AF rfl) (Bm 106 rfl rfl (fun q => Ar rfl Tryz.underlying52 (Bh rfl q)) ?_)))))))
  refine Bm 106 rfl rfl (fun q => Af (Bh rfl q) rfl) (Gt (BJ rfl rfl (fun h => h)) (Gn (.t7 2 4 5 6 8 12 110) ?_))
  refine Gc (fun c9 => ?_) (fun c9 => ?_)
  ·
   have c9p := kz c9
   (try simp only [Hd.cut] at c9)
   rw [hlen] at c9
   have hd : 0 ≤ (Words.verb (((Words.words s).drop (1 : Int).toNat).getD (0 : Int).toNat [])).1 ∧ (Words.verb (((Words.words s).drop (1 : Int).toNat).getD (0 : Int).toNat [])).1 < 6 := ⟨(Words.XD _).1, by have h := c9; rw [Bool.and_eq_true, Bool.and_eq_true] at h; exact of_decide_eq_true h.1.2⟩
   refine Gs (Gm rfl ?_)
   refine Gt (AR Wi rfl rfl (by first | omega | (simp only [Hd.cut]; omega) | (simp only [Hd.cut] at *; omega)) (by first | omega | (simp only [Hd.cut]; omega) | (simp only [Hd.cut] at *; omega))) ?_
   refine Gt (QN gl0 rfl CO (AG.OA hd.1 hd.2)) (Gt (Ah Fp rfl) ?_)
   refine AT (AK Order.l3 rfl rfl rfl Ey rfl .h) ?_
   refine Gt (Ah GK rfl) ?_
   refine AT (AK Order.l1 rfl rfl rfl C9 rfl .h) ?_
   refine Gn (.t2 2 8) (Gs (Gt (AZ rfl B6 .m0 (AU.id Order.fl.len Order.fl.one) rfl) ?_))
   refine AT (AK (AU.id Order.fl.len Order.fl.one) rfl rfl rfl Dz rfl (.t (.t .h))) ?_
   refine Ga rfl (Gn (.t2 2 3) (Ab (AD ?_)))
   refine AY rfl (.cell rfl .m2 (.inl ⟨(by rw [Order.fl.len]; exact B6), rfl⟩) (.tmp rfl .n)) ?_
   intro w1 hS; refine ⟨?_, hS.Am⟩; rw [show Words.parse s = _ from ((AW c1).trans ((AW c2).trans ((AW c3).trans ((AW c5).trans ((AW c7).trans ((BB c8).trans (BB c9)))))))]; rfl
  have c9p := kz c9
  (try simp only [Hd.cut] at c9)
  rw [hlen] at c9
  refine Aa ?_
  refine AB (.t5 2 4 5 6 8) ?_
  refine AA (CD (Gm rfl ?_))
  refine Gt (Br JH (by decide) (Kn.own .m1) rfl rfl (by omega) (by first | omega | (simp only [Hd.cut] at *; omega) | (simp [Hd.cut] at q ⊢; omega))) ?_
  refine Gt (Dd rfl CO (Kn.own .m1) (by first | omega | (simp only [List.length_drop, Hd.cut] at *; omega) | (simp [Hd.cut] at q ⊢; omega))) ?_
  refine BA rfl UP (.c rfl .n) (fun w hS => FC _ (by have := Words.MU s 0 1; exact Nat.le_trans this (by omega)) w (gl1.st hS) (gl2.st hS)) ?_
  refine Gm rfl (Gt (AM rfl rfl) (Gt (AM rfl rfl) (Gt (AM rfl rfl) (Gt (AM rfl rfl) (Gt (Ah GK rfl) ?_)))))
  refine AT (AK Order.l1 rfl rfl rfl C9 rfl .h) ?_
  refine Gt (Ah Fp rfl) ?_
  refine AT (AK Order.l3 rfl rfl rfl Ey rfl .h) ?_
  refine Gt (Ah HB rfl) ?_
  refine AT (AK Order.l2 rfl rfl rfl KX rfl .h) ?_
  refine Ga rfl (Gn (.t6 2 4 5 6 7 8) (Gs (Gm rfl (Gt (Cg rfl rfl) (Gm rfl (Bc 131 rfl rfl (fun q => Ah HB rfl) (Bc 131 rfl rfl (fun q => AH (cF rfl q) Dh .m0 Order.l2 rfl rfl) ?_)))))))
  refine Bc 131 rfl rfl (fun q => AF (cF rfl q)) ?_
  refine DJ (t := 134) rfl rfl rfl (fun qc q => AF rfl) ?_
  refine Uh (t := 134) rfl rfl rfl (fun qc q => by have q1 := q; have qc1 := qc; (try simp at q1 qc1); exact D5 Y7 (.c (Bh rfl (by rw [qc, q]; rfl)) .n) (fun w hS => JE _ w)) ?_
  refine DJ (t := 134) rfl rfl rfl (fun qc q => BX (Bh rfl (by rw [qc, q]; rfl))) ?_
  refine Bc 131 rfl rfl (fun q => BJ (cF rfl q) rfl (fun h => by rw [q, h]; rfl)) ?_
  refine Gt (BS rfl rfl (fun h => by rw [h]; rfl)) ?_
  refine Gn (.t6 2 4 5 6 8 139) ?_
  refine Gc (fun c10 => ?_) (fun c10 => ?_)
  ·
   refine Gs (Gm rfl ?_)
   refine DI rfl IL rfl (.c rfl .n) .n (Bq _) (fun v10 B hv => ?_)
   obtain ⟨rfl, rfl⟩ := hv
   refine Gt (AM rfl rfl) (Gt (AM rfl rfl) ?_)
   refine AT (AK (AU.id Order.fl.len Order.fl.one) rfl rfl rfl Dz rfl (.t (.t .h))) ?_
   refine Ga rfl (Gn (.t2 2 3) (Ab (AD ?_)))
   refine AY rfl (.cell rfl .m2 (.inl ⟨(by rw [Order.fl.len]; exact B6), rfl⟩) (.tmp rfl .n)) ?_
   intro w1 hS; refine ⟨?_, hS.Am⟩; rw [show Words.parse s = _ from ((AW c1).trans ((AW c2).trans ((AW c3).trans ((AW c5).trans ((AW c7).trans ((BB c8).trans ((AW c9).trans (BB c10))))))))]; rfl
  have c10p := kz c10
  refine Aa ?_
  refine AB (.t5 2 4 5 6 8) ?_
  refine AA (Gs (Gm rfl ?_))
  refine BA rfl ZB (.c rfl .n) (fun w hS => IN _ w) ?_
  refine Gm rfl (Gt (AM rfl rfl) (Gt (AM rfl rfl) (Ga rfl (Ga rfl (Gn (.t6 2 4 5 8 14 15) (Gs (Gm rfl ?_)))))))
  refine GX DS rfl Tryz.underlying52 Ey rfl rfl (by decide) (by first | omega | (simp only [Hd.cut]; omega) | (simp only [Hd.cut] at *; omega)) (fun _ => (.t .h)) ?_
  refine Ga rfl (Gn (.t6 2 4 5 8 14 15) (CD (Gm rfl (Gt (Ar rfl Tryz.underlying52 rfl) (Gt (Ci rfl rfl) (Gm rfl (Bm 154 rfl rfl (fun q => AF rfl) ?_)))))))
  refine Bm 154 rfl rfl (fun q => Df (Bh rfl q) rfl) (Gt (BJ rfl rfl (fun h => h)) (Gm rfl (Bm 158 rfl rfl (fun q => AF rfl) ?_)))
  refine Bm 158 rfl rfl (fun q => by have q1 := q; (try simp at q1); exact Br JH (by decide) (Kn.own .m1) (Bh rfl q) rfl (by omega) (by first | omega | (simp only [Hd.cut] at *; omega) | (simp [Hd.cut] at q ⊢; omega))) ?_
  refine Bm 158 rfl rfl (fun q => by have q1 := q; (try simp at q1); exact Dd (Bh rfl q) CO (Kn.own .m1) (by first | omega | (simp only [List.length_drop, Hd.cut] at *; omega) | (simp [Hd.cut] at q ⊢; omega))) ?_
  refine Bm 158 rfl rfl (fun q => AF rfl) (Bm 158 rfl rfl (fun q => Bu (Bh rfl q) (Bh rfl q)) (Gt (BJ rfl rfl (fun h => h)) (Gn (.t7 2 4 5 8 14 15 164) ?_)))
  refine Gc (fun c11 => ?_) (fun c11 => ?_)
  ·
   have c11p := kz c11
   (try simp only [Hd.cut] at c11)
   rw [hlen] at c11
   refine Gs (Gm rfl ?_)
   refine GX DS rfl Tryz.underlying52 Ey rfl rfl (by decide) (by first | omega | (simp only [Hd.cut]; omega) | (simp only [Hd.cut] at *; omega)) (fun _ => (.t .h)) ?_
   refine Ga rfl (Gn (.t6 2 4 5 8 14 15) (Gs (Gm rfl (Gt (Ar rfl Tryz.underlying52 rfl) (Gt (Af rfl rfl) (Gn (.t7 2 4 5 8 14 15 169) ?_))))))
   refine Gc (fun c12 => ?_) (fun c12 => ?_)
   ·
    (try simp only [Hd.cut] at c12)
    rw [hlen] at c12
    refine Gs (Gm rfl ?_)
    refine DI rfl IL rfl (.c rfl .n) .n (Bq _) (fun v11 B hv => ?_)
    obtain ⟨rfl, rfl⟩ := hv
    refine Gt (AM rfl rfl) (Gt (AM rfl rfl) ?_)
    refine AT (AK (AU.id Order.fl.len Order.fl.one) rfl rfl rfl Dz rfl (.t (.t .h))) ?_
    refine Ga rfl (Gn (.t2 2 3) (Ab (AD ?_)))
    refine AY rfl (.cell rfl .m2 (.inl ⟨(by rw [Order.fl.len]; exact B6), rfl⟩) (.tmp rfl .n)) ?_
    intro w1 hS; refine ⟨?_, hS.Am⟩; rw [show Words.parse s = _ from ((AW c1).trans ((AW c2).trans ((AW c3).trans ((AW c5).trans ((AW c7).trans ((BB c8).trans ((AW c9).trans ((AW c10).trans ((BB c11).trans (BB c12))))))))))]; rfl
   have c12p := kz c12
   (try simp only [Hd.cut] at c12)
   rw [hlen] at c12
   refine Aa ?_
   refine AB (.t6 2 4 5 8 14 15) ?_
   refine AA (Ao (Ae (Gs (Gm rfl (Gt (Ar rfl Tryz.underlying52 rfl) (Gt (Af rfl rfl) (Gm rfl ?_)))))))
   refine Bm 178 rfl rfl (fun q => AF rfl) (Bm 178 rfl rfl (fun q => BX (Bh rfl q)) (Gt (BJ rfl rfl (fun h => h)) (Ga rfl (Gn (.t6 2 4 5 8 14 174) ?_))))
   refine Gc (fun c13 => ?_) (fun c13 => ?_)
   ·
    (try simp only [Hd.cut] at c13)
    rw [hlen] at c13
    refine Gs (Gt (AZ rfl B6 .m0 (AU.id Order.fl.len Order.fl.one) rfl) ?_)
    refine AT (AK (AU.id Order.fl.len Order.fl.one) rfl rfl rfl Dz rfl (.t (.t .h))) ?_
    refine Ga rfl (Gn (.t2 2 3) (Ab (AS (AD ?_))))
    refine AY rfl (.cell rfl .m2 (.inl ⟨(by rw [Order.fl.len]; exact B6), rfl⟩) (.tmp rfl .n)) ?_
    intro w1 hS; refine ⟨?_, hS.Am⟩; rw [show Words.parse s = _ from ((AW c1).trans ((AW c2).trans ((AW c3).trans ((AW c5).trans ((AW c7).trans ((BB c8).trans ((AW c9).trans ((AW c10).trans ((BB c11).trans ((AW c12).trans (BB c13)))))))))))]; rfl
   have c13p := kz c13
   (try simp only [Hd.cut] at c13)
   rw [hlen] at c13
   refine Gs (Gm rfl (Gt (Ar rfl Tryz.underlying52 rfl) (Gt (Cg rfl rfl) (Gm rfl (Bc 187 rfl rfl (fun q => AF rfl) (Bc 187 rfl rfl (fun q => Bu (cF rfl q) rfl) ?_))))))
   refine Gt (BS rfl rfl (fun h => by rw [h]; rfl)) ?_
   refine Ga rfl (Gn (.t5 2 4 5 8 183) ?_)
   refine Gc (fun c14 => ?_) (fun c14 => ?_)
   ·
    (try simp only [Hd.cut] at c14)
    rw [hlen] at c14
    refine Gs (Gm rfl ?_)
    refine DI rfl IL rfl (.c rfl .n) .n (Bq _) (fun v12 B hv => ?_)
    obtain ⟨rfl, rfl⟩ := hv
    refine Gt (AM rfl rfl) (Gt (AM rfl rfl) ?_)
    refine AT (AK (AU.id Order.fl.len Order.fl.one) rfl rfl rfl Dz rfl (.t (.t .h))) ?_
    refine Ga rfl (Gn (.t2 2 3) (Ab (AS (AD ?_))))
    refine AY rfl (.cell rfl .m2 (.inl ⟨(by rw [Order.fl.len]; exact B6), rfl⟩) (.tmp rfl .n)) ?_
    intro w1 hS; refine ⟨?_, hS.Am⟩; rw [show Words.parse s = _ from ((AW c1).trans ((AW c2).trans ((AW c3).trans ((AW c5).trans ((AW c7).trans ((BB c8).trans ((AW c9).trans ((AW c10).trans ((BB c11).trans ((AW c12).trans ((AW c13).trans (BB c14))))))))))))]; rfl
   have c14p := kz c14
   (try simp only [Hd.cut] at c14)
   rw [hlen] at c14
   refine Aa ?_
   refine AB (.t3 2 5 8) ?_
   refine AV (AA (Gs (Gm rfl ?_)))
   refine Gt (Br JH (by decide) (Kn.own .m1) rfl rfl (by omega) (by first | omega | (simp only [Hd.cut] at *; omega) | (simp [Hd.cut] at q ⊢; omega))) ?_
   refine Gt (Dd rfl CO (Kn.own .m1) (by first | omega | (simp only [List.length_drop, Hd.cut] at *; omega) | (simp [Hd.cut] at q ⊢; omega))) ?_
   refine Gt (Ah Ht rfl) ?_
   refine AT (AK Order.l4 rfl rfl rfl Ey rfl .h) ?_
   refine Gn (.t2 2 8) (Gs (Gt (AZ rfl B6 .m0 (AU.id Order.fl.len Order.fl.one) rfl) ?_))
   refine AT (AK (AU.id Order.fl.len Order.fl.one) rfl rfl rfl Dz rfl (.t (.t .h))) ?_
   refine Ga rfl (Gn (.t2 2 3) (Ab ?_))
   refine AY rfl (.cell rfl .m2 (.inl ⟨(by rw [Order.fl.len]; exact B6), rfl⟩) (.tmp rfl .n)) ?_
   intro w1 hS; refine ⟨?_, hS.Am⟩; rw [show Words.parse s = _ from ((AW c1).trans ((AW c2).trans ((AW c3).trans ((AW c5).trans ((AW c7).trans ((BB c8).trans ((AW c9).trans ((AW c10).trans ((BB c11).trans ((AW c12).trans ((AW c13).trans (AW c14))))))))))))]; rfl
  have c11p := kz c11
  (try simp only [Hd.cut] at c11)
  rw [hlen] at c11
  refine Aa ?_
  refine AB (.t6 2 4 5 8 14 15) ?_
  refine AA (Ao (Ae (Gs (Gm rfl (Gt (Ar rfl Tryz.underlying52 rfl) (Gt (Af rfl rfl) (Gm rfl ?_)))))))
  refine Bm 178 rfl rfl (fun q => AF rfl) (Bm 178 rfl rfl (fun q => BX (Bh rfl q)) (Gt (BJ rfl rfl (fun h => h)) (Ga rfl (Gn (.t6 2 4 5 8 14 174) ?_))))
  refine Gc (fun c15 => ?_) (fun c15 => ?_)
  ·
   (try simp only [Hd.cut] at c15)
   rw [hlen] at c15
   refine Gs (Gt (AZ rfl B6 .m0 (AU.id Order.fl.len Order.fl.one) rfl) ?_)
   refine AT (AK (AU.id Order.fl.len Order.fl.one) rfl rfl rfl Dz rfl (.t (.t .h))) ?_
   refine Ga rfl (Gn (.t2 2 3) (Ab (AS (AD ?_))))
   refine AY rfl (.cell rfl .m2 (.inl ⟨(by rw [Order.fl.len]; exact B6), rfl⟩) (.tmp rfl .n)) ?_
   intro w1 hS; refine ⟨?_, hS.Am⟩; rw [show Words.parse s = _ from ((AW c1).trans ((AW c2).trans ((AW c3).trans ((AW c5).trans ((AW c7).trans ((BB c8).trans ((AW c9).trans ((AW c10).trans ((AW c11).trans (BB c15))))))))))]; rfl
  have c15p := kz c15
  (try simp only [Hd.cut] at c15)
  rw [hlen] at c15
  refine Gs (Gm rfl (Gt (Ar rfl Tryz.underlying52 rfl) (Gt (Cg rfl rfl) (Gm rfl (Bc 187 rfl rfl (fun q => AF rfl) (Bc 187 rfl rfl (fun q => Bu (cF rfl q) rfl) ?_))))))
  refine Gt (BS rfl rfl (fun h => by rw [h]; rfl)) ?_
  refine Ga rfl (Gn (.t5 2 4 5 8 183) ?_)
  refine Gc (fun c16 => ?_) (fun c16 => ?_)
  ·
   (try simp only [Hd.cut] at c16)
   rw [hlen] at c16
   refine Gs (Gm rfl ?_)
   refine DI rfl IL rfl (.c rfl .n) .n (Bq _) (fun v13 B hv => ?_)
   obtain ⟨rfl, rfl⟩ := hv
   refine Gt (AM rfl rfl) (Gt (AM rfl rfl) ?_)
   refine AT (AK (AU.id Order.fl.len Order.fl.one) rfl rfl rfl Dz rfl (.t (.t .h))) ?_
   refine Ga rfl (Gn (.t2 2 3) (Ab (AS (AD ?_))))
   refine AY rfl (.cell rfl .m2 (.inl ⟨(by rw [Order.fl.len]; exact B6), rfl⟩) (.tmp rfl .n)) ?_
   intro w1 hS; refine ⟨?_, hS.Am⟩; rw [show Words.parse s = _ from ((AW c1).trans ((AW c2).trans ((AW c3).trans ((AW c5).trans ((AW c7).trans ((BB c8).trans ((AW c9).trans ((AW c10).trans ((AW c11).trans ((AW c15).trans (BB c16)))))))))))]; rfl
  have c16p := kz c16
  (try simp only [Hd.cut] at c16)
  rw [hlen] at c16
  refine Aa ?_
  refine AB (.t3 2 5 8) ?_
  refine AV (AA (Gs (Gm rfl ?_)))
  refine Gt (Br JH (by decide) (Kn.own .m1) rfl rfl (by omega) (by first | omega | (simp only [Hd.cut] at *; omega) | (simp [Hd.cut] at q ⊢; omega))) ?_
  refine Gt (Dd rfl CO (Kn.own .m1) (by first | omega | (simp only [List.length_drop, Hd.cut] at *; omega) | (simp [Hd.cut] at q ⊢; omega))) ?_
  refine Gt (Ah Ht rfl) ?_
  refine AT (AK Order.l4 rfl rfl rfl Ey rfl .h) ?_
  refine Gn (.t2 2 8) (Gs (Gt (AZ rfl B6 .m0 (AU.id Order.fl.len Order.fl.one) rfl) ?_))
  refine AT (AK (AU.id Order.fl.len Order.fl.one) rfl rfl rfl Dz rfl (.t (.t .h))) ?_
  refine Ga rfl (Gn (.t2 2 3) (Ab ?_))
  refine AY rfl (.cell rfl .m2 (.inl ⟨(by rw [Order.fl.len]; exact B6), rfl⟩) (.tmp rfl .n)) ?_
  intro w1 hS; refine ⟨?_, hS.Am⟩; rw [show Words.parse s = _ from ((AW c1).trans ((AW c2).trans ((AW c3).trans ((AW c5).trans ((AW c7).trans ((BB c8).trans ((AW c9).trans ((AW c10).trans ((AW c11).trans ((AW c15).trans (AW c16)))))))))))]; rfl
 have c8p := kz c8
 refine Aa ?_
 refine AB (.t5 2 4 5 6 8) ?_
 refine AA (CD (Gm rfl ?_))
 refine Gt (Br JH (by decide) (Kn.own .m1) rfl rfl (by omega) (by first | omega | (simp only [Hd.cut] at *; omega) | (simp [Hd.cut] at q ⊢; omega))) ?_
 refine Gt (Dd rfl CO (Kn.own .m1) (by first | omega | (simp only [List.length_drop, Hd.cut] at *; omega) | (simp [Hd.cut] at q ⊢; omega))) ?_
 refine BA rfl UP (.c rfl .n) (fun w hS => FC _ (by have := Words.MU s 0 1; exact Nat.le_trans this (by omega)) w (gl1.st hS) (gl2.st hS)) ?_
 refine Gm rfl (Gt (AM rfl rfl) (Gt (AM rfl rfl) (Gt (AM rfl rfl) (Gt (AM rfl rfl) (Gt (Ah GK rfl) ?_)))))
 refine AT (AK Order.l1 rfl rfl rfl C9 rfl .h) ?_
 refine Gt (Ah Fp rfl) ?_
 refine AT (AK Order.l3 rfl rfl rfl Ey rfl .h) ?_
 refine Gt (Ah HB rfl) ?_
 refine AT (AK Order.l2 rfl rfl rfl KX rfl .h) ?_
 refine Ga rfl (Gn (.t6 2 4 5 6 7 8) (Gs (Gm rfl (Gt (Cg rfl rfl) (Gm rfl (Bc 131 rfl rfl (fun q => Ah HB rfl) (Bc 131 rfl rfl (fun q => AH (cF rfl q) Dh .m0 Order.l2 rfl rfl) ?_)))))))
 refine Bc 131 rfl rfl (fun q => AF (cF rfl q)) ?_
 refine DJ (t := 134) rfl rfl rfl (fun qc q => AF rfl) ?_
 refine Uh (t := 134) rfl rfl rfl (fun qc q => by have q1 := q; have qc1 := qc; (try simp at q1 qc1); exact D5 Y7 (.c (Bh rfl (by rw [qc, q]; rfl)) .n) (fun w hS => JE _ w)) ?_
 refine DJ (t := 134) rfl rfl rfl (fun qc q => BX (Bh rfl (by rw [qc, q]; rfl))) ?_
 refine Bc 131 rfl rfl (fun q => BJ (cF rfl q) rfl (fun h => by rw [q, h]; rfl)) ?_
 refine Gt (BS rfl rfl (fun h => by rw [h]; rfl)) ?_
 refine Gn (.t6 2 4 5 6 8 139) ?_
 refine Gc (fun c17 => ?_) (fun c17 => ?_)
 ·
  refine Gs (Gm rfl ?_)
  refine DI rfl IL rfl (.c rfl .n) .n (Bq _) (fun v14 B hv => ?_)
  obtain ⟨rfl, rfl⟩ := hv
  refine Gt (AM rfl rfl) (Gt (AM rfl rfl) ?_)
  refine AT (AK (AU.id Order.fl.len Order.fl.one) rfl rfl rfl Dz rfl (.t (.t .h))) ?_
  refine Ga rfl (Gn (.t2 2 3) (Ab (AD ?_)))
  refine AY rfl (.cell rfl .m2 (.inl ⟨(by rw [Order.fl.len]; exact B6), rfl⟩) (.tmp rfl .n)) ?_
  intro w1 hS; refine ⟨?_, hS.Am⟩; rw [show Words.parse s = _ from ((AW c1).trans ((AW c2).trans ((AW c3).trans ((AW c5).trans ((AW c7).trans ((AW c8).trans (BB c17)))))))]; rfl
 have c17p := kz c17
 refine Aa ?_
 refine AB (.t5 2 4 5 6 8) ?_
 refine AA (Gs (Gm rfl ?_))
 refine BA rfl ZB (.c rfl .n) (fun w hS => IN _ w) ?_
 refine Gm rfl (Gt (AM rfl rfl) (Gt (AM rfl rfl) (Ga rfl (Ga rfl (Gn (.t6 2 4 5 8 14 15) (Gs (Gm rfl ?_)))))))
 refine GX DS rfl Tryz.underlying52 Ey rfl rfl (by decide) (by first | omega | (simp only [Hd.cut]; omega) | (simp only [Hd.cut] at *; omega)) (fun _ => (.t .h)) ?_
 refine Ga rfl (Gn (.t6 2 4 5 8 14 15) (CD (Gm rfl (Gt (Ar rfl Tryz.underlying52 rfl) (Gt (Ci rfl rfl) (Gm rfl (Bm 154 rfl rfl (fun q => AF rfl) ?_)))))))
 refine Bm 154 rfl rfl (fun q => Df (Bh rfl q) rfl) (Gt (BJ rfl rfl (fun h => h)) (Gm rfl (Bm 158 rfl rfl (fun q => AF rfl) ?_)))
 refine Bm 158 rfl rfl (fun q => by have q1 := q; (try simp at q1); exact Br JH (by decide) (Kn.own .m1) (Bh rfl q) rfl (by omega) (by first | omega | (simp only [Hd.cut] at *; omega) | (simp [Hd.cut] at q ⊢; omega))) ?_
 refine Bm 158 rfl rfl (fun q => by have q1 := q; (try simp at q1); exact Dd (Bh rfl q) CO (Kn.own .m1) (by first | omega | (simp only [List.length_drop, Hd.cut] at *; omega) | (simp [Hd.cut] at q ⊢; omega))) ?_
 refine Bm 158 rfl rfl (fun q => AF rfl) (Bm 158 rfl rfl (fun q => Bu (Bh rfl q) (Bh rfl q)) (Gt (BJ rfl rfl (fun h => h)) (Gn (.t7 2 4 5 8 14 15 164) ?_)))
 refine Gc (fun c18 => ?_) (fun c18 => ?_)
 ·
  have c18p := kz c18
  (try simp only [Hd.cut] at c18)
  rw [hlen] at c18
  refine Gs (Gm rfl ?_)
  refine GX DS rfl Tryz.underlying52 Ey rfl rfl (by decide) (by first | omega | (simp only [Hd.cut]; omega) | (simp only [Hd.cut] at *; omega)) (fun _ => (.t .h)) ?_
  refine Ga rfl (Gn (.t6 2 4 5 8 14 15) (Gs (Gm rfl (Gt (Ar rfl Tryz.underlying52 rfl) (Gt (Af rfl rfl) (Gn (.t7 2 4 5 8 14 15 169) ?_))))))
  refine Gc (fun c19 => ?_) (fun c19 => ?_)
  ·
   (try simp only [Hd.cut] at c19)
   rw [hlen] at c19
   refine Gs (Gm rfl ?_)
   refine DI rfl IL rfl (.c rfl .n) .n (Bq _) (fun v15 B hv => ?_)
   obtain ⟨rfl, rfl⟩ := hv
   refine Gt (AM rfl rfl) (Gt (AM rfl rfl) ?_)
   refine AT (AK (AU.id Order.fl.len Order.fl.one) rfl rfl rfl Dz rfl (.t (.t .h))) ?_
   refine Ga rfl (Gn (.t2 2 3) (Ab (AD ?_)))
   refine AY rfl (.cell rfl .m2 (.inl ⟨(by rw [Order.fl.len]; exact B6), rfl⟩) (.tmp rfl .n)) ?_
   intro w1 hS; refine ⟨?_, hS.Am⟩; rw [show Words.parse s = _ from ((AW c1).trans ((AW c2).trans ((AW c3).trans ((AW c5).trans ((AW c7).trans ((AW c8).trans ((AW c17).trans ((BB c18).trans (BB c19)))))))))]; rfl
  have c19p := kz c19
  (try simp only [Hd.cut] at c19)
  rw [hlen] at c19
  refine Aa ?_
  refine AB (.t6 2 4 5 8 14 15) ?_
  refine AA (Ao (Ae (Gs (Gm rfl (Gt (Ar rfl Tryz.underlying52 rfl) (Gt (Af rfl rfl) (Gm rfl ?_)))))))
  refine Bm 178 rfl rfl (fun q => AF rfl) (Bm 178 rfl rfl (fun q => BX (Bh rfl q)) (Gt (BJ rfl rfl (fun h => h)) (Ga rfl (Gn (.t6 2 4 5 8 14 174) ?_))))
  refine Gc (fun c20 => ?_) (fun c20 => ?_)
  ·
   (try simp only [Hd.cut] at c20)
   rw [hlen] at c20
   refine Gs (Gt (AZ rfl B6 .m0 (AU.id Order.fl.len Order.fl.one) rfl) ?_)
   refine AT (AK (AU.id Order.fl.len Order.fl.one) rfl rfl rfl Dz rfl (.t (.t .h))) ?_
   refine Ga rfl (Gn (.t2 2 3) (Ab (AS (AD ?_))))
   refine AY rfl (.cell rfl .m2 (.inl ⟨(by rw [Order.fl.len]; exact B6), rfl⟩) (.tmp rfl .n)) ?_
   intro w1 hS; refine ⟨?_, hS.Am⟩; rw [show Words.parse s = _ from ((AW c1).trans ((AW c2).trans ((AW c3).trans ((AW c5).trans ((AW c7).trans ((AW c8).trans ((AW c17).trans ((BB c18).trans ((AW c19).trans (BB c20))))))))))]; rfl
  have c20p := kz c20
  (try simp only [Hd.cut] at c20)
  rw [hlen] at c20
  refine Gs (Gm rfl (Gt (Ar rfl Tryz.underlying52 rfl) (Gt (Cg rfl rfl) (Gm rfl (Bc 187 rfl rfl (fun q => AF rfl) (Bc 187 rfl rfl (fun q => Bu (cF rfl q) rfl) ?_))))))
  refine Gt (BS rfl rfl (fun h => by rw [h]; rfl)) ?_
  refine Ga rfl (Gn (.t5 2 4 5 8 183) ?_)
  refine Gc (fun c21 => ?_) (fun c21 => ?_)
  ·
   (try simp only [Hd.cut] at c21)
   rw [hlen] at c21
   refine Gs (Gm rfl ?_)
   refine DI rfl IL rfl (.c rfl .n) .n (Bq _) (fun v16 B hv => ?_)
   obtain ⟨rfl, rfl⟩ := hv
   refine Gt (AM rfl rfl) (Gt (AM rfl rfl) ?_)
   refine AT (AK (AU.id Order.fl.len Order.fl.one) rfl rfl rfl Dz rfl (.t (.t .h))) ?_
   refine Ga rfl (Gn (.t2 2 3) (Ab (AS (AD ?_))))
   refine AY rfl (.cell rfl .m2 (.inl ⟨(by rw [Order.fl.len]; exact B6), rfl⟩) (.tmp rfl .n)) ?_
   intro w1 hS; refine ⟨?_, hS.Am⟩; rw [show Words.parse s = _ from ((AW c1).trans ((AW c2).trans ((AW c3).trans ((AW c5).trans ((AW c7).trans ((AW c8).trans ((AW c17).trans ((BB c18).trans ((AW c19).trans ((AW c20).trans (BB c21)))))))))))]; rfl
  have c21p := kz c21
  (try simp only [Hd.cut] at c21)
  rw [hlen] at c21
  refine Aa ?_
  refine AB (.t3 2 5 8) ?_
  refine AV (AA (Gs (Gm rfl ?_)))
  refine Gt (Br JH (by decide) (Kn.own .m1) rfl rfl (by omega) (by first | omega | (simp only [Hd.cut] at *; omega) | (simp [Hd.cut] at q ⊢; omega))) ?_
  refine Gt (Dd rfl CO (Kn.own .m1) (by first | omega | (simp only [List.length_drop, Hd.cut] at *; omega) | (simp [Hd.cut] at q ⊢; omega))) ?_
  refine Gt (Ah Ht rfl) ?_
  refine AT (AK Order.l4 rfl rfl rfl Ey rfl .h) ?_
  refine Gn (.t2 2 8) (Gs (Gt (AZ rfl B6 .m0 (AU.id Order.fl.len Order.fl.one) rfl) ?_))
  refine AT (AK (AU.id Order.fl.len Order.fl.one) rfl rfl rfl Dz rfl (.t (.t .h))) ?_
  refine Ga rfl (Gn (.t2 2 3) (Ab ?_))
  refine AY rfl (.cell rfl .m2 (.inl ⟨(by rw [Order.fl.len]; exact B6), rfl⟩) (.tmp rfl .n)) ?_
  intro w1 hS; refine ⟨?_, hS.Am⟩; rw [show Words.parse s = _ from ((AW c1).trans ((AW c2).trans ((AW c3).trans ((AW c5).trans ((AW c7).trans ((AW c8).trans ((AW c17).trans ((BB c18).trans ((AW c19).trans ((AW c20).trans (AW c21)))))))))))]; rfl
 have c18p := kz c18
 (try simp only [Hd.cut] at c18)
 rw [hlen] at c18
 refine Aa ?_
 refine AB (.t6 2 4 5 8 14 15) ?_
 refine AA (Ao (Ae (Gs (Gm rfl (Gt (Ar rfl Tryz.underlying52 rfl) (Gt (Af rfl rfl) (Gm rfl ?_)))))))
 refine Bm 178 rfl rfl (fun q => AF rfl) (Bm 178 rfl rfl (fun q => BX (Bh rfl q)) (Gt (BJ rfl rfl (fun h => h)) (Ga rfl (Gn (.t6 2 4 5 8 14 174) ?_))))
 refine Gc (fun c22 => ?_) (fun c22 => ?_)
 ·
  (try simp only [Hd.cut] at c22)
  rw [hlen] at c22
  refine Gs (Gt (AZ rfl B6 .m0 (AU.id Order.fl.len Order.fl.one) rfl) ?_)
  refine AT (AK (AU.id Order.fl.len Order.fl.one) rfl rfl rfl Dz rfl (.t (.t .h))) ?_
  refine Ga rfl (Gn (.t2 2 3) (Ab (AS (AD ?_))))
  refine AY rfl (.cell rfl .m2 (.inl ⟨(by rw [Order.fl.len]; exact B6), rfl⟩) (.tmp rfl .n)) ?_
  intro w1 hS; refine ⟨?_, hS.Am⟩; rw [show Words.parse s = _ from ((AW c1).trans ((AW c2).trans ((AW c3).trans ((AW c5).trans ((AW c7).trans ((AW c8).trans ((AW c17).trans ((AW c18).trans (BB c22)))))))))]; rfl
 have c22p := kz c22
 (try simp only [Hd.cut] at c22)
 rw [hlen] at c22
 refine Gs (Gm rfl (Gt (Ar rfl Tryz.underlying52 rfl) (Gt (Cg rfl rfl) (Gm rfl (Bc 187 rfl rfl (fun q => AF rfl) (Bc 187 rfl rfl (fun q => Bu (cF rfl q) rfl) ?_))))))
 refine Gt (BS rfl rfl (fun h => by rw [h]; rfl)) ?_
 refine Ga rfl (Gn (.t5 2 4 5 8 183) ?_)
 refine Gc (fun c23 => ?_) (fun c23 => ?_)
 ·
  (try simp only [Hd.cut] at c23)
  rw [hlen] at c23
  refine Gs (Gm rfl ?_)
  refine DI rfl IL rfl (.c rfl .n) .n (Bq _) (fun v17 B hv => ?_)
  obtain ⟨rfl, rfl⟩ := hv
  refine Gt (AM rfl rfl) (Gt (AM rfl rfl) ?_)
  refine AT (AK (AU.id Order.fl.len Order.fl.one) rfl rfl rfl Dz rfl (.t (.t .h))) ?_
  refine Ga rfl (Gn (.t2 2 3) (Ab (AS (AD ?_))))
  refine AY rfl (.cell rfl .m2 (.inl ⟨(by rw [Order.fl.len]; exact B6), rfl⟩) (.tmp rfl .n)) ?_
  intro w1 hS; refine ⟨?_, hS.Am⟩; rw [show Words.parse s = _ from ((AW c1).trans ((AW c2).trans ((AW c3).trans ((AW c5).trans ((AW c7).trans ((AW c8).trans ((AW c17).trans ((AW c18).trans ((AW c22).trans (BB c23))))))))))]; rfl
 have c23p := kz c23
 (try simp only [Hd.cut] at c23)
 rw [hlen] at c23
 refine Aa ?_
 refine AB (.t3 2 5 8) ?_
 refine AV (AA (Gs (Gm rfl ?_)))
 refine Gt (Br JH (by decide) (Kn.own .m1) rfl rfl (by omega) (by first | omega | (simp only [Hd.cut] at *; omega) | (simp [Hd.cut] at q ⊢; omega))) ?_
 refine Gt (Dd rfl CO (Kn.own .m1) (by first | omega | (simp only [List.length_drop, Hd.cut] at *; omega) | (simp [Hd.cut] at q ⊢; omega))) ?_
 refine Gt (Ah Ht rfl) ?_
 refine AT (AK Order.l4 rfl rfl rfl Ey rfl .h) ?_
 refine Gn (.t2 2 8) (Gs (Gt (AZ rfl B6 .m0 (AU.id Order.fl.len Order.fl.one) rfl) ?_))
 refine AT (AK (AU.id Order.fl.len Order.fl.one) rfl rfl rfl Dz rfl (.t (.t .h))) ?_
 refine Ga rfl (Gn (.t2 2 3) (Ab ?_))
 refine AY rfl (.cell rfl .m2 (.inl ⟨(by rw [Order.fl.len]; exact B6), rfl⟩) (.tmp rfl .n)) ?_
 intro w1 hS; refine ⟨?_, hS.Am⟩; rw [show Words.parse s = _ from ((AW c1).trans ((AW c2).trans ((AW c3).trans ((AW c5).trans ((AW c7).trans ((AW c8).trans ((AW c17).trans ((AW c18).trans ((AW c22).trans (AW c23))))))))))]; rfl
theorem HR (d : Int) (w : World) : Ef Tryz.prog 128 #[.int .i64 d] w fun v w' => v = .int .i64 (AG.opposite d) ∧ CA w w' := by
 refine Al [] [] Tryz.func128 rfl rfl rfl (St.start w []) ?_
 refine Gs (Ga rfl (Gn (.t1 0) (Gs (Gm rfl (Gt (LW rfl rfl) (Gt (Lg rfl rfl) ?_))))))
 refine Gt (Au rfl rfl (IntWalk.i64_in _ (by omega))) ?_
 refine Gt (Sw rfl rfl (by omega)) ?_
 refine Ga rfl (Gn (.t1 2) (Ab ?_))
 refine AY rfl (.tmp rfl .n) ?_
 intro w1 hS; refine ⟨?_, hS.Am⟩; rfl
theorem Qi (b : Nat) (T : AE) (g : Hd) (d : Int) (hg : g.len = T.out.length) (hF : T.Fit) (hd : 0 ≤ d ∧ d < 6) (hn : T.out.length ≤ 80000) : FJ Tryz.prog 99 #[.pointer (some ⟨b, 0, none⟩), .int .i64 d] [Ad.box b 163 (Ac.enc ⟨T.w, T.b, g⟩), Ad.own g 56 16 (T.out.flatMap Ing.Event.enc)] (fun w => (GV 0 AG.DD w ∧ 0 ∉ Cb [Ad.box b 163 (Ac.enc ⟨T.w, T.b, g⟩), Ad.own g 56 16 (T.out.flatMap Ing.Event.enc)])) (fun v B => ∃ g' : Hd, v = .tuple #[] ∧ g'.len = (T.walk d).out.length ∧ B = [Ad.box b 163 (Ac.enc ⟨(T.walk d).w, (T.walk d).b, g'⟩), Ad.own g' 56 16 ((T.walk d).out.flatMap Ing.Event.enc)]) := by
 intro w hS0 hH
 obtain ⟨gl0, gm0⟩ := hH
 have hb := hF.b
 have hr := hF.room
 have hx := hF.exit hd.1 hd.2
 refine Al _ _ Tryz.func99 rfl rfl rfl (hS0) ?_
 refine Ao ?_
 refine BD (N := 19) [0, 0, 0, 4, 12, 28, 2, 66, 194, 510, 1022, 2046, 1, 4097, 12289, 32767, 65535, 0, 262143] mix (by kernel_rfl) rfl ?_
 refine Pf 0 rfl (AF rfl) (Pf 1 rfl (AF rfl) (Pf 2 rfl (AF rfl) (Pf 3 rfl (BV rfl) (Pf 4 rfl (Ah CN rfl) (Pf 5 rfl (AH rfl A4 .m0 Ac.l1 rfl rfl) (Pf 6 rfl (BV rfl) (Pf 7 rfl (Ah A8 rfl) ?_)))))))
 refine Pf 8 rfl (Ah Bn rfl) ?_
 refine Pf 9 rfl (AR C4 rfl rfl (by first | omega | exact hb.1 | exact hb.2 | (dsimp only; omega)) (by first | omega | exact hb.1 | exact hb.2 | (dsimp only; omega))) ?_
 refine Pf 10 rfl (Ah Cy rfl) ?_
 refine Pf 11 rfl (AH rfl A4 .m0 (((Ac.l0.comp AG.l2).comp (AU.ar (n := 6) Ak.fl (by first | omega | exact hb | (dsimp only; omega)))).comp Ak.l3) rfl rfl) ?_
 refine Pf 12 rfl (BV rfl) (Pf 13 rfl (Ah A8 rfl) (Pf 14 rfl (Ah Gz rfl) ?_))
 refine Pf 15 rfl (AR N9 rfl rfl (by first | omega | exact hb.1 | exact hb.2 | (dsimp only; omega)) (by first | omega | exact hb.1 | exact hb.2 | (dsimp only; omega))) ?_
 refine Pf 16 rfl (AZ rfl N5 .m0 ((Ac.l0.comp AG.l0).comp (AU.ar (n := 6) Room.fl (by first | omega | exact hb | (dsimp only; omega)))) rfl) ?_
 refine An 17 rfl (by kernel_rfl) ?_
 refine BF rfl Nc rfl (fun b1 => ?_)
 refine Bp rfl ⟨?_, ?_⟩
 · exact (Po rfl (AZ rfl N5 .m1 ((Ac.l0.comp AG.l0).comp (AU.ar (n := 6) Room.fl (by first | omega | exact hb | (dsimp only; omega)))) rfl) rfl rfl (Po rfl (AR N9 rfl rfl (by first | omega | exact hb.1 | exact hb.2 | (dsimp only; omega)) (by first | omega | exact hb.1 | exact hb.2 | (dsimp only; omega))) rfl rfl (Po rfl (Ah Gz rfl) rfl rfl (Po rfl (Ah A8 rfl) rfl rfl (Po rfl (BV rfl) rfl rfl (Po rfl (AH rfl A4 .m1 (((Ac.l0.comp AG.l2).comp (AU.ar (n := 6) Ak.fl (by first | omega | exact hb | (dsimp only; omega)))).comp Ak.l3) rfl rfl) rfl rfl (Po rfl (Ah Cy rfl) rfl rfl (Po rfl (AR C4 rfl rfl (by first | omega | exact hb.1 | exact hb.2 | (dsimp only; omega)) (by first | omega | exact hb.1 | exact hb.2 | (dsimp only; omega))) rfl rfl (Po rfl (Ah Bn rfl) rfl rfl (Po rfl (Ah A8 rfl) rfl rfl (Po rfl (BV rfl) rfl rfl (Po rfl (AH rfl A4 .m1 Ac.l1 rfl rfl) rfl rfl (Po rfl (Ah CN rfl) rfl rfl (Po rfl (BV rfl) rfl rfl (Po rfl (AF rfl) rfl rfl (Po rfl (AF rfl) rfl rfl (Po rfl (AF rfl) rfl rfl Aq)))))))))))))))))
 refine An 18 rfl (by kernel_rfl) ?_
 refine AT (AK (AU.id Room.fl.len Room.fl.one) rfl rfl rfl QW rfl .h) ?_
 refine BM rfl ⟨?_, ?_⟩
 · exact (Pk (Pk (Pk (Pk (Pk (Pk (Pk (Pk (Pk (Pk (Pk (Pk (Pk (Pk (Pk (Pk (Pk Aq)))))))))))))))))
 refine A3 (by kernel_rfl) ?_
 refine AB (.t3 0 1 4) ?_
 refine AA (Ae (Gs (Gm rfl (Gt (Ah L9 rfl) ?_))))
 refine Gt (AR SX rfl rfl (by first | omega | exact hb.1 | exact hb.2 | (dsimp only; omega)) (by first | omega | exact hb.1 | exact hb.2 | (dsimp only; omega))) ?_
 refine Gt (AH rfl A4 .m0 (Room.l2.comp (AU.ar (n := 6) B1 (by first | omega | exact hb | (dsimp only; omega)))) rfl rfl) ?_
 refine Gt (Af rfl rfl) (Ga rfl (Gn (.t4 0 1 4 58) ?_))
 refine Gc (fun c1 => ?_) (fun c1 => ?_)
 ·
  have c1p := kz c1
  refine AJ (Gm rfl ?_)
  refine Ai rfl D9 (.c rfl (.c rfl .n)) (.c (.t .h) (.c (.t .h) .n)) (Ba _ _ _ _ hg hb (by omega)) (fun v1 B hv => ?_)
  obtain ⟨y2, rfl, y3, rfl⟩ := hv
  refine AQ (AB (.nil _) ?_)
  refine AV ?_
  refine Bj rfl .n ?_
  intro w1 hS
  have hS := (hS.perm (As.perm (.c .h (.c .h .n)))).A1
  have hq : T.walk d = _ := (BB c1)
  refine ⟨_, ⟨?gq1, rfl, ?hl1, ?hB1⟩, hS⟩
  case hB1 => rw [hq]; (try rfl)
  case hl1 => rw [hq]; assumption
 have c1p := kz c1
 refine Gs (Gm rfl (Gt (Ah MV rfl) ?_))
 refine Gt (AR Vy rfl rfl (by first | omega | exact hb.1 | exact hb.2 | (dsimp only; omega)) (by first | omega | exact hb.1 | exact hb.2 | (dsimp only; omega))) ?_
 refine Gt (AH rfl Dh .m0 (Room.l3.comp (AU.ar (n := 6) HE (by first | omega | exact hb | (dsimp only; omega)))) rfl rfl) ?_
 refine Ga rfl (Gn (.t4 0 1 4 66) ?_)
 refine Gc (fun c2 => ?_) (fun c2 => ?_)
 ·
  have c2p := kz c2
  refine AJ (Gm rfl ?_)
  refine Ai rfl D9 (.c rfl (.c rfl .n)) (.c (.t .h) (.c (.t .h) .n)) (Ba _ _ _ _ hg hb (by omega)) (fun v4 B hv => ?_)
  obtain ⟨y5, rfl, y6, rfl⟩ := hv
  refine AQ (AB (.nil _) ?_)
  refine AV ?_
  refine Bj rfl .n ?_
  intro w1 hS
  have hS := (hS.perm (As.perm (.c .h (.c .h .n)))).A1
  have hq : T.walk d = _ := ((AW c1).trans (BB c2))
  refine ⟨_, ⟨?gq2, rfl, ?hl2, ?hB2⟩, hS⟩
  case hB2 => rw [hq]; (try rfl)
  case hl2 => rw [hq]; assumption
 have c2p := kz c2
 have gm := AE.Oy (hF.BO { AE.Fj 1 with dir := d }) (r := (T.w.BR.at T.me.room).CK.at d - 1) (by have h0 : ¬ (T.w.BR.at (T.w.AN.at T.b).room).CK.at d = 0 := c1p; show 0 ≤ (T.w.BR.at (T.w.AN.at T.b).room).CK.at d - 1 ∧ (T.w.BR.at (T.w.AN.at T.b).room).CK.at d - 1 < 6; omega)
 refine Gs (Gm rfl (Gm rfl (Gt (BC Nf Ib rfl (.cons Ing.Event.l0 rfl rfl rfl (.cons Ing.Event.l3 rfl rfl rfl (.cons Ing.Event.l4 rfl rfl rfl .nil)))) ?_)))
 refine Ai rfl OZ (.c rfl (.c rfl .n)) (.c (.t .h) (.c (.t .h) .n)) (CL _ T _ { AE.Fj 1 with dir := d } hg hb (show (-1 : Int) < 6 by decide) (by omega)) (fun v7 B hv => ?_)
 obtain ⟨y8, rfl, y9, rfl⟩ := hv
 refine Gn (.t3 0 1 4) (Ao ?_)
 refine BD (N := 16) [0, 0, 2, 6, 14, 0, 0, 96, 224, 480, 1, 1025, 3073, 8191, 16383, 32767] mix (by kernel_rfl) rfl ?_
 refine Pf 0 rfl (AF rfl) (Pf 1 rfl (AF rfl) (Pf 2 rfl (BV rfl) (Pf 3 rfl (Ah CN rfl) (Pf 4 rfl (AH rfl A4 .m0 Ac.l1 rfl rfl) (Pf 5 rfl (AF rfl) (Pf 6 rfl (Ah L9 rfl) ?_))))))
 refine Pf 7 rfl (AR SX rfl rfl (by first | omega | exact hb.1 | exact hb.2 | (dsimp only; omega)) (by first | omega | exact hb.1 | exact hb.2 | (dsimp only; omega))) ?_
 refine Pf 8 rfl (AH rfl A4 .m2 (Room.l2.comp (AU.ar (n := 6) B1 (by first | omega | exact hb | (dsimp only; omega)))) rfl rfl) ?_
 refine Pf 9 rfl (FK rfl rfl (IntWalk.i64_in _ (by first | omega | exact hb.1 | exact hb.2 | (dsimp only; omega)))) ?_
 refine Pf 10 rfl (BV rfl) (Pf 11 rfl (Ah A8 rfl) (Pf 12 rfl (Ah Bn rfl) ?_))
 refine Pf 13 rfl (AR C4 rfl rfl (by first | omega | exact hb.1 | exact hb.2 | (dsimp only; omega)) (by first | omega | exact hb.1 | exact hb.2 | (dsimp only; omega))) ?_
 refine Pf 14 rfl (Ah Cy rfl) ?_
 refine An 15 rfl (by kernel_rfl) ?_
 refine AT (AK (((Ac.l0.comp AG.l2).comp (AU.ar (n := 6) Ak.fl (by first | omega | exact hb | (dsimp only; omega)))).comp Ak.l3) rfl rfl rfl C9 rfl .h) ?_
 refine BM rfl ⟨?_, ?_⟩
 · exact (Pk (Pk (Pk (Pk (Pk (Pk (Pk (Pk (Pk (Pk (Pk (Pk (Pk (Pk (Pk Aq)))))))))))))))
 refine A3 (by kernel_rfl) ?_
 refine AB (.t2 0 1) ?_
 refine AA (Ao ?_)
 refine BD (N := 11) [0, 0, 2, 6, 14, 1, 33, 97, 255, 511, 1023] mix (by kernel_rfl) rfl ?_
 refine Pf 0 rfl (AF rfl) (Pf 1 rfl (AF rfl) (Pf 2 rfl (BV rfl) (Pf 3 rfl (Ah CN rfl) (Pf 4 rfl (AH rfl A4 .m0 Ac.l1 rfl rfl) (Pf 5 rfl (BV rfl) (Pf 6 rfl (Ah A8 rfl) (Pf 7 rfl (Ah Bn rfl) ?_)))))))
 refine Pf 8 rfl (AR C4 rfl rfl (by first | omega | exact hb.1 | exact hb.2 | (dsimp only; omega)) (by first | omega | exact hb.1 | exact hb.2 | (dsimp only; omega))) ?_
 refine Pf 9 rfl (Ah GD rfl) ?_
 refine An 10 rfl (by kernel_rfl) ?_
 refine AT (AK (((Ac.l0.comp AG.l2).comp (AU.ar (n := 6) Ak.fl (by first | omega | exact hb | (dsimp only; omega)))).comp Ak.l5) rfl rfl rfl C9 rfl .h) ?_
 refine BM rfl ⟨?_, ?_⟩
 · exact (Pk (Pk (Pk (Pk (Pk (Pk (Pk (Pk (Pk (Pk Aq))))))))))
 refine A3 (by kernel_rfl) ?_
 refine AB (.t2 0 1) ?_
 refine AA (Ao ?_)
 refine GF (fun _ => .h) (congrArg (fun q => Ac.enc ⟨q, _, _⟩) (AE.Xm (T.BO { AE.Fj 1 with dir := d }) hb _)) ?_
 refine AJ (Gm rfl (Gm rfl ?_))
 refine BA rfl Yr (.c rfl .n) (fun w hS => HR _ w) ?_
 refine Gt (BC Nf Ib rfl (.cons Ing.Event.l0 rfl rfl rfl (.cons Ing.Event.l3 rfl rfl rfl (.cons Ing.Event.l4 rfl rfl rfl .nil)))) ?_
 refine Ai rfl OZ (.c rfl (.c rfl .n)) (.c .h (.c .h .n)) (CL _ (AE.F2 (T.BO { AE.Fj 1 with dir := d }) ((T.w.BR.at T.me.room).CK.at d - 1)) _ { AE.Fj 2 with dir := AG.opposite d } (by assumption) hb (show (-1 : Int) < 6 by decide) (show (AE.out (T.BO { AE.Fj 1 with dir := d })).length ≤ 100000 by simp only [AE.CZ]; omega)) (fun v10 B hv => ?_)
 obtain ⟨y11, rfl, y12, rfl⟩ := hv
 refine Gn (.t1 0) (AJ (Gm rfl ?_))
 refine BE rfl UE (.c rfl .n) (.c .h (.c .h .n)) (G8 _ (AE.BO (AE.F2 (T.BO { AE.Fj 1 with dir := d }) ((T.w.BR.at T.me.room).CK.at d - 1)) { AE.Fj 2 with dir := AG.opposite d }) _ (by assumption) hb gm.fit.br (show _ ≤ 90000 by simp only [AE.CZ]; show (AE.out (T.BO { AE.Fj 1 with dir := d })).length + 1 ≤ 90000; simp only [AE.CZ]; omega)) (fun w hS => gl0.pull gm0 hS (.c .h (.c .h .n))) (fun v13 B hv => ?_)
 obtain ⟨y14, rfl, y15, rfl⟩ := hv
 refine AQ (AB (.nil _) ?_)
 refine AV ?_
 refine Bj rfl .n ?_
 intro w1 hS
 have hS := (hS.perm (As.perm (.c .h (.c .h .n)))).A1
 have hq : T.walk d = _ := ((AW c1).trans (AW c2))
 refine ⟨_, ⟨?gq3, rfl, ?hl3, ?hB3⟩, hS⟩
 case hB3 => rw [hq]; (try rfl)
 case hl3 => rw [hq]; assumption
theorem Hu (b : Nat) (T : AE) (g : Hd) (hF : T.Fit) : JL Tryz.prog 136 #[.pointer (some ⟨b, 0, none⟩)] [Ad.box b 163 (Ac.enc ⟨T.w, T.b, g⟩)] (fun v B => ∃ f : Hd, v = f.val ∧ f.len = (T.own).length ∧ B = [Ad.box b 163 (Ac.enc ⟨T.w, T.b, g⟩), Ad.own f 3 1 ((T.own).flatMap Av)]) := by
 intro w hS0
 have hb := hF.b
 have hr := hF.room
 refine Al _ _ Tryz.func136 rfl rfl rfl (hS0) ?_
 refine Gs (Ga rfl (Gn (.t1 0) (Ao ?_)))
 refine BD (N := 10) [0, 1, 3, 7, 0, 16, 48, 112, 255, 511] mix (by kernel_rfl) rfl ?_
 refine Pf 0 rfl (AF rfl) (Pf 1 rfl (BV rfl) (Pf 2 rfl (Ah A8 rfl) (Pf 3 rfl (AZ rfl BU .m0 Ac.l0 rfl) (Pf 4 rfl (AF rfl) (Pf 5 rfl (BV rfl) (Pf 6 rfl (Ah CN rfl) (Pf 7 rfl (AH rfl A4 .m0 Ac.l1 rfl rfl) ?_)))))))
 refine An 8 rfl (by kernel_rfl) ?_
 refine Ai rfl Sa (.c rfl (.c rfl (.c rfl .n))) .n (E9 _ _ _) (fun v1 B hv => ?_)
 obtain ⟨y2, rfl, y3, rfl⟩ := hv
 refine Bp rfl ⟨?_, ?_⟩
 · exact (Pk (Pk (Pk (Pk (Pk (Pk (Pk (Pk Aq))))))))
 refine Pf 9 rfl (A0 rfl) ?_
 refine A3 (by kernel_rfl) ?_
 refine AB (.t1 2) ?_
 refine AA (Ab ?_)
 refine AY rfl (.tmp rfl .n) ?_
 intro w1 hS
 have hS := (hS.perm (As.perm (.c (.t .h) (.c .h .n)))).A1
 exact ⟨_, ⟨_, rfl, by assumption, rfl⟩, hS⟩
theorem Lo (b : Nat) (T : AE) (g : Hd) (hF : T.Fit) : JL Tryz.prog 125 #[.pointer (some ⟨b, 0, none⟩)] [Ad.box b 163 (Ac.enc ⟨T.w, T.b, g⟩)] (fun v B => ∃ F : AG, F = T.E0.w ∧ v = .tuple #[] ∧ B = [Ad.box b 163 (Ac.enc ⟨F, T.b, g⟩)]) := by
 intro w hS0
 have hb := hF.b
 have hr := hF.room
 have ho9 := T.KI
 refine Al _ _ Tryz.func125 rfl rfl rfl (hS0) ?_
 refine CD (Gm rfl ?_)
 refine Ai rfl Uc (.c rfl .n) (.c .h .n) (Hu _ _ _ (by first | assumption | omega)) (fun v1 B hv => ?_)
 obtain ⟨y2, rfl, y3, rfl⟩ := hv
 refine Gt (Ar rfl Tryz.underlying169 rfl) (Gm rfl (Gn (.t4 0 7 8 9) (Ae ?_)))
 refine Bo (.t4 9 0 7 8) ?_
 refine HS (fun (k : Int) (X : AE) => 0 ≤ k ∧ T.CX T.own = X.CX (T.own.drop k.toNat) ∧ X.b = T.b ∧ k ≤ (T.own.length : Int)) (fun (k : Int) (X : AE) => ((T.own.length : Int) - k).toNat) (fun (k : Int) (X : AE) => [(9, .int .i64 k)]) (fun (k : Int) (X : AE) => [Ad.box b 163 (Ac.enc ⟨X.w, X.b, g⟩)]) (0) (_) ?_ rfl rfl (fun k X hI1 => ?_)
 · exact ⟨by omega, rfl, rfl, by omega⟩
 obtain ⟨hI11, hI12, hI13, hI14⟩ := hI1
 refine Gs (Gt (A9 rfl rfl) (AQ (AA (Ao ?_))))
 refine Gc (fun c1 => ?_) (fun c1 => ?_)
 ·
  have c1p := kz c1
  have hx := AE.Ln (Bf.Ev (xs := T.own) (i := k.toNat) (by omega))
  refine Aa ?_
  refine AB (.t4 0 7 8 9) ?_
  refine AA (Ao (Ae (Gs ?_)))
  refine Gt (Br GU (by decide) (Kn.own .m1) rfl rfl (by omega) (by omega)) ?_
  refine Gt (DC rfl A4 (Kn.own .m1) (by omega)) ?_
  refine Ga rfl (Gn (.t5 0 3 7 8 9) (Gs (Gm rfl (Gm rfl (Gt (BV rfl) (Gt (Ah A8 rfl) (Gt (Ah Ce rfl) ?_)))))))
  refine Gt (AR FM rfl rfl (by first | omega | (rw [hI13]; first | exact hb.1 | exact hb.2) | (dsimp only; omega)) (by first | omega | (rw [hI13]; first | exact hb.1 | exact hb.2) | (dsimp only; omega))) ?_
  refine Ga rfl (Gn (.t5 0 4 7 8 9) (CD (Gm rfl (Gt (BV rfl) (Gt (Ah Fb rfl) ?_)))))
  refine Gt (AH rfl A4 .m0 (((Ac.l0.comp AG.l1).comp (AU.arr (n := 9) Ag.fl (by first | omega | (rw [hI13]; first | exact hb.1 | exact hb.2) | (dsimp only; omega)) (by first | omega | (rw [hI13]; first | exact hb.1 | exact hb.2) | (dsimp only; omega)))).comp Ag.l1) rfl rfl) ?_
  refine Gt (Af rfl rfl) (Gn (.t6 0 4 7 8 9 23) ?_)
  refine Gc (fun c2 => ?_) (fun c2 => ?_)
  ·
   have c2p := kz c2
   refine AJ (Gm rfl (Gt (BV rfl) (Gt (Ah F8 rfl) ?_)))
   refine AT (AK (((Ac.l0.comp AG.l1).comp (AU.arr (n := 9) Ag.fl (by first | omega | (rw [hI13]; first | exact hb.1 | exact hb.2) | (dsimp only; omega)) (by first | omega | (rw [hI13]; first | exact hb.1 | exact hb.2) | (dsimp only; omega)))).comp Ag.l4) rfl rfl rfl KX rfl .h) ?_
   refine Gn (.t5 0 4 7 8 9) ?_
   refine BD (N := 19) [0, 0, 0, 0, 8, 24, 56, 4, 132, 388, 1020, 2044, 4092, 8189, 16381, 32765, 65535, 131071, 262143] mix (by kernel_rfl) rfl ?_
   refine Pf 0 rfl (AF rfl) (Pf 1 rfl (AF rfl) (Pf 2 rfl (AF rfl) (Pf 3 rfl (AF rfl) (Pf 4 rfl (BV rfl) (Pf 5 rfl (Ah CN rfl) (Pf 6 rfl (AH rfl A4 .m0 Ac.l1 rfl rfl) (Pf 7 rfl (BV rfl) ?_)))))))
   refine Pf 8 rfl (Ah A8 rfl) (Pf 9 rfl (Ah Bn rfl) ?_)
   refine Pf 10 rfl (AR C4 rfl rfl (by first | omega | (rw [hI13]; first | exact hb.1 | exact hb.2) | (dsimp only; omega)) (by first | omega | (rw [hI13]; first | exact hb.1 | exact hb.2) | (dsimp only; omega))) ?_
   refine Pf 11 rfl (Ah Cy rfl) ?_
   refine Pf 12 rfl (AH rfl A4 .m0 (((Ac.l0.comp AG.l2).comp (AU.arr (n := 6) Ak.fl (by first | omega | (rw [hI13]; first | exact hb.1 | exact hb.2) | (dsimp only; omega)) (by first | omega | (rw [hI13]; first | exact hb.1 | exact hb.2) | (dsimp only; omega)))).comp Ak.l3) rfl rfl) ?_
   refine Pf 13 rfl (BV rfl) (Pf 14 rfl (Ah FL rfl) ?_)
   refine An 15 rfl (by kernel_rfl) ?_
   refine AT (AK (((Ac.l0.comp AG.l1).comp (AU.arr (n := 9) Ag.fl (by first | omega | (rw [hI13]; first | exact hb.1 | exact hb.2) | (dsimp only; omega)) (by first | omega | (rw [hI13]; first | exact hb.1 | exact hb.2) | (dsimp only; omega)))).comp Ag.l2) rfl rfl rfl C9 rfl .h) ?_
   refine BM rfl ⟨?_, ?_⟩
   · exact (Pk (Pk (Pk (Pk (Pk (Pk (Pk (Pk (Pk (Pk (Pk (Pk (Pk (Po rfl (AF rfl) rfl rfl (Pk Aq)))))))))))))))
   refine Pf 16 rfl (BV rfl) (Pf 17 rfl (Ah DF rfl) ?_)
   refine An 18 rfl (by kernel_rfl) ?_
   refine AT (AK (((Ac.l0.comp AG.l1).comp (AU.arr (n := 9) Ag.fl (by first | omega | (rw [hI13]; first | exact hb.1 | exact hb.2) | (dsimp only; omega)) (by first | omega | (rw [hI13]; first | exact hb.1 | exact hb.2) | (dsimp only; omega)))).comp Ag.l3) rfl rfl rfl C9 rfl .h) ?_
   refine BM rfl ⟨?_, ?_⟩
   · exact (Pk (Pk (Pk (Pk (Pk (Pk (Pk (Pk (Pk (Pk (Pk (Pk (Pk (Pk (Pk (Pk (Pk Aq)))))))))))))))))
   refine A3 (by kernel_rfl) ?_
   refine AB (.t4 0 7 8 9) ?_
   refine AV (AA ?_)
   refine GF (fun _ => .h) (congrArg (fun q => Ac.enc ⟨q, _, _⟩) (AE.Vp X hx.1 hx.2 c2)) ?_
   refine AJ ?_
   refine Gt (Au rfl rfl (IntWalk.i64_in _ (by first | omega | (rw [hI13]; first | exact hb.1 | exact hb.2) | (dsimp only; omega)))) ?_
   refine Gm rfl ?_
   refine AQ (AB (.t4 0 7 8 9) ?_)
   refine Da (k + 1) _ ?_ ?_ (.t4 9 0 7 8) (.refl _)
   · exact ⟨by omega, by rw [hI12, AE.LO hI11 (by omega)], hI13, by omega⟩
   · omega
  have c2p := kz c2
  refine Aa ?_
  refine AB (.t5 0 4 7 8 9) ?_
  refine AA ?_
  refine BD (N := 19) [0, 0, 0, 0, 8, 24, 56, 4, 132, 388, 1020, 2044, 4092, 8189, 16381, 32765, 65535, 131071, 262143] mix (by kernel_rfl) rfl ?_
  refine Pf 0 rfl (AF rfl) (Pf 1 rfl (AF rfl) (Pf 2 rfl (AF rfl) (Pf 3 rfl (AF rfl) (Pf 4 rfl (BV rfl) (Pf 5 rfl (Ah CN rfl) (Pf 6 rfl (AH rfl A4 .m0 Ac.l1 rfl rfl) (Pf 7 rfl (BV rfl) ?_)))))))
  refine Pf 8 rfl (Ah A8 rfl) (Pf 9 rfl (Ah Bn rfl) ?_)
  refine Pf 10 rfl (AR C4 rfl rfl (by first | omega | (rw [hI13]; first | exact hb.1 | exact hb.2) | (dsimp only; omega)) (by first | omega | (rw [hI13]; first | exact hb.1 | exact hb.2) | (dsimp only; omega))) ?_
  refine Pf 11 rfl (Ah Cy rfl) ?_
  refine Pf 12 rfl (AH rfl A4 .m0 (((Ac.l0.comp AG.l2).comp (AU.arr (n := 6) Ak.fl (by first | omega | (rw [hI13]; first | exact hb.1 | exact hb.2) | (dsimp only; omega)) (by first | omega | (rw [hI13]; first | exact hb.1 | exact hb.2) | (dsimp only; omega)))).comp Ak.l3) rfl rfl) ?_
  refine Pf 13 rfl (BV rfl) (Pf 14 rfl (Ah FL rfl) ?_)
  refine An 15 rfl (by kernel_rfl) ?_
  refine AT (AK (((Ac.l0.comp AG.l1).comp (AU.arr (n := 9) Ag.fl (by first | omega | (rw [hI13]; first | exact hb.1 | exact hb.2) | (dsimp only; omega)) (by first | omega | (rw [hI13]; first | exact hb.1 | exact hb.2) | (dsimp only; omega)))).comp Ag.l2) rfl rfl rfl C9 rfl .h) ?_
  refine BM rfl ⟨?_, ?_⟩
  · exact (Pk (Pk (Pk (Pk (Pk (Pk (Pk (Pk (Pk (Pk (Pk (Pk (Pk (Po rfl (AF rfl) rfl rfl (Pk Aq)))))))))))))))
  refine Pf 16 rfl (BV rfl) (Pf 17 rfl (Ah DF rfl) ?_)
  refine An 18 rfl (by kernel_rfl) ?_
  refine AT (AK (((Ac.l0.comp AG.l1).comp (AU.arr (n := 9) Ag.fl (by first | omega | (rw [hI13]; first | exact hb.1 | exact hb.2) | (dsimp only; omega)) (by first | omega | (rw [hI13]; first | exact hb.1 | exact hb.2) | (dsimp only; omega)))).comp Ag.l3) rfl rfl rfl C9 rfl .h) ?_
  refine BM rfl ⟨?_, ?_⟩
  · exact (Pk (Pk (Pk (Pk (Pk (Pk (Pk (Pk (Pk (Pk (Pk (Pk (Pk (Pk (Pk (Pk (Pk Aq)))))))))))))))))
  refine A3 (by kernel_rfl) ?_
  refine AB (.t4 0 7 8 9) ?_
  refine AV (AA ?_)
  refine GF (fun _ => .h) (congrArg (fun q => Ac.enc ⟨q, _, _⟩) (AE.Uw X hx.1 hx.2 c2)) ?_
  refine AJ ?_
  refine Gt (Au rfl rfl (IntWalk.i64_in _ (by first | omega | (rw [hI13]; first | exact hb.1 | exact hb.2) | (dsimp only; omega)))) ?_
  refine Gm rfl ?_
  refine AQ (AB (.t4 0 7 8 9) ?_)
  refine Da (k + 1) _ ?_ ?_ (.t4 9 0 7 8) (.refl _)
  · exact ⟨by omega, by rw [hI12, AE.LO hI11 (by omega)], hI13, by omega⟩
  · omega
 have c1p := kz c1
 obtain rfl : k = (T.own.length : Int) := by omega
 rw [AE.Jb] at hI12
 have hY : X = T.CX T.own := hI12.symm
 refine Be (AX (AX (Aj ?_)))
 refine AB (.t1 0) ?_
 refine AA (CD (Gm rfl (AQ (AA (Ae ?_)))))
 refine Bo (.t2 45 0) ?_
 refine HS (fun (k : Int) (Y : AE) => 0 ≤ k ∧ k ≤ 6 ∧ Y = (T.CX T.own).DN k.toNat ∧ Y.b = T.b) (fun (k : Int) (Y : AE) => (6 - k).toNat) (fun (k : Int) (Y : AE) => [(45, .int .i64 k)]) (fun (k : Int) (Y : AE) => [Ad.box b 163 (Ac.enc ⟨Y.w, Y.b, g⟩)]) (0) (_) ?_ rfl rfl (fun k Y hI2 => ?_)
 · exact ⟨by omega, by omega, hY, hI13⟩
 obtain ⟨hI21, hI22, hI23, hI24⟩ := hI2
 refine Gs (Gt (A9 rfl rfl) (AQ (AA (Ao ?_))))
 refine Gc (fun c3 => ?_) (fun c3 => ?_)
 ·
  have c3p := kz c3
  refine Aa ?_
  refine AB (.t2 0 45) ?_
  refine AA (Ao (Ae (Gs (Gm rfl (Ga rfl (Gn (.t3 0 5 45) (Ao ?_)))))))
  refine BD (N := 14) [0, 0, 1, 5, 13, 31, 63, 127, 0, 256, 768, 1792, 3840, 8191] mix (by kernel_rfl) rfl ?_
  refine Pf 0 rfl (AF rfl) (Pf 1 rfl (AF rfl) (Pf 2 rfl (BV rfl) (Pf 3 rfl (Ah A8 rfl) (Pf 4 rfl (Ah Bn rfl) ?_))))
  refine Pf 5 rfl (AR C4 rfl rfl (by first | omega | (rw [hI13]; first | exact hb.1 | exact hb.2) | (dsimp only; omega)) (by first | omega | (rw [hI13]; first | exact hb.1 | exact hb.2) | (dsimp only; omega))) ?_
  refine Pf 6 rfl (Ah GD rfl) ?_
  refine Pf 7 rfl (AH rfl A4 .m0 (((Ac.l0.comp AG.l2).comp (AU.arr (n := 6) Ak.fl (by first | omega | (rw [hI13]; first | exact hb.1 | exact hb.2) | (dsimp only; omega)) (by first | omega | (rw [hI13]; first | exact hb.1 | exact hb.2) | (dsimp only; omega)))).comp Ak.l5) rfl rfl) ?_
  refine Pf 8 rfl (AF rfl) (Pf 9 rfl (BV rfl) (Pf 10 rfl (Ah CN rfl) (Pf 11 rfl (AH rfl A4 .m0 Ac.l1 rfl rfl) ?_)))
  refine Pf 12 rfl (Au rfl rfl (IntWalk.i64_in _ (by first | omega | (rw [hI13]; first | exact hb.1 | exact hb.2) | (dsimp only; omega)))) ?_
  refine Pf 13 rfl (Af rfl rfl) ?_
  refine A3 (by kernel_rfl) ?_
  refine AB (.t4 0 5 45 61) ?_
  refine AA ?_
  refine Gc (fun c4 => ?_) (fun c4 => ?_)
  ·
   have c4p := kz c4
   have hcb : decide ((Y.w.AN.at k).Bx = (T.CX T.own).b + 1) = true := by rw [(AE.IG T.own T).1, ← hI24]; exact c4
   refine AJ (Gm rfl (Gm rfl (Gt (BV rfl) (Gt (Ah A8 rfl) (Gt (Ah Bn rfl) ?_)))))
   refine Gt (AR C4 rfl rfl (by first | omega | (rw [hI13]; first | exact hb.1 | exact hb.2) | (dsimp only; omega)) (by first | omega | (rw [hI13]; first | exact hb.1 | exact hb.2) | (dsimp only; omega))) ?_
   refine Gt (Ah GD rfl) ?_
   refine AT (AK (((Ac.l0.comp AG.l2).comp (AU.arr (n := 6) Ak.fl (by first | omega | (rw [hI13]; first | exact hb.1 | exact hb.2) | (dsimp only; omega)) (by first | omega | (rw [hI13]; first | exact hb.1 | exact hb.2) | (dsimp only; omega)))).comp Ak.l5) rfl rfl rfl C9 rfl .h) ?_
   refine AQ (AB (.t2 0 45) ?_)
   refine AV (AA (AJ ?_))
   refine Gt (Au rfl rfl (IntWalk.i64_in _ (by first | omega | (rw [hI13]; first | exact hb.1 | exact hb.2) | (dsimp only; omega)))) ?_
   refine Gm rfl ?_
   refine AQ (AB (.t2 0 45) ?_)
   refine Da (k + 1) (Y.Ch k 0) ?_ ?_ (.t2 45 0) (.refl _)
   · exact ⟨by omega, by omega, by rw [AE.Nn hI21, ← hI23, BB hcb], hI24⟩
   · omega
  have c4p := kz c4
  have hcb : decide ((Y.w.AN.at k).Bx = (T.CX T.own).b + 1) = false := by rw [(AE.IG T.own T).1, ← hI24]; exact c4
  refine Aa ?_
  refine AB (.t2 0 45) ?_
  refine AV (AA (AJ ?_))
  refine Gt (Au rfl rfl (IntWalk.i64_in _ (by first | omega | (rw [hI13]; first | exact hb.1 | exact hb.2) | (dsimp only; omega)))) ?_
  refine Gm rfl ?_
  refine AQ (AB (.t2 0 45) ?_)
  refine Da (k + 1) (Y) ?_ ?_ (.t2 45 0) (.refl _)
  · exact ⟨by omega, by omega, by rw [AE.Nn hI21, ← hI23, AW hcb], hI24⟩
  · omega
 have c3p := kz c3
 obtain rfl : k = 6 := by omega
 refine Be (AX (AX (Aj ?_)))
 refine AB (.t1 0) ?_
 refine AA ?_
 refine BD (N := 11) [0, 0, 2, 6, 14, 1, 33, 97, 255, 511, 1023] mix (by kernel_rfl) rfl ?_
 refine Pf 0 rfl (AF rfl) (Pf 1 rfl (AF rfl) (Pf 2 rfl (BV rfl) (Pf 3 rfl (Ah CN rfl) (Pf 4 rfl (AH rfl A4 .m0 Ac.l1 rfl rfl) (Pf 5 rfl (BV rfl) (Pf 6 rfl (Ah A8 rfl) (Pf 7 rfl (Ah Bn rfl) ?_)))))))
 refine Pf 8 rfl (AR C4 rfl rfl (by first | omega | (rw [hI13]; first | exact hb.1 | exact hb.2) | (dsimp only; omega)) (by first | omega | (rw [hI13]; first | exact hb.1 | exact hb.2) | (dsimp only; omega))) ?_
 refine Pf 9 rfl (Ah GD rfl) ?_
 refine An 10 rfl (by kernel_rfl) ?_
 refine AT (AK (((Ac.l0.comp AG.l2).comp (AU.arr (n := 6) Ak.fl (by first | omega | (rw [hI13]; first | exact hb.1 | exact hb.2) | (dsimp only; omega)) (by first | omega | (rw [hI13]; first | exact hb.1 | exact hb.2) | (dsimp only; omega)))).comp Ak.l5) rfl rfl rfl C9 rfl .h) ?_
 refine BM rfl ⟨?_, ?_⟩
 · exact (Pk (Pk (Pk (Pk (Pk (Pk (Pk (Pk (Pk (Pk Aq))))))))))
 refine A3 (by kernel_rfl) ?_
 refine Bj rfl .n ?_
 intro w1 hS
 have hS := (hS.perm (As.perm (.c .h .n))).A1
 have hq : T.E0 = Y.Ch Y.b 0 := by rw [hI24, hI23]; unfold AE.E0; rfl
 exact ⟨_, ⟨_, rfl, rfl, by rw [hq, ← hI24]; rfl⟩, hS⟩
theorem Qv (b : Nat) (T : AE) (g : Hd) (hg : g.len = T.out.length) (hF : T.Fit) (hn : T.out.length ≤ 90000) : JL Tryz.prog 103 #[.pointer (some ⟨b, 0, none⟩)] [Ad.box b 163 (Ac.enc ⟨T.w, T.b, g⟩), Ad.own g 56 16 (T.out.flatMap Ing.Event.enc)] (fun v B => ∃ g' : Hd, v = .tuple #[] ∧ g'.len = (T.GZ).out.length ∧ B = [Ad.box b 163 (Ac.enc ⟨(T.GZ).w, (T.GZ).b, g'⟩), Ad.own g' 56 16 ((T.GZ).out.flatMap Ing.Event.enc)]) := by
 intro w hS0
 have hb := hF.b
 have hr := hF.room
 refine Al _ _ Tryz.func103 rfl rfl rfl (hS0) ?_
 refine Gs (Gm rfl ?_)
 refine Ai rfl Uo (.c rfl (.c rfl .n)) (.c .h (.c .h .n)) (GJ _ T _ 18 hg hb (by omega)) (fun v1 B hv => ?_)
 obtain ⟨y2, rfl, y3, rfl⟩ := hv
 refine Gn (.t1 0) (Gs (Gm rfl ?_))
 refine Ai rfl Yv (.c rfl .n) (.c .h .n) (Lo _ (T.kind 18) _ (hF.EZ rfl rfl)) (fun v4 B hv => ?_)
 obtain ⟨y5, y6, rfl, rfl⟩ := hv
 refine Gn (.t1 0) ?_
 refine BD (N := 11) [0, 0, 2, 6, 14, 0, 1, 65, 193, 511, 1023] mix (by kernel_rfl) rfl ?_
 refine Pf 0 rfl (AF rfl) (Pf 1 rfl (AF rfl) (Pf 2 rfl (BV rfl) (Pf 3 rfl (Ah CN rfl) (Pf 4 rfl (AH rfl A4 .m0 Ac.l1 rfl rfl) (Pf 5 rfl (BC Xp LZ rfl .nil) (Pf 6 rfl (BV rfl) (Pf 7 rfl (Ah A8 rfl) ?_)))))))
 refine Pf 8 rfl (Ah Bn rfl) ?_
 refine Pf 9 rfl (AR C4 rfl rfl (by first | exact hb.1 | exact hb.2 | omega | (dsimp only; omega)) (by first | exact hb.1 | exact hb.2 | omega | (dsimp only; omega))) ?_
 refine An 10 rfl (by kernel_rfl) ?_
 refine AT (AK ((Ac.l0.comp AG.l2).comp (AU.arr (n := 6) Ak.fl (by first | exact hb.1 | exact hb.2 | omega | (dsimp only; omega)) (by first | exact hb.1 | exact hb.2 | omega | (dsimp only; omega)))) rfl rfl rfl KR rfl .h) ?_
 refine BM rfl ⟨?_, ?_⟩
 · exact (Pk (Pk (Pk (Pk (Pk (Pk (Pk (Pk (Pk (Pk Aq))))))))))
 refine A3 (by kernel_rfl) ?_
 refine Bj rfl .n ?_
 intro w1 hS
 have hS := (hS.perm (As.perm (.c .h (.c .h .n)))).A1
 obtain ⟨hf1, hf2, hf3⟩ := T.Nw
 refine ⟨_, ⟨?gq, rfl, ?hl, ?hB⟩, hS⟩
 case hB => rw [hf1, hf2, hf3, ← y6]
 case hl => rw [hf2]; exact y3
theorem II (b : Nat) (T : AE) (g : Hd) (u : Ap) (hg : g.len = T.out.length) (hF : T.Fit) (hu : u.length ≤ 5000000) (hn : T.out.length ≤ 99000) : FJ Tryz.prog 131 #[.pointer (some ⟨b, 0, none⟩), BT u] [Ad.box b 163 (Ac.enc ⟨T.w, T.b, g⟩), Ad.own g 56 16 (T.out.flatMap Ing.Event.enc)] (fun w => (Gk 7 w ∧ 7 ∉ Cb [Ad.box b 163 (Ac.enc ⟨T.w, T.b, g⟩), Ad.own g 56 16 (T.out.flatMap Ing.Event.enc)]) ∧ (Gk 8 w ∧ 8 ∉ Cb [Ad.box b 163 (Ac.enc ⟨T.w, T.b, g⟩), Ad.own g 56 16 (T.out.flatMap Ing.Event.enc)])) (fun v B => ∃ g' : Hd, v = .tuple #[.int .i64 (T.A6 u).2.1, .bool (T.A6 u).2.2] ∧ g'.len = ((T.A6 u).1).out.length ∧ B = [Ad.box b 163 (Ac.enc ⟨((T.A6 u).1).w, ((T.A6 u).1).b, g'⟩), Ad.own g' 56 16 (((T.A6 u).1).out.flatMap Ing.Event.enc)]) := by
 intro w hS0 hH
 obtain ⟨⟨gl0, gm0⟩, ⟨gl1, gm1⟩⟩ := hH
 have hb := hF.b
 have hr := hF.room
 refine Al _ _ Tryz.func131 rfl rfl rfl (hS0) ?_
 refine Gs (Ga rfl (Ga rfl (Gn (.t2 0 1) (Gs (Gm rfl ?_)))))
 refine BA rfl UP (.c rfl .n) (fun w hS => FC _ (by first | assumption | omega) w (gl0.stM gm0 hS) (gl1.stM gm1 hS)) ?_
 refine Gm rfl (Gt (AM rfl rfl) (Gt (AM rfl rfl) (Gt (AM rfl rfl) (Gt (AM rfl rfl) (Ga rfl (Ga rfl (Ga rfl ?_)))))))
 refine Ga rfl (Gn (.t5 0 6 7 8 9) (CD (Gm rfl (Gt (Af rfl rfl) (Gm rfl (Bm 20 rfl rfl (fun q => AF rfl) (Bm 20 rfl rfl (fun q => BX (Bh rfl q)) ?_)))))))
 refine Gt (BJ rfl rfl (fun h => h)) (Gn (.t4 0 6 7 23) ?_)
 refine Gc (fun c1 => ?_) (fun c1 => ?_)
 ·
  have c1p := kz c1
  have hnf := Words.Uv u (of_decide_eq_true (Bool.and_eq_true_iff.1 c1).1)
  refine Gs (Gm rfl (Gn (.t4 0 6 7 24) (Ae ?_)))
  refine Bo (.t4 6 24 0 7) ?_
  refine HS (fun (k : Int) (n : Int) => 0 ≤ k ∧ k ≤ 6 ∧ T.Io (Words.ED u).2.1 6 (Words.ED u).1 = T.Io (Words.ED u).2.1 (6 - k).toNat n ∧ -k ≤ n ∧ n ≤ 99) (fun (k : Int) (n : Int) => (6 - k).toNat) (fun (k : Int) (n : Int) => [(6, .int .i64 n), (24, .int .i64 k)]) (fun (k : Int) (n : Int) => []) (0) (_) ?_ rfl rfl (fun k n hI1 => ?_)
  · exact ⟨by omega, by omega, rfl, by omega, by omega⟩
  obtain ⟨hI11, hI12, hI13, hI14, hI15⟩ := hI1
  refine Gs (Gt (A9 rfl rfl) (AQ (AA (Ao ?_))))
  refine Gc (fun c2 => ?_) (fun c2 => ?_)
  ·
   have c2p := kz c2
   refine Aa ?_
   refine AB (.t4 0 6 7 24) ?_
   refine AA (Ao (Ae (Gs (Gm rfl (Ga rfl (Gn (.t5 0 6 7 10 24) (Ao ?_)))))))
   refine Ao ?_
   refine BD (N := 31) [0, 0, 2, 6, 14, 31, 63, 127, 127, 255, 767, 1791, 4095, 8191, 16383, 127, 65535, 131071, 262143, 524287, 1048575, 2097151, 4194303, 524287, 8912895, 25690111, 59244543, 524287, 268435455, 536870911, 1073741823] mix (by kernel_rfl) rfl ?_
   refine Pf 0 rfl (AF rfl) (Pf 1 rfl (AF rfl) (Pf 2 rfl (BV rfl) (Pf 3 rfl (Ah CN rfl) (Pf 4 rfl (AH rfl A4 .m0 Ac.l1 rfl rfl) (Pf 5 rfl (Af rfl rfl) (Pf 6 rfl (AF rfl) (Gd 7 33 rfl rfl rfl (fun q => AF rfl) ?_)))))))
   refine Gd 8 33 rfl rfl rfl (fun q => AF rfl) (Gd 9 33 rfl rfl rfl (fun q => BV (cF rfl q)) (Gd 10 33 rfl rfl rfl (fun q => Ah A8 (cF rfl q)) (Gd 11 33 rfl rfl rfl (fun q => Ah Bn (cF rfl q)) ?_)))
   refine BQ 12 rfl rfl (by kernel_rfl) (FO (t := 33) rfl rfl (fun q => by have q1 := q; (try simp at q1); exact G3 (AR C4 (cF rfl q) (cF rfl q) (by first | omega | exact hb.1 | exact hb.2 | (dsimp only; omega)) (by first | omega | exact hb.1 | exact hb.2 | (dsimp only; omega))))) ?_
   refine Gd 13 33 rfl rfl rfl (fun q => Ah LB (cF rfl q)) ?_
   refine BQ 14 rfl rfl (by kernel_rfl) (FO (t := 33) rfl rfl (fun q => by have q1 := q; (try simp at q1); exact G3 (AH (cF rfl q) CO .m0 (((Ac.l0.comp AG.l2).comp (AU.ar (n := 6) Ak.fl (by first | omega | exact hb | (dsimp only; omega)))).comp Ak.l0) rfl rfl))) ?_
   refine Gd 15 33 rfl rfl rfl (fun q => AF rfl) (Gd 16 33 rfl rfl rfl (fun q => Df (cF rfl q) (cF rfl q)) ?_)
   refine Pf 17 rfl (BS rfl rfl (fun h => by rw [h]; rfl)) ?_
   refine Pf 18 rfl (AF rfl) (Gd 19 45 rfl rfl rfl (fun q => AF rfl) (Gd 20 45 rfl rfl rfl (fun q => BV (cF rfl q)) (Gd 21 45 rfl rfl rfl (fun q => Ah A8 (cF rfl q)) (Gd 22 45 rfl rfl rfl (fun q => AZ (cF rfl q) BU .m0 Ac.l0 rfl) (Gd 23 45 rfl rfl rfl (fun q => AF rfl) (Gd 24 45 rfl rfl rfl (fun q => BV (cF rfl q)) (Gd 25 45 rfl rfl rfl (fun q => Ah CN (cF rfl q)) ?_)))))))
   refine Gd 26 45 rfl rfl rfl (fun q => AH (cF rfl q) A4 .m0 Ac.l1 rfl rfl) (Gd 27 45 rfl rfl rfl (fun q => AF rfl) ?_)
   refine BQ 28 rfl rfl (by kernel_rfl) (FO (t := 45) rfl rfl (fun q => by have q1 := q; (try simp at q1); exact LD (D5 NZ (.c (cF rfl q) (.c (cF rfl q) (.c (cF rfl q) .n))) (fun w hS => DK _ _ _ w)))) ?_
   refine Gd 29 45 rfl rfl rfl (fun q => BX (cF rfl q)) ?_
   refine Pf 30 rfl (BS rfl rfl (fun h => by rw [h]; rfl)) ?_
   refine A3 (by kernel_rfl) ?_
   refine AB (.t6 0 6 7 10 24 57) ?_
   refine AA ?_
   refine Gc (fun c3 => ?_) (fun c3 => ?_)
   ·
    have c3p := kz c3
    refine Be (AX (Aj ?_))
    refine AB (.t4 0 6 7 24) ?_
    refine AA (AJ ?_)
    refine Gt (Au rfl rfl (IntWalk.i64_in _ (by first | omega | exact hb.1 | exact hb.2 | (dsimp only; omega)))) ?_
    refine Gm rfl ?_
    refine AQ (AB (.t4 0 6 7 24) ?_)
    refine Da (k + 1) (n) ?_ ?_ (.t4 6 24 0 7) (.refl _)
    · exact ⟨by omega, by omega, by rw [hI13, AE.Kf hI11 (by omega), BB c3], by omega, by omega⟩
    · omega
   have c3p := kz c3
   refine Aa ?_
   refine AB (.t5 0 6 7 10 24) ?_
   refine AA (Gs (Gm rfl ?_))
   refine Gt (FK rfl rfl (IntWalk.i64_in _ (by first | omega | exact hb.1 | exact hb.2 | (dsimp only; omega)))) ?_
   refine Ga rfl (Gn (.t5 0 6 7 10 24) (Gs (Gm rfl (Gt (Af rfl rfl) (Gn (.t6 0 6 7 10 24 61) ?_)))))
   refine Gc (fun c4 => ?_) (fun c4 => ?_)
   ·
    have c4p := kz c4
    refine Gs (Gm rfl (Ga rfl (Ga rfl (Gn (.t2 4 5) (Ab (AS (AD ?_)))))))
    refine AD (AS (AD ?_))
    refine AY rfl (.tmp rfl (.tmp rfl .n)) ?_
    intro w1 hS
    have hS := (hS.perm (As.perm (.c .h (.c .h .n)))).A1
    have hs : T.Io (Words.ED u).2.1 6 (Words.ED u).1 = some k := by rw [hI13, AE.Kf hI11 (by omega), AW c3, BB c4]
    have hq : T.A6 u = (T, k, true) := (show T.A6 u = _ from BB c1).trans (by simp only [hs])
    refine ⟨_, ⟨?gq1, ?hv1, ?hl1, ?hB1⟩, hS⟩
    case hB1 => rw [hq]; (try rfl)
    case hv1 => rw [hq]; (try rfl)
    case hl1 => rw [hq]; assumption
   have c4p := kz c4
   refine Aa ?_
   refine AB (.t4 0 6 7 24) ?_
   refine AV (AA (AJ ?_))
   refine Gt (Au rfl rfl (IntWalk.i64_in _ (by first | omega | exact hb.1 | exact hb.2 | (dsimp only; omega)))) ?_
   refine Gm rfl ?_
   refine AQ (AB (.t4 0 6 7 24) ?_)
   refine Da (k + 1) (n - 1) ?_ ?_ (.t4 6 24 0 7) (.refl _)
   · exact ⟨by omega, by omega, by rw [hI13, AE.Kf hI11 (by omega), AW c3, AW c4], by omega, by omega⟩
   · omega
  have c2p := kz c2
  obtain rfl : k = 6 := by omega
  refine Be (AX (AX (Aj ?_)))
  refine AB (.t1 0) ?_
  refine AA (Gs (Gm rfl ?_))
  refine Ai rfl D9 (.c rfl (.c rfl .n)) (.c .h (.c .h .n)) (Ba _ _ _ _ hg hb (by omega)) (fun v1 B hv => ?_)
  obtain ⟨y2, rfl, y3, rfl⟩ := hv
  refine Gn (.nil _) (Gs (Ga rfl (Ga rfl (AQ (AA (Ab ?_))))))
  refine AY rfl (.tmp rfl (.tmp rfl .n)) ?_
  intro w1 hS
  have hS := (hS.perm (As.perm (.c .h (.c .h .n)))).A1
  have hs : T.Io (Words.ED u).2.1 6 (Words.ED u).1 = none := by rw [hI13]; rfl
  have hq : T.A6 u = (T.tell AE.NM, 0, false) := (show T.A6 u = _ from BB c1).trans (by simp only [hs])
  refine ⟨_, ⟨?gq2, ?hv2, ?hl2, ?hB2⟩, hS⟩
  case hB2 => rw [hq]; (try rfl)
  case hv2 => rw [hq]; (try rfl)
  case hl2 => rw [hq]; assumption
 have c1p := kz c1
 refine Aa ?_
 refine AB (.t1 0) ?_
 refine AA (Gs (Gm rfl ?_))
 refine Ai rfl D9 (.c rfl (.c rfl .n)) (.c .h (.c .h .n)) (Ba _ _ _ _ hg hb (by omega)) (fun v4 B hv => ?_)
 obtain ⟨y5, rfl, y6, rfl⟩ := hv
 refine Gn (.nil _) (Gs (Ga rfl (Ga rfl (AQ (AA (Ab ?_))))))
 refine AY rfl (.tmp rfl (.tmp rfl .n)) ?_
 intro w1 hS
 have hS := (hS.perm (As.perm (.c .h (.c .h .n)))).A1
 have hq : T.A6 u = (T.tell AE.NM, 0, false) := AW c1
 refine ⟨_, ⟨?gq3, ?hv3, ?hl3, ?hB3⟩, hS⟩
 case hB3 => rw [hq]; (try rfl)
 case hv3 => rw [hq]; (try rfl)
 case hl3 => rw [hq]; assumption
theorem PF (b : Nat) (T : AE) (g : Hd) (o : Order) (hg : g.len = T.out.length) (hF : T.Fit) (hm : o.name.length ≤ 5000000) (hn : T.out.length ≤ 90000) : FJ Tryz.prog 104 #[.pointer (some ⟨b, 0, none⟩), .agg o.enc.toArray] [Ad.box b 163 (Ac.enc ⟨T.w, T.b, g⟩), Ad.own g 56 16 (T.out.flatMap Ing.Event.enc)] (fun w => (Gk 7 w ∧ 7 ∉ Cb [Ad.box b 163 (Ac.enc ⟨T.w, T.b, g⟩), Ad.own g 56 16 (T.out.flatMap Ing.Event.enc)]) ∧ (Gk 8 w ∧ 8 ∉ Cb [Ad.box b 163 (Ac.enc ⟨T.w, T.b, g⟩), Ad.own g 56 16 (T.out.flatMap Ing.Event.enc)])) (fun v B => ∃ g' : Hd, v = .tuple #[] ∧ g'.len = (T.Ew o).out.length ∧ B = [Ad.box b 163 (Ac.enc ⟨(T.Ew o).w, (T.Ew o).b, g'⟩), Ad.own g' 56 16 ((T.Ew o).out.flatMap Ing.Event.enc)]) := by
 intro w hS0 hH
 obtain ⟨⟨gl0, gm0⟩, ⟨gl1, gm1⟩⟩ := hH
 have hb := hF.b
 have hr := hF.room
 have hsr := T.Lh (if (!decide (o.nth = 1) || o.Bi) = true then [] else o.name)
 have hsb : 0 ≤ (T.A6 (if (!decide (o.nth = 1) || o.Bi) = true then [] else o.name)).1.b ∧ (T.A6 (if (!decide (o.nth = 1) || o.Bi) = true then [] else o.name)).1.b < 6 := by rw [(T.Is _).2]; exact hb
 refine Al _ _ Tryz.func104 rfl rfl rfl (hS0) ?_
 refine Gs ?_
 refine B3 rfl rfl rfl (fun b1 => ?_)
 refine Gn (.t2 0 3) (Gs (Gt (Ah Fp rfl) (Gt (AH rfl CO .m0 Order.l3 rfl rfl) (Ga rfl (Gn (.t3 0 3 4) (CD (Gt (Ah GK rfl) ?_)))))))
 refine Gt (AH rfl A4 .m0 Order.l1 rfl rfl) (Gt (Cg rfl rfl) (Gm rfl (Bc 12 rfl rfl (fun q => Ah HB rfl) (Bc 12 rfl rfl (fun q => AH (cF rfl q) Dh .m0 Order.l2 rfl rfl) ?_))))
 refine Gt (BS rfl rfl (fun h => by rw [h]; rfl)) ?_
 refine Gn (.t3 0 4 15) ?_
 refine Q4 (BT) (s := (if (!decide (o.nth = 1) || o.Bi) = true then [] else o.name)) rfl rfl rfl rfl rfl ?_
 refine AB (.t2 0 4) ?_
 refine AA (Gs (Gm rfl (Gm rfl ?_)))
 refine BE rfl ZE (.c rfl (.c rfl .n)) (.c (.t .h) (.c (.t .h) .n)) (II _ T _ _ hg hF (by split <;> (try simp) <;> omega) (by omega)) (fun w hS => ⟨gl0.pull gm0 hS (.c (.t .h) (.c (.t .h) .n)), gl1.pull gm1 hS (.c (.t .h) (.c (.t .h) .n))⟩) (fun v1 B hv => ?_)
 obtain ⟨y2, rfl, y3, rfl⟩ := hv
 refine Gm rfl (Gt (AM rfl rfl) (Gt (AM rfl rfl) (Ga rfl (Ga rfl (Gn (.t3 0 5 6) (CD (Gm rfl ?_)))))))
 refine Gt (BX rfl) (Gn (.t3 0 5 23) ?_)
 refine Gc (fun c1 => ?_) (fun c1 => ?_)
 ·
  have c1p := kz c1
  refine Ab (AD ?_)
  refine AY rfl .n ?_
  intro w1 hS
  have hS := (hS.perm (As.perm (.c .h (.c .h .n)))).A1
  have hq : T.Ew o = _ := BB c1
  refine ⟨_, ⟨?gq1, rfl, ?hl1, ?hB1⟩, hS⟩
  case hB1 => rw [hq]; (try rfl)
  case hl1 => rw [hq]; assumption
 have c1p := kz c1
 refine Aa ?_
 refine AB (.t2 0 5) ?_
 refine AA (Ao ?_)
 refine BD (N := 13) [0, 0, 2, 6, 14, 0, 32, 1, 129, 385, 1023, 2047, 4095] mix (by kernel_rfl) rfl ?_
 refine Pf 0 rfl (AF rfl) (Pf 1 rfl (AF rfl) (Pf 2 rfl (BV rfl) (Pf 3 rfl (Ah CN rfl) (Pf 4 rfl (AH rfl A4 .m0 Ac.l1 rfl rfl) (Pf 5 rfl (AF rfl) ?_)))))
 refine Pf 6 rfl (Au rfl rfl (IntWalk.i64_in _ (by first | omega | exact hsb.1 | exact hsb.2 | (dsimp only; omega)))) ?_
 refine Pf 7 rfl (BV rfl) (Pf 8 rfl (Ah A8 rfl) (Pf 9 rfl (Ah Bn rfl) ?_))
 refine Pf 10 rfl (AR C4 rfl rfl (by first | omega | exact hsb.1 | exact hsb.2 | (dsimp only; omega)) (by first | omega | exact hsb.1 | exact hsb.2 | (dsimp only; omega))) ?_
 refine Pf 11 rfl (Ah GD rfl) ?_
 refine An 12 rfl (by kernel_rfl) ?_
 refine AT (AK (((Ac.l0.comp AG.l2).comp (AU.ar (n := 6) Ak.fl (by first | omega | exact hsb | (dsimp only; omega)))).comp Ak.l5) rfl rfl rfl C9 rfl .h) ?_
 refine BM rfl ⟨?_, ?_⟩
 · exact (Pk (Pk (Pk (Pk (Pk (Pk (Pk (Pk (Pk (Pk (Pk (Pk Aq))))))))))))
 refine A3 (by kernel_rfl) ?_
 refine AB (.t2 0 5) ?_
 refine AA (CD (Gm rfl (Gm rfl (Gt (BV rfl) (Gt (Ah A8 rfl) (Gt (Ah Bn rfl) ?_))))))
 refine Gt (AR C4 rfl rfl (by first | omega | exact hsb.1 | exact hsb.2 | (dsimp only; omega)) (by first | omega | exact hsb.1 | exact hsb.2 | (dsimp only; omega))) ?_
 refine Gt (Ah GD rfl) ?_
 refine Gt (AH rfl A4 .m0 (((Ac.l0.comp AG.l2).comp (AU.ar (n := 6) Ak.fl (by first | omega | exact hsb | (dsimp only; omega)))).comp Ak.l5) rfl rfl) ?_
 refine Gt (Af rfl rfl) (Gn (.t3 0 5 44) ?_)
 refine Gc (fun c2 => ?_) (fun c2 => ?_)
 ·
  have c2p := kz c2
  refine BD (N := 13) [0, 0, 0, 4, 12, 28, 60, 1, 129, 385, 1023, 2047, 4095] mix (by kernel_rfl) rfl ?_
  refine Pf 0 rfl (AF rfl) (Pf 1 rfl (AF rfl) (Pf 2 rfl (AF rfl) (Pf 3 rfl (BV rfl) (Pf 4 rfl (Ah CN rfl) (Pf 5 rfl (AH rfl A4 .m0 Ac.l1 rfl rfl) ?_)))))
  refine Pf 6 rfl (Au rfl rfl (IntWalk.i64_in _ (by first | omega | exact hsb.1 | exact hsb.2 | (dsimp only; omega)))) ?_
  refine Pf 7 rfl (BV rfl) (Pf 8 rfl (Ah A8 rfl) (Pf 9 rfl (Ah Bn rfl) ?_))
  refine Pf 10 rfl (AR C4 rfl rfl (by first | omega | exact hsb.1 | exact hsb.2 | (dsimp only; omega)) (by first | omega | exact hsb.1 | exact hsb.2 | (dsimp only; omega))) ?_
  refine Pf 11 rfl (Ah GD rfl) ?_
  refine An 12 rfl (by kernel_rfl) ?_
  refine AT (AK (((Ac.l0.comp AG.l2).comp (AU.ar (n := 6) Ak.fl (by first | omega | exact hsb | (dsimp only; omega)))).comp Ak.l5) rfl rfl rfl C9 rfl .h) ?_
  refine BM rfl ⟨?_, ?_⟩
  · exact (Pk (Pk (Pk (Pk (Pk (Pk (Pk (Pk (Pk (Pk (Pk (Pk Aq))))))))))))
  refine A3 (by kernel_rfl) ?_
  refine AB (.t1 0) ?_
  refine AA (AJ (Gm rfl ?_))
  refine Ai rfl D9 (.c rfl (.c rfl .n)) (.c .h (.c .h .n)) (Ba _ (AE.Ch (AE.Ch (T.A6 (if (!decide (o.nth = 1) || o.Bi) = true then [] else o.name)).1 (T.A6 (if (!decide (o.nth = 1) || o.Bi) = true then [] else o.name)).1.b ((T.A6 (if (!decide (o.nth = 1) || o.Bi) = true then [] else o.name)).2.1 + 1)) (T.A6 (if (!decide (o.nth = 1) || o.Bi) = true then [] else o.name)).2.1 ((T.A6 (if (!decide (o.nth = 1) || o.Bi) = true then [] else o.name)).1.b + 1)) _ _ (by assumption) hsb (by show (T.A6 (if (!decide (o.nth = 1) || o.Bi) = true then [] else o.name)).1.out.length ≤ 100000; have := T.G5 (if (!decide (o.nth = 1) || o.Bi) = true then [] else o.name); omega)) (fun v4 B hv => ?_)
  obtain ⟨y5, rfl, y6, rfl⟩ := hv
  refine AQ ?_
  refine Bj rfl .n ?_
  intro w1 hS
  have hS := (hS.perm (As.perm (.c .h (.c .h .n)))).A1
  have hq : T.Ew o = _ := (show T.Ew o = _ from AW c1).trans (congrArg (fun q => AE.tell q AE.Qy) (BB c2))
  refine ⟨_, ⟨?gq2, rfl, ?hl2, ?hB2⟩, hS⟩
  case hB2 => rw [hq]; (try rfl)
  case hl2 => rw [hq]; assumption
 have c2p := kz c2
 refine Aa ?_
 refine AB (.t1 0) ?_
 refine AA (AJ (Gm rfl ?_))
 refine Ai rfl D9 (.c rfl (.c rfl .n)) (.c .h (.c .h .n)) (Ba _ (AE.Ch (T.A6 (if (!decide (o.nth = 1) || o.Bi) = true then [] else o.name)).1 (T.A6 (if (!decide (o.nth = 1) || o.Bi) = true then [] else o.name)).1.b ((T.A6 (if (!decide (o.nth = 1) || o.Bi) = true then [] else o.name)).2.1 + 1)) _ _ (by assumption) hsb (by show (T.A6 (if (!decide (o.nth = 1) || o.Bi) = true then [] else o.name)).1.out.length ≤ 100000; have := T.G5 (if (!decide (o.nth = 1) || o.Bi) = true then [] else o.name); omega)) (fun v7 B hv => ?_)
 obtain ⟨y8, rfl, y9, rfl⟩ := hv
 refine AQ ?_
 refine Bj rfl .n ?_
 intro w1 hS
 have hS := (hS.perm (As.perm (.c .h (.c .h .n)))).A1
 have hq : T.Ew o = _ := (show T.Ew o = _ from AW c1).trans (congrArg (fun q => AE.tell q AE.Qy) (AW c2))
 refine ⟨_, ⟨?gq3, rfl, ?hl3, ?hB3⟩, hS⟩
 case hB3 => rw [hq]; (try rfl)
 case hl3 => rw [hq]; assumption
theorem I6 (b : Nat) (T : AE) (g : Hd) (hF : T.Fit) : JL Tryz.prog 132 #[.pointer (some ⟨b, 0, none⟩)] [Ad.box b 163 (Ac.enc ⟨T.w, T.b, g⟩)] (fun v B => ∃ f : Hd, v = f.val ∧ f.len = (T.seen).length ∧ B = [Ad.box b 163 (Ac.enc ⟨T.w, T.b, g⟩), Ad.own f 3 1 ((T.seen).flatMap Av)]) := by
 intro w hS0
 have hb := hF.b
 have hr := hF.room
 refine Al _ _ Tryz.func132 rfl rfl rfl (hS0) ?_
 refine Gs (Ga rfl (Gn (.t1 0) (Ao ?_)))
 refine BD (N := 12) [0, 0, 2, 6, 14, 1, 33, 97, 255, 511, 1023, 2047] mix (by kernel_rfl) rfl ?_
 refine Pf 0 rfl (AF rfl) (Pf 1 rfl (AF rfl) (Pf 2 rfl (BV rfl) (Pf 3 rfl (Ah CN rfl) (Pf 4 rfl (AH rfl A4 .m0 Ac.l1 rfl rfl) (Pf 5 rfl (BV rfl) (Pf 6 rfl (Ah A8 rfl) (Pf 7 rfl (Ah Bn rfl) ?_)))))))
 refine Pf 8 rfl (AR C4 rfl rfl (by first | omega | exact hb.1 | exact hb.2 | (dsimp only; omega)) (by first | omega | exact hb.1 | exact hb.2 | (dsimp only; omega))) ?_
 refine Pf 9 rfl (Ah Cy rfl) ?_
 refine Pf 10 rfl (AH rfl A4 .m0 (((Ac.l0.comp AG.l2).comp (AU.ar (n := 6) Ak.fl (by first | omega | exact hb | (dsimp only; omega)))).comp Ak.l3) rfl rfl) ?_
 refine Pf 11 rfl (A0 rfl) ?_
 refine A3 (by kernel_rfl) ?_
 refine AB (.t2 0 3) ?_
 refine AA (CD (Gm rfl (Gt (BV rfl) (Gt (Ah A8 rfl) (Gt (AZ rfl BU .m0 Ac.l0 rfl) (Gm rfl ?_))))))
 refine BA rfl UY (.c rfl (.c rfl .n)) (fun w hS => EV _ _ w) ?_
 refine Gt (BX rfl) (Gn (.t3 0 3 21) ?_)
 refine Gc (fun c1 => ?_) (fun c1 => ?_)
 ·
  refine Gs (Ga rfl (Gn (.t1 2) (Ab (AD ?_))))
  refine AY rfl (.tmp rfl .n) ?_
  intro w1 hS
  have hS := hS.Cl 3 1
  have hS := (hS.perm (As.perm (.c (.t .h) (.c .h .n)))).A1
  have hq : T.seen = _ := BB c1
  exact ⟨_, ⟨⟨none, 0, 0⟩, rfl, by rw [hq]; rfl, by rw [hq]; rfl⟩, hS⟩
 have c1p := kz c1
 refine Aa ?_
 refine AB (.t2 0 3) ?_
 refine AA (Gs (Gm rfl (Gt (BV rfl) (Gt (Ah A8 rfl) (Gt (AZ rfl BU .m0 Ac.l0 rfl) (Gm rfl ?_))))))
 refine Ai rfl Sa (.c rfl (.c rfl (.c rfl .n))) .n (E9 _ _ _) (fun v2 B hv => ?_)
 obtain ⟨y3, rfl, y4, rfl⟩ := hv
 refine Ga rfl (Gn (.t1 2) (Ab ?_))
 refine AY rfl (.tmp rfl .n) ?_
 intro w1 hS
 have hS := (hS.perm (As.perm (.c (.t .h) (.c .h .n)))).A1
 have hq : T.seen = _ := (AW c1)
 exact ⟨_, ⟨_, rfl, by rw [hq]; first | rfl | assumption, by rw [hq]; rfl⟩, hS⟩
theorem Ej (b : Nat) (T : AE) (g : Hd) (f : Hd) (l : List Int) (z : Int) (u : Ap) (a : Bool) (hF : T.Fit) (hf : f.len = l.length) (hl : l.length ≤ 100) (hi : ∀ i ∈ l, 0 ≤ i ∧ i < 9) : JL Tryz.prog 134 #[.pointer (some ⟨b, 0, none⟩), f.val, .int .i64 z, BT u, .bool a] [Ad.box b 163 (Ac.enc ⟨T.w, T.b, g⟩), Ad.own f 3 1 (l.flatMap Av)] (fun v B => ∃ h : Hd, v = h.val ∧ h.len = (AE.BP T.w l z u a).length ∧ B = [Ad.box b 163 (Ac.enc ⟨T.w, T.b, g⟩), Ad.own f 3 1 (l.flatMap Av), Ad.own h 3 1 ((AE.BP T.w l z u a).flatMap Av)]) := by
 intro w hS0
 have hb := hF.b
 have hr := hF.room
 refine Al _ _ Tryz.func134 rfl rfl rfl (hS0) ?_
 refine Gs (Ga rfl (Gn (.t5 0 1 2 3 4) (Gs (Ga rfl (AQ (AA (CD ?_)))))))
 refine Gm rfl (Gt (Ar rfl Tryz.underlying169 rfl) (Gm rfl (Gn (.t8 0 2 3 4 11 14 15 16) (Ae ?_))))
 refine Bo (.t8 11 16 0 2 3 4 14 15) ?_
 refine Ez Av 3 1 ?_
 refine Dq (fun (k : Int) (xs : List Int) (h : Hd) => 0 ≤ k ∧ k ≤ (l.length : Int) ∧ xs = AE.JF T.w u (l.take k.toNat) ∧ h.len = xs.length ∧ xs.length ≤ k.toNat) (fun (k : Int) (xs : List Int) (h : Hd) => ((l.length : Int) - k).toNat) (fun (k : Int) (xs : List Int) (h : Hd) => [(11, h.val), (16, .int .i64 k)]) (fun (k : Int) (xs : List Int) (h : Hd) => [Ad.own h 3 1 (xs.flatMap Av)]) (0) ([]) (_) ?_ rfl rfl (fun k xs h hI1 => ?_)
 · exact ⟨by omega, by omega, rfl, rfl, by simp⟩
 obtain ⟨hI11, hI12, hI13, hI14, hI15⟩ := hI1
 refine Gs (Gt (A9 rfl rfl) (AQ (AA (Ao ?_))))
 refine Gc (fun c1 => ?_) (fun c1 => ?_)
 ·
  have c1p := kz c1
  have hx := hi _ (Bf.Ev (xs := l) (i := k.toNat) (by omega))
  refine Aa ?_
  refine AB (.t8 0 2 3 4 11 14 15 16) ?_
  refine AA (Ao (Ae (Gs ?_)))
  refine Gt (Br GU (by decide) (Kn.own .m2) rfl rfl (by omega) (by omega)) ?_
  refine Gt (DC rfl A4 (Kn.own .m2) (by omega)) ?_
  refine Ga rfl (Gn (.t9 0 2 3 4 11 13 14 15 16) (Gs (Gm rfl (Gt (Bu rfl rfl) (Gm rfl (Bc 22 rfl rfl (fun q => AF rfl) (Bc 22 rfl rfl (fun q => AF rfl) ?_)))))))
  refine Bc 22 rfl rfl (fun q => BV (cF rfl q)) (Bc 22 rfl rfl (fun q => Ah A8 (cF rfl q)) (Bc 22 rfl rfl (fun q => Ah Ce (cF rfl q)) ?_))
  refine Bc 22 rfl rfl (fun q => by have q1 := q; (try simp at q1); exact AR FM (cF rfl q) (cF rfl q) (by first | omega | exact hb.1 | exact hb.2) (by first | omega | exact hb.1 | exact hb.2)) ?_
  refine Bc 22 rfl rfl (fun q => Ah JP (cF rfl q)) ?_
  refine Bc 22 rfl rfl (fun q => by have q1 := q; (try simp at q1); exact AH (cF rfl q) CO .m1 (((Ac.l0.comp AG.l1).comp (AU.ar (n := 9) Ag.fl (by first | omega | exact hb))).comp Ag.l0) rfl rfl) ?_
  refine Bc 22 rfl rfl (fun q => AF rfl) (Bc 22 rfl rfl (fun q => Bu (cF rfl q) (cF rfl q)) ?_)
  refine Gt (BS rfl rfl (fun h => by rw [h]; rfl)) ?_
  refine Gn (.t10 0 2 3 4 11 13 14 15 16 33) ?_
  refine Gc (fun c2 => ?_) (fun c2 => ?_)
  ·
   have c2p := kz c2
   refine AJ (Gm rfl (Gm rfl ?_))
   refine Fa Av B1 rfl Tryz.underlying169 C9 aA rfl (by decide) (by decide) rfl rfl (fun b1 => ?_)
   refine Ca B1 rfl Tryz.underlying169 C9 aA rfl cK (by decide) (by decide) rfl rfl (fun w hS => Src.EG Tryz.underlying169 ((Kn.own .m0) w hS)) (by (try dsimp only); omega) (fun _ => (.t .h)) (fun h1 h1l h1z => ?_)
   refine Ga rfl ?_
   refine AQ (AB (.t8 0 2 3 4 11 14 15 16) ?_)
   refine AV (AA (AJ ?_))
   refine Gt (Au rfl rfl (IntWalk.i64_in _ (by first | omega | exact hb.1 | exact hb.2))) ?_
   refine Gm rfl ?_
   refine AQ (AB (.t8 0 2 3 4 11 14 15 16) ?_)
   refine Bw (k + 1) _ _ ?_ ?_ (.t8 11 16 0 2 3 4 14 15) (.cons _ (.refl _))
   · exact ⟨by omega, by omega, by rw [AE.YR hI11 (by omega) c2, ← hI13], (by (try dsimp only at *) <;> (try simp only [List.length_append, List.length_cons, List.length_nil]) <;> omega), (by (try simp only [List.length_append, List.length_cons, List.length_nil]); omega)⟩
   · omega
  have c2p := kz c2
  refine Aa ?_
  refine AB (.t8 0 2 3 4 11 14 15 16) ?_
  refine AV (AA (AJ ?_))
  refine Gt (Au rfl rfl (IntWalk.i64_in _ (by first | omega | exact hb.1 | exact hb.2))) ?_
  refine Gm rfl ?_
  refine AQ (AB (.t8 0 2 3 4 11 14 15 16) ?_)
  refine Bw (k + 1) _ _ ?_ ?_ (.t8 11 16 0 2 3 4 14 15) (.refl _)
  · exact ⟨by omega, by omega, by rw [AE.Xx hI11 (by omega) c2, ← hI13], (by (try dsimp only at *) <;> (try simp only [List.length_append, List.length_cons, List.length_nil]) <;> omega), (by (try simp only [List.length_append, List.length_cons, List.length_nil]); omega)⟩
  · omega
 have c1p := kz c1
 obtain rfl : k = (l.length : Int) := by omega
 have hx3 := hI13
 rw [show (l.length : Int).toNat = l.length by omega, List.take_length] at hx3
 have hpa := AE.VR T.w u l
 rw [← hx3] at hpa
 refine Be (AX (AX (Aj ?_)))
 refine AB (.t3 2 4 11) ?_
 refine AA (CD (Gm rfl (Gn (.t3 2 11 39) ?_)))
 refine Gc (fun c3 => ?_) (fun c3 => ?_)
 ·
  have c3p := kz c3
  refine Gs (Gm rfl (Ga rfl (Gn (.t1 10) (Ab (AD ?_)))))
  refine AY rfl (.tmp rfl .n) ?_
  intro w1 hS
  have hS := (hS.perm (As.perm (.c (.t .h) (.c (.t .h) (.c .h .n))))).A1
  have hq : AE.BP T.w l z u a = _ := (BB c3)
  refine ⟨_, ⟨_, rfl, ?hl1, ?hB1⟩, hS⟩
  case hB1 => rw [hq]; (try rw [← hx3]); (try rfl)
  case hl1 => rw [hq]; first | rfl | (rw [← hx3]; first | assumption | (simp only [Hd.cut, List.length_drop, List.length_take]; omega))
 have c3p := kz c3
 refine Aa ?_
 refine AB (.t2 2 11) ?_
 refine AA (CD (Gm rfl (Gt (A9 rfl rfl) (Gm rfl (Bc 43 rfl rfl (fun q => AF rfl) (Bc 43 rfl rfl (fun q => AF rfl) (Bc 43 rfl rfl (fun q => Ar rfl Tryz.underlying169 (cF rfl q)) ?_)))))))
 refine Bc 43 rfl rfl (fun q => Ci (cF rfl q) (cF rfl q)) ?_
 refine Gt (BS rfl rfl (fun h => by rw [h]; rfl)) ?_
 refine Gn (.t3 2 11 48) ?_
 refine Gc (fun c4 => ?_) (fun c4 => ?_)
 ·
  have c4p := kz c4
  rw [hI14, hx3] at c4
  refine Gs (Ga rfl (Gn (.t1 10) (Ab (AD ?_))))
  refine AY rfl (.tmp rfl .n) ?_
  intro w1 hS
  have hS := hS.Cl 3 1
  have hS := (hS.perm (As.perm (.c (.t (.t .h)) (.c (.t (.t .h)) (.c .h .n))))).A1
  have hq : AE.BP T.w l z u a = _ := ((AW c3).trans (BB c4))
  refine ⟨_, ⟨⟨none, 0, 0⟩, rfl, ?hl2, ?hB2⟩, hS⟩
  case hB2 => rw [hq]; (try rw [← hx3]); (try rfl)
  case hl2 => rw [hq]; first | rfl | (rw [← hx3]; first | assumption | (simp only [Hd.cut, List.length_drop, List.length_take]; omega))
 have c4p := kz c4
 have c4q := c4p
 rw [hI14, hx3] at c4
 refine Aa ?_
 refine AB (.t2 2 11) ?_
 refine AA (Gs (Gm rfl (Gm rfl ?_)))
 refine Gt (FK rfl rfl (IntWalk.i64_in _ (by first | omega | exact hb.1 | exact hb.2))) ?_
 refine Gm rfl ?_
 refine Sl B1 rfl Tryz.underlying169 C9 rfl rfl rfl (by first | omega | exact hb.1 | exact hb.2) (by first | omega | exact hb.1 | exact hb.2) (by first | omega | exact hb.1 | exact hb.2) (fun _ => .h) ?_
 refine Ga rfl (Gn (.t1 10) (Ab ?_))
 refine AY rfl (.tmp rfl .n) ?_
 intro w1 hS
 have hS := (hS.perm (As.perm (.c (.t .h) (.c (.t .h) (.c .h .n))))).A1
 have hq : AE.BP T.w l z u a = _ := ((AW c3).trans (AW c4))
 refine ⟨_, ⟨_, rfl, ?hl3, ?hB3⟩, hS⟩
 case hB3 => rw [hq]; (try rw [← hx3]); (try rfl)
 case hl3 => rw [hq]; first | rfl | (rw [← hx3]; first | assumption | (simp only [Hd.cut, List.length_drop, List.length_take]; omega))
theorem R9 (b : Nat) (T : AE) (g : Hd) (u : Ap) (hF : T.Fit) (hu : u.length ≤ 5000000) : FJ Tryz.prog 161 #[.pointer (some ⟨b, 0, none⟩), BT u] [Ad.box b 163 (Ac.enc ⟨T.w, T.b, g⟩)] (fun w => (Gk 7 w ∧ 7 ∉ Cb [Ad.box b 163 (Ac.enc ⟨T.w, T.b, g⟩)]) ∧ (Gk 8 w ∧ 8 ∉ Cb [Ad.box b 163 (Ac.enc ⟨T.w, T.b, g⟩)])) (fun v B => v = .tuple #[.int .i64 (T.one u).1, .bool (T.one u).2] ∧ B = [Ad.box b 163 (Ac.enc ⟨T.w, T.b, g⟩)]) := by
 intro w hS0 hH
 obtain ⟨⟨gl0, gm0⟩, ⟨gl1, gm1⟩⟩ := hH
 have hb := hF.b
 have hr := hF.room
 have ho9 := T.KI
 have hs9 := T.Im
 refine Al _ _ Tryz.func161 rfl rfl rfl (hS0) ?_
 refine Gs (Ga rfl (Ga rfl (Gn (.t2 0 1) (Gs (Gm rfl ?_)))))
 refine BA rfl UP (.c rfl .n) (fun w hS => FC _ (by first | assumption | omega) w (gl0.stM gm0 hS) (gl1.stM gm1 hS)) ?_
 refine Gm rfl (Gt (AM rfl rfl) (Gt (AM rfl rfl) (Gt (AM rfl rfl) (Gt (AM rfl rfl) (Ga rfl (Ga rfl (Ga rfl ?_)))))))
 refine Ga rfl (Gn (.t5 0 6 7 8 9) (CD (Gm rfl (Gt (Cg rfl rfl) (Gm rfl (Bc 20 rfl rfl (fun q => AF rfl) ?_))))))
 refine Gt (BS rfl rfl (fun h => by rw [h]; rfl)) ?_
 refine Gn (.t4 0 6 7 22) ?_
 refine Gc (fun c1 => ?_) (fun c1 => ?_)
 ·
  refine Gs (Ga rfl (Ga rfl (Gn (.t2 4 5) (Ab (AD ?_)))))
  refine AY rfl (.tmp rfl (.tmp rfl .n)) ?_
  intro w1 hS
  have hS := (hS.perm (As.perm (.c .h .n))).A1
  have hq : T.one u = _ := (BB c1)
  exact ⟨_, ⟨by rw [hq]; rfl, rfl⟩, hS⟩
 have c1p := kz c1
 refine Aa ?_
 refine AB (.t3 0 6 7) ?_
 refine AA (Gs (Gm rfl (Gm rfl ?_)))
 refine Ai rfl Uc (.c rfl .n) (.c .h .n) (Hu _ _ _ (by first | assumption | omega)) (fun v1 B hv => ?_)
 obtain ⟨y2, rfl, y3, rfl⟩ := hv
 refine Gm rfl ?_
 refine Ai rfl W2 (.c rfl .n) (.c .h .n) (I6 _ _ _ (by first | assumption | omega)) (fun v5 B hv => ?_)
 obtain ⟨y6, rfl, y7, rfl⟩ := hv
 refine Ca B1 rfl Tryz.underlying169 C9 aA rfl cK (by decide) (by decide) rfl rfl (fun w hS => Src.EG Tryz.underlying169 ((Kn.own .m1) w hS)) (by (try dsimp only); omega) (fun _ => (.t (.t .h))) (fun h9 h9l h9z => ?_)
 refine Gm rfl (Gm rfl ?_)
 refine Ai rfl Pj (.c rfl (.c rfl (.c rfl (.c rfl (.c rfl .n))))) (.c .h (.c (.t .h) .n)) (Ej _ T _ _ (T.own ++ T.seen) _ _ _ hF (by rw [List.length_append]; omega) (by rw [List.length_append]; omega) (fun i hi => AE.QZ hi)) (fun v10 B hv => ?_)
 obtain ⟨y11, rfl, y12, rfl⟩ := hv
 refine Ga rfl (Gn (.t1 10) (CD (Gm rfl (Gt (Ar rfl Tryz.underlying169 rfl) (Gt (Af rfl rfl) (Gn (.t2 10 34) ?_))))))
 refine Gc (fun c2 => ?_) (fun c2 => ?_)
 ·
  have c2p := kz c2
  have hpl := y12
  rw [hpl] at c2 c2p
  refine Gs (Ga rfl (Ga rfl (Gn (.t2 4 5) (Ab (AD ?_)))))
  refine AY rfl (.tmp rfl (.tmp rfl .n)) ?_
  intro w1 hS
  have hS := (hS.perm (As.perm (.c .h .n))).A1
  have hq : T.one u = _ := ((AW c1).trans (BB c2))
  exact ⟨_, ⟨by rw [hq]; rfl, rfl⟩, hS⟩
 have c2p := kz c2
 have hpl := y12
 rw [hpl] at c2 c2p
 refine Aa ?_
 refine AB (.t1 10) ?_
 refine AA (Gs (Gm rfl ?_))
 refine Gt (Br GU (by decide) (Kn.own .m2) rfl rfl (by omega) (by omega)) ?_
 refine Gt (DC rfl A4 (Kn.own .m2) (by omega)) ?_
 refine Ga rfl (Ga rfl (Gn (.t2 4 5) (Ab ?_)))
 refine AY rfl (.tmp rfl (.tmp rfl .n)) ?_
 intro w1 hS
 have hS := (hS.perm (As.perm (.c .h .n))).A1
 have hq : T.one u = _ := ((AW c1).trans (AW c2))
 exact ⟨_, ⟨by rw [hq]; rfl, rfl⟩, hS⟩
theorem Mh (b : Nat) (T : AE) (g : Hd) (u : Ap) (hg : g.len = T.out.length) (hF : T.Fit) (hu : u.length ≤ 5000000) (hn : T.out.length ≤ 99000) : FJ Tryz.prog 133 #[.pointer (some ⟨b, 0, none⟩), BT u] [Ad.box b 163 (Ac.enc ⟨T.w, T.b, g⟩), Ad.own g 56 16 (T.out.flatMap Ing.Event.enc)] (fun w => (Gk 7 w ∧ 7 ∉ Cb [Ad.box b 163 (Ac.enc ⟨T.w, T.b, g⟩), Ad.own g 56 16 (T.out.flatMap Ing.Event.enc)]) ∧ (Gk 8 w ∧ 8 ∉ Cb [Ad.box b 163 (Ac.enc ⟨T.w, T.b, g⟩), Ad.own g 56 16 (T.out.flatMap Ing.Event.enc)])) (fun v B => ∃ g' : Hd, v = .tuple #[.int .i64 (T.box u).2.1, .bool (T.box u).2.2] ∧ g'.len = ((T.box u).1).out.length ∧ B = [Ad.box b 163 (Ac.enc ⟨((T.box u).1).w, ((T.box u).1).b, g'⟩), Ad.own g' 56 16 (((T.box u).1).out.flatMap Ing.Event.enc)]) := by
 intro w hS0 hH
 obtain ⟨⟨gl0, gm0⟩, ⟨gl1, gm1⟩⟩ := hH
 have hb := hF.b
 have hr := hF.room
 have ho := T.UU u
 refine Al _ _ Tryz.func133 rfl rfl rfl (hS0) ?_
 refine Gs (Ga rfl (Ga rfl (Gn (.t2 0 1) (Gs (Gm rfl (Gm rfl ?_))))))
 refine BE rfl cB (.c rfl (.c rfl .n)) (.c .h .n) (R9 _ T _ _ hF hu) (fun w hS => ⟨gl0.pull gm0 hS (.c .h .n), gl1.pull gm1 hS (.c .h .n)⟩) (fun v1 B hv => ?_)
 obtain ⟨rfl, rfl⟩ := hv
 refine Gm rfl (Gt (AM rfl rfl) (Gt (AM rfl rfl) (Ga rfl (Ga rfl (Gn (.t3 0 6 7) (CD (Gm rfl ?_)))))))
 refine Gt (BX rfl) (Gm rfl (Bc 16 rfl rfl (fun q => AF rfl) (Bc 16 rfl rfl (fun q => AF rfl) (Bc 16 rfl rfl (fun q => BV (cF rfl q)) (Bc 16 rfl rfl (fun q => Ah A8 (cF rfl q)) (Bc 16 rfl rfl (fun q => Ah Ce (cF rfl q)) ?_))))))
 refine Bc 16 rfl rfl (fun q => by have q1 := q; (try simp at q1); exact AR FM (cF rfl q) (cF rfl q) (by first | omega | exact hb.1 | exact hb.2 | (dsimp only; omega)) (by first | omega | exact hb.1 | exact hb.2 | (dsimp only; omega))) ?_
 refine Bc 16 rfl rfl (fun q => Ah Fb (cF rfl q)) ?_
 refine Bc 16 rfl rfl (fun q => by have q1 := q; (try simp at q1); exact AH (cF rfl q) A4 .m0 (((Ac.l0.comp AG.l1).comp (AU.ar (n := 9) Ag.fl (by first | omega | exact hb | (dsimp only; omega)))).comp Ag.l1) rfl rfl) ?_
 refine Bc 16 rfl rfl (fun q => Cg (cF rfl q) rfl) ?_
 refine Gt (BS rfl rfl (fun h => by rw [h]; rfl)) ?_
 refine Gn (.t3 0 6 26) ?_
 refine Gc (fun c1 => ?_) (fun c1 => ?_)
 ·
  have c1p := kz c1
  refine Gs (Gm rfl ?_)
  refine Ai rfl D9 (.c rfl (.c rfl .n)) (.c .h (.c .h .n)) (Ba _ _ _ _ hg hb (by omega)) (fun v2 B hv => ?_)
  obtain ⟨y3, rfl, y4, rfl⟩ := hv
  refine Gn (.nil _) (Gs (Ga rfl (Ga rfl (AQ (AA (Ab (AD ?_)))))))
  refine AY rfl (.tmp rfl (.tmp rfl .n)) ?_
  intro w1 hS
  have hS := (hS.perm (As.perm (.c .h (.c .h .n)))).A1
  have hq : T.box u = _ := (BB c1)
  refine ⟨_, ⟨?gq1, ?hv1, ?hl1, ?hB1⟩, hS⟩
  case hB1 => rw [hq]; (try rfl)
  case hv1 => rw [hq]; (try rfl)
  case hl1 => rw [hq]; assumption
 have c1p := kz c1
 refine Aa ?_
 refine AB (.t2 0 6) ?_
 refine AA (CD (Gm rfl (Gm rfl (Gt (BV rfl) (Gt (Ah A8 rfl) (Gt (Ah Ce rfl) ?_))))))
 refine Gt (AR FM rfl rfl (by first | omega | exact hb.1 | exact hb.2 | (dsimp only; omega)) (by first | omega | exact hb.1 | exact hb.2 | (dsimp only; omega))) ?_
 refine Gt (Ah F8 rfl) ?_
 refine Gt (AH rfl Dh .m0 (((Ac.l0.comp AG.l1).comp (AU.ar (n := 9) Ag.fl (by first | omega | exact hb | (dsimp only; omega)))).comp Ag.l4) rfl rfl) ?_
 refine Gt (BX rfl) (Gn (.t3 0 6 37) ?_)
 refine Gc (fun c2 => ?_) (fun c2 => ?_)
 ·
  have c2p := kz c2
  refine Gs (Gm rfl ?_)
  refine Ai rfl D9 (.c rfl (.c rfl .n)) (.c .h (.c .h .n)) (Ba _ _ _ _ hg hb (by omega)) (fun v5 B hv => ?_)
  obtain ⟨y6, rfl, y7, rfl⟩ := hv
  refine Gn (.nil _) (Gs (Ga rfl (Ga rfl (AQ (AA (Ab (AD ?_)))))))
  refine AY rfl (.tmp rfl (.tmp rfl .n)) ?_
  intro w1 hS
  have hS := (hS.perm (As.perm (.c .h (.c .h .n)))).A1
  have hq : T.box u = _ := ((AW c1).trans (BB c2))
  refine ⟨_, ⟨?gq2, ?hv2, ?hl2, ?hB2⟩, hS⟩
  case hB2 => rw [hq]; (try rfl)
  case hv2 => rw [hq]; (try rfl)
  case hl2 => rw [hq]; assumption
 have c2p := kz c2
 refine Aa ?_
 refine AB (.t1 6) ?_
 refine AA (Gs (Gm rfl (Ga rfl (Ga rfl (Gn (.t2 4 5) (Ab ?_))))))
 refine AY rfl (.tmp rfl (.tmp rfl .n)) ?_
 intro w1 hS
 have hS := (hS.perm (As.perm (.c .h (.c .h .n)))).A1
 have hq : T.box u = _ := ((AW c1).trans (AW c2))
 refine ⟨_, ⟨?gq3, ?hv3, ?hl3, ?hB3⟩, hS⟩
 case hB3 => rw [hq]; (try rfl)
 case hv3 => rw [hq]; (try rfl)
 case hl3 => rw [hq]; assumption
theorem Du (b : Nat) (T : AE) (g : Hd) (k i : Int) (hg : g.len = T.out.length) (hb : 0 ≤ T.b ∧ T.b < 6) (hi : 0 ≤ i ∧ i < 9) (hn : T.out.length ≤ 100000) : JL Tryz.prog 135 #[.pointer (some ⟨b, 0, none⟩), .int .i64 k, .int .i64 i] [Ad.box b 163 (Ac.enc ⟨T.w, T.b, g⟩), Ad.own g 56 16 (T.out.flatMap Ing.Event.enc)] (fun v B => ∃ g' : Hd, v = .tuple #[] ∧ g'.len = (T.Bs k i).out.length ∧ B = [Ad.box b 163 (Ac.enc ⟨(T.Bs k i).w, (T.Bs k i).b, g'⟩), Ad.own g' 56 16 ((T.Bs k i).out.flatMap Ing.Event.enc)]) := by
 intro w hS0
 refine Al _ _ Tryz.func135 rfl rfl rfl (hS0) ?_
 refine AJ (Gm rfl (Gm rfl (Gm rfl (Gm rfl (Gt (BV rfl) (Gt (Ah A8 rfl) (Gt (Ah Ce rfl) ?_)))))))
 refine Gt (AR FM rfl rfl (by (try dsimp only at *); omega) (by (try dsimp only at *); omega)) ?_
 refine Gt (Ah JP rfl) ?_
 refine Gt (AH rfl CO .m0 (((Ac.l0.comp AG.l1).comp (AU.arr (n := 9) Ag.fl (by (try dsimp only at *); omega) (by (try dsimp only at *); omega))).comp Ag.l0) rfl rfl) ?_
 refine Gt (BC Nf Ib rfl (.cons Ing.Event.l0 rfl rfl rfl (.cons Ing.Event.l3 rfl rfl rfl (.cons Ing.Event.l8 rfl rfl rfl .nil)))) ?_
 refine Ai rfl OZ (.c rfl (.c rfl .n)) (.c .h (.c .h .n)) (CL _ _ _ { AE.Fj k with Bs := (T.w.AL.at i).name } hg hb (show (-1 : Int) < 6 by decide) hn) (fun v1 B hv => ?_)
 obtain ⟨y2, rfl, y3, rfl⟩ := hv
 refine AQ ?_
 refine Bj rfl .n ?_
 intro w1 hS
 have hS := (hS.perm (As.perm (.c .h (.c .h .n)))).A1
 exact ⟨_, ⟨_, rfl, by assumption, rfl⟩, hS⟩
theorem Rf (b : Nat) (T : AE) (g : Hd) (o : Order) (hg : g.len = T.out.length) (hF : T.Fit) (hu : o.second.length ≤ 5000000) (hn : T.out.length ≤ 90000) : FJ Tryz.prog 105 #[.pointer (some ⟨b, 0, none⟩), .agg o.enc.toArray] [Ad.box b 163 (Ac.enc ⟨T.w, T.b, g⟩), Ad.own g 56 16 (T.out.flatMap Ing.Event.enc)] (fun w => (Gk 7 w ∧ 7 ∉ Cb [Ad.box b 163 (Ac.enc ⟨T.w, T.b, g⟩), Ad.own g 56 16 (T.out.flatMap Ing.Event.enc)]) ∧ (Gk 8 w ∧ 8 ∉ Cb [Ad.box b 163 (Ac.enc ⟨T.w, T.b, g⟩), Ad.own g 56 16 (T.out.flatMap Ing.Event.enc)])) (fun v B => ∃ g' : Hd, v = .tuple #[] ∧ g'.len = (T.get o).out.length ∧ B = [Ad.box b 163 (Ac.enc ⟨(T.get o).w, (T.get o).b, g'⟩), Ad.own g' 56 16 ((T.get o).out.flatMap Ing.Event.enc)]) := by
 intro w hS0 hH
 obtain ⟨⟨gl0, gm0⟩, ⟨gl1, gm1⟩⟩ := hH
 have hb := hF.b
 have hr := hF.room
 refine Al _ _ Tryz.func105 rfl rfl rfl (hS0) ?_
 refine Gs ?_
 refine B3 rfl rfl rfl (fun b1 => ?_)
 refine Gn (.t2 0 3) (Gs (Gm rfl ?_))
 refine Ai rfl W2 (.c rfl .n) (.c (.t .h) .n) (I6 _ _ _ (by first | assumption | omega)) (fun v1 B hv => ?_)
 obtain ⟨y2, rfl, y3, rfl⟩ := hv
 refine Ga rfl (Gn (.t3 0 3 4) (CD (Gt (Ah Ht rfl) (Gt (AH rfl CO .m2 Order.l4 rfl rfl) (Gt (Df rfl rfl) (Gn (.t4 0 3 4 14) ?_))))))
 refine Gc (fun c1 => ?_) (fun c1 => ?_)
 ·
  have c1p := kz c1
  refine Gs (Gm rfl (Gt (Ah Ht rfl) (Gt (AH rfl CO .m2 Order.l4 rfl rfl) ?_)))
  refine BE rfl Y3 (.c rfl (.c rfl .n)) (.c .h (.c (.t (.t .h)) .n)) (Mh _ T _ _ hg hF hu (by omega)) (fun w hS => ⟨gl0.pull gm0 hS (.c .h (.c (.t (.t .h)) .n)), gl1.pull gm1 hS (.c .h (.c (.t (.t .h)) .n))⟩) (fun v5 B hv => ?_)
  obtain ⟨y6, rfl, y7, rfl⟩ := hv
  refine Gm rfl (Gt (AM rfl rfl) (Gt (AM rfl rfl) (Ga rfl (Ga rfl (Gn (.t4 0 3 5 6) (CD (Gm rfl ?_)))))))
  refine Gt (BX rfl) (Gn (.t4 0 3 5 23) ?_)
  refine Gc (fun c2 => ?_) (fun c2 => ?_)
  ·
   have c2p := kz c2
   refine Ab (AD (AD ?_))
   refine AY rfl .n ?_
   intro w1 hS
   have hS := (hS.perm (As.perm (.c .h (.c .h .n)))).A1
   have hq : T.get o = _ := ((BB c1).trans (BB c2))
   refine ⟨_, ⟨?gq1, rfl, ?hl1, ?hB1⟩, hS⟩
   case hB1 => rw [hq]; (try rfl)
   case hl1 => rw [hq]; assumption
  have c2p := kz c2
  refine Aa ?_
  refine AB (.t3 0 3 5) ?_
  refine AA (AJ (Gm rfl (Gt (BV rfl) (Gt (Ah A8 rfl) (Gt (AZ rfl BU .m0 Ac.l0 rfl) (Gm rfl ?_))))))
  refine Ai rfl Sa (.c rfl (.c rfl (.c rfl .n))) .n (E9 _ _ _) (fun v8 B hv => ?_)
  obtain ⟨y9, rfl, y10, rfl⟩ := hv
  refine Ga rfl (Gn (.t3 0 3 4) (Gs (Gm rfl (Gm rfl (Gt (Ah GK rfl) (Gt (AH rfl A4 .m4 Order.l1 rfl rfl) (Gt (Ah Fp rfl) ?_)))))))
  refine Gt (AH rfl CO .m4 Order.l3 rfl rfl) (Gt (Ah HB rfl) (Gt (AH rfl Dh .m4 Order.l2 rfl rfl) ?_))
  refine Ai rfl Pj (.c rfl (.c rfl (.c rfl (.c rfl (.c rfl .n))))) (.c (.t .h) (.c .h .n)) (Ej _ (T.box o.second).1 _ _ ((T.box o.second).1.w.has 2 (T.box o.second).2.1) _ _ _ (hF.EZ (T.JU _).1 (T.JU _).2) (by assumption) (Nat.le_trans (AG.IB _ _ _) (by decide)) (fun i hi => AG.Fq hi)) (fun v12 B hv => ?_)
  obtain ⟨y13, rfl, y14, rfl⟩ := hv
  refine Ga rfl (Gn (.t2 0 4) (CD (Gm rfl (Gt (Ar rfl Tryz.underlying169 rfl) (Gt (Af rfl rfl) (Gn (.t3 0 4 41) ?_))))))
  refine Gc (fun c3 => ?_) (fun c3 => ?_)
  ·
   have c3p := kz c3
   rw [y14] at c3
   refine AJ (Gm rfl ?_)
   refine Ai rfl D9 (.c rfl (.c rfl .n)) (.c .h (.c (.t (.t .h)) .n)) (Ba _ (T.box o.second).1 _ _ (by assumption) (by rw [(T.JU _).2]; exact hb) (by have := T.Hp o.second; omega)) (fun v16 B hv => ?_)
   obtain ⟨y17, rfl, y18, rfl⟩ := hv
   refine Gn (.t2 0 4) (Gs (Gm rfl (Gt (Ar rfl Tryz.underlying169 rfl) (Gm rfl (Gn (.t4 0 44 45 46) (Ae ?_))))))
   refine Bo (.t4 46 0 44 45) ?_
   refine Bg (.t .h) ?_
   refine Bg (.t .h) ?_
   refine Dq (fun (k : Int) (X : AE) (h : Hd) => 0 ≤ k ∧ k ≤ ((AE.BP (T.box o.second).1.w ((T.box o.second).1.w.has 2 (T.box o.second).2.1) o.nth o.name o.Bi).length : Int) ∧ T.get o = X.DA ((AE.BP (T.box o.second).1.w ((T.box o.second).1.w.has 2 (T.box o.second).2.1) o.nth o.name o.Bi).drop k.toNat) ∧ X.b = T.b ∧ (X.out.length : Int) ≤ T.out.length + 2 + k ∧ h.len = X.out.length ∧ ((AE.BP (T.box o.second).1.w ((T.box o.second).1.w.has 2 (T.box o.second).2.1) o.nth o.name o.Bi).length : Int) ≤ 9) (fun (k : Int) (X : AE) (h : Hd) => (((AE.BP (T.box o.second).1.w ((T.box o.second).1.w.has 2 (T.box o.second).2.1) o.nth o.name o.Bi).length : Int) - k).toNat) (fun (k : Int) (X : AE) (h : Hd) => [(46, .int .i64 k)]) (fun (k : Int) (X : AE) (h : Hd) => [Ad.box b 163 (Ac.enc ⟨X.w, X.b, h⟩), Ad.own h 56 16 (X.out.flatMap Ing.Event.enc)]) (0) (_) (_) ?_ rfl rfl (fun k X h hI1 => ?_)
   · exact ⟨by omega, by omega, ((BB c1).trans (AW c2)).trans (congrArg (fun q => AE.DA q _) (BB c3)), (T.JU _).2, by have := T.Hp o.second; (try simp only [AE.CC]); omega, by assumption, by have := (AE.EP (T.box o.second).1.w ((T.box o.second).1.w.has 2 (T.box o.second).2.1) o.nth o.name o.Bi).length_le; have := AG.IB (T.box o.second).1.w 2 (T.box o.second).2.1; omega⟩
   obtain ⟨hI11, hI12, hI13, hI14, hI15, hI16, hI17⟩ := hI1
   refine Gs (Gt (A9 rfl rfl) (AQ (AA (Ao ?_))))
   refine Gc (fun c4 => ?_) (fun c4 => ?_)
   ·
    have c4p := kz c4
    have hx : 0 ≤ (AE.BP (T.box o.second).1.w ((T.box o.second).1.w.has 2 (T.box o.second).2.1) o.nth o.name o.Bi).getD k.toNat 0 ∧ (AE.BP (T.box o.second).1.w ((T.box o.second).1.w.has 2 (T.box o.second).2.1) o.nth o.name o.Bi).getD k.toNat 0 < 9 := (fun i hi => AG.Fq (AE.Dj hi)) _ (Bf.Ev (xs := (AE.BP (T.box o.second).1.w ((T.box o.second).1.w.has 2 (T.box o.second).2.1) o.nth o.name o.Bi)) (i := k.toNat) (by omega))
    refine Aa ?_
    refine AB (.t4 0 44 45 46) ?_
    refine AA (Ao (Ae (Gs ?_)))
    refine Gt (Br GU (by decide) (Kn.own .m3) rfl rfl (by omega) (by omega)) ?_
    refine Gt (DC rfl A4 (Kn.own .m3) (by omega)) ?_
    refine Ga rfl (Gn (.t5 0 8 44 45 46) (Gs (Gm rfl (Gm rfl (Gt (BV rfl) (Gt (Ah A8 rfl) (Gt (Ah Ce rfl) ?_)))))))
    refine Gt (AR FM rfl rfl (by first | omega | exact hb.1 | exact hb.2 | (dsimp only; omega)) (by first | omega | exact hb.1 | exact hb.2 | (dsimp only; omega))) ?_
    refine Ga rfl (Gn (.t6 0 8 9 44 45 46) (Gs (Gm rfl (Gm rfl (Gm rfl (Gt (BV rfl) (Gt (Ah CN rfl) ?_)))))))
    refine Gt (AH rfl A4 .m0 Ac.l1 rfl rfl) (Gt (BV rfl) (Gt (Ah FL rfl) ?_))
    refine AT (AK (((Ac.l0.comp AG.l1).comp (AU.ar (n := 9) Ag.fl (by first | omega | exact hb | (dsimp only; omega)))).comp Ag.l2) rfl rfl rfl C9 rfl .h) ?_
    refine Gt (BV rfl) (Gt (Ah DF rfl) ?_)
    refine AT (AK (((Ac.l0.comp AG.l1).comp (AU.ar (n := 9) Ag.fl (by first | omega | exact hb | (dsimp only; omega)))).comp Ag.l3) rfl rfl rfl C9 rfl .h) ?_
    refine Gn (.t5 0 8 44 45 46) ?_
    refine GF (fun _ => .h) (congrArg (fun q => Ac.enc ⟨q, _, _⟩) (AE.HM X hx.1 hx.2 1 X.b)) ?_
    refine AJ (Gm rfl (Gm rfl ?_))
    refine Ai rfl NP (.c rfl (.c rfl (.c rfl .n))) (.c .h (.c .h .n)) (Du _ (X.place ((AE.BP (T.box o.second).1.w ((T.box o.second).1.w.has 2 (T.box o.second).2.1) o.nth o.name o.Bi).getD k.toNat 0) 1 X.b) _ 3 ((AE.BP (T.box o.second).1.w ((T.box o.second).1.w.has 2 (T.box o.second).2.1) o.nth o.name o.Bi).getD k.toNat 0) (by assumption) (show 0 ≤ X.b ∧ X.b < 6 by rw [hI14]; exact hb) hx (show X.out.length ≤ 100000 by omega)) (fun v19 B hv => ?_)
    obtain ⟨y20, rfl, y21, rfl⟩ := hv
    refine AQ (AB (.t4 0 44 45 46) ?_)
    refine AV (AA (AJ ?_))
    refine Gt (Au rfl rfl (IntWalk.i64_in _ (by first | omega | exact hb.1 | exact hb.2 | (dsimp only; omega)))) ?_
    refine Gm rfl ?_
    refine AQ (AB (.t4 0 44 45 46) ?_)
    refine Bw (k + 1) _ _ ?_ ?_ (.t4 46 0 44 45) (.refl _)
    · exact ⟨by omega, by omega, by rw [hI13, AE.G4 hI11 (by omega)], hI14, (by rw [AE.FT]; show ((X.out.length + 1 : Nat) : Int) ≤ _; omega), by assumption, hI17⟩
    · omega
   have c4p := kz c4
   obtain rfl : k = ((AE.BP (T.box o.second).1.w ((T.box o.second).1.w.has 2 (T.box o.second).2.1) o.nth o.name o.Bi).length : Int) := by omega
   rw [AE.Jb] at hI13
   refine Be (AX (AX (Aj ?_)))
   refine Bj rfl .n ?_
   intro w1 hS
   have hS := (hS.perm (As.perm (.c .h (.c .h .n)))).A1
   refine ⟨_, ⟨?gq2, rfl, ?hl2, ?hB2⟩, hS⟩
   case hB2 => rw [hI13]; rfl
   case hl2 => rw [hI13]; exact hI16
  have c3p := kz c3
  rw [y14] at c3
  refine Aa ?_
  refine AB (.t2 0 4) ?_
  refine AA (Gs (Gm rfl (Gt (Ar rfl Tryz.underlying169 rfl) (Gm rfl (Gn (.t4 0 44 45 46) (Ae ?_))))))
  refine Bo (.t4 46 0 44 45) ?_
  refine Bg (.t (.t (.t .h))) ?_
  refine Bg (.t .h) ?_
  refine Dq (fun (k : Int) (X : AE) (h : Hd) => 0 ≤ k ∧ k ≤ ((AE.BP (T.box o.second).1.w ((T.box o.second).1.w.has 2 (T.box o.second).2.1) o.nth o.name o.Bi).length : Int) ∧ T.get o = X.DA ((AE.BP (T.box o.second).1.w ((T.box o.second).1.w.has 2 (T.box o.second).2.1) o.nth o.name o.Bi).drop k.toNat) ∧ X.b = T.b ∧ (X.out.length : Int) ≤ T.out.length + 2 + k ∧ h.len = X.out.length ∧ ((AE.BP (T.box o.second).1.w ((T.box o.second).1.w.has 2 (T.box o.second).2.1) o.nth o.name o.Bi).length : Int) ≤ 9) (fun (k : Int) (X : AE) (h : Hd) => (((AE.BP (T.box o.second).1.w ((T.box o.second).1.w.has 2 (T.box o.second).2.1) o.nth o.name o.Bi).length : Int) - k).toNat) (fun (k : Int) (X : AE) (h : Hd) => [(46, .int .i64 k)]) (fun (k : Int) (X : AE) (h : Hd) => [Ad.box b 163 (Ac.enc ⟨X.w, X.b, h⟩), Ad.own h 56 16 (X.out.flatMap Ing.Event.enc)]) (0) (_) (_) ?_ rfl rfl (fun k X h hI1 => ?_)
  · exact ⟨by omega, by omega, ((BB c1).trans (AW c2)).trans (congrArg (fun q => AE.DA q _) (AW c3)), (T.JU _).2, by have := T.Hp o.second; (try simp only [AE.CC]); omega, by assumption, by have := (AE.EP (T.box o.second).1.w ((T.box o.second).1.w.has 2 (T.box o.second).2.1) o.nth o.name o.Bi).length_le; have := AG.IB (T.box o.second).1.w 2 (T.box o.second).2.1; omega⟩
  obtain ⟨hI11, hI12, hI13, hI14, hI15, hI16, hI17⟩ := hI1
  refine Gs (Gt (A9 rfl rfl) (AQ (AA (Ao ?_))))
  refine Gc (fun c5 => ?_) (fun c5 => ?_)
  ·
   have c5p := kz c5
   have hx : 0 ≤ (AE.BP (T.box o.second).1.w ((T.box o.second).1.w.has 2 (T.box o.second).2.1) o.nth o.name o.Bi).getD k.toNat 0 ∧ (AE.BP (T.box o.second).1.w ((T.box o.second).1.w.has 2 (T.box o.second).2.1) o.nth o.name o.Bi).getD k.toNat 0 < 9 := (fun i hi => AG.Fq (AE.Dj hi)) _ (Bf.Ev (xs := (AE.BP (T.box o.second).1.w ((T.box o.second).1.w.has 2 (T.box o.second).2.1) o.nth o.name o.Bi)) (i := k.toNat) (by omega))
   refine Aa ?_
   refine AB (.t4 0 44 45 46) ?_
   refine AA (Ao (Ae (Gs ?_)))
   refine Gt (Br GU (by decide) (Kn.own .m3) rfl rfl (by omega) (by omega)) ?_
   refine Gt (DC rfl A4 (Kn.own .m3) (by omega)) ?_
   refine Ga rfl (Gn (.t5 0 8 44 45 46) (Gs (Gm rfl (Gm rfl (Gt (BV rfl) (Gt (Ah A8 rfl) (Gt (Ah Ce rfl) ?_)))))))
   refine Gt (AR FM rfl rfl (by first | omega | exact hb.1 | exact hb.2 | (dsimp only; omega)) (by first | omega | exact hb.1 | exact hb.2 | (dsimp only; omega))) ?_
   refine Ga rfl (Gn (.t6 0 8 9 44 45 46) (Gs (Gm rfl (Gm rfl (Gm rfl (Gt (BV rfl) (Gt (Ah CN rfl) ?_)))))))
   refine Gt (AH rfl A4 .m0 Ac.l1 rfl rfl) (Gt (BV rfl) (Gt (Ah FL rfl) ?_))
   refine AT (AK (((Ac.l0.comp AG.l1).comp (AU.ar (n := 9) Ag.fl (by first | omega | exact hb | (dsimp only; omega)))).comp Ag.l2) rfl rfl rfl C9 rfl .h) ?_
   refine Gt (BV rfl) (Gt (Ah DF rfl) ?_)
   refine AT (AK (((Ac.l0.comp AG.l1).comp (AU.ar (n := 9) Ag.fl (by first | omega | exact hb | (dsimp only; omega)))).comp Ag.l3) rfl rfl rfl C9 rfl .h) ?_
   refine Gn (.t5 0 8 44 45 46) ?_
   refine GF (fun _ => .h) (congrArg (fun q => Ac.enc ⟨q, _, _⟩) (AE.HM X hx.1 hx.2 1 X.b)) ?_
   refine AJ (Gm rfl (Gm rfl ?_))
   refine Ai rfl NP (.c rfl (.c rfl (.c rfl .n))) (.c .h (.c .h .n)) (Du _ (X.place ((AE.BP (T.box o.second).1.w ((T.box o.second).1.w.has 2 (T.box o.second).2.1) o.nth o.name o.Bi).getD k.toNat 0) 1 X.b) _ 3 ((AE.BP (T.box o.second).1.w ((T.box o.second).1.w.has 2 (T.box o.second).2.1) o.nth o.name o.Bi).getD k.toNat 0) (by assumption) (show 0 ≤ X.b ∧ X.b < 6 by rw [hI14]; exact hb) hx (show X.out.length ≤ 100000 by omega)) (fun v22 B hv => ?_)
   obtain ⟨y23, rfl, y24, rfl⟩ := hv
   refine AQ (AB (.t4 0 44 45 46) ?_)
   refine AV (AA (AJ ?_))
   refine Gt (Au rfl rfl (IntWalk.i64_in _ (by first | omega | exact hb.1 | exact hb.2 | (dsimp only; omega)))) ?_
   refine Gm rfl ?_
   refine AQ (AB (.t4 0 44 45 46) ?_)
   refine Bw (k + 1) _ _ ?_ ?_ (.t4 46 0 44 45) (.refl _)
   · exact ⟨by omega, by omega, by rw [hI13, AE.G4 hI11 (by omega)], hI14, (by rw [AE.FT]; show ((X.out.length + 1 : Nat) : Int) ≤ _; omega), by assumption, hI17⟩
   · omega
  have c5p := kz c5
  obtain rfl : k = ((AE.BP (T.box o.second).1.w ((T.box o.second).1.w.has 2 (T.box o.second).2.1) o.nth o.name o.Bi).length : Int) := by omega
  rw [AE.Jb] at hI13
  refine Be (AX (AX (Aj ?_)))
  refine Bj rfl .n ?_
  intro w1 hS
  have hS := (hS.perm (As.perm (.c .h (.c .h .n)))).A1
  refine ⟨_, ⟨?gq3, rfl, ?hl3, ?hB3⟩, hS⟩
  case hB3 => rw [hI13]; rfl
  case hl3 => rw [hI13]; exact hI16
 have c1p := kz c1
 refine Aa ?_
 refine AB (.t3 0 3 4) ?_
 refine AA (Gs (Gm rfl (Gm rfl (Gt (Ah GK rfl) (Gt (AH rfl A4 .m2 Order.l1 rfl rfl) (Gt (Ah Fp rfl) (Gt (AH rfl CO .m2 Order.l3 rfl rfl) ?_)))))))
 refine Gt (Ah HB rfl) (Gt (AH rfl Dh .m2 Order.l2 rfl rfl) ?_)
 refine Ai rfl Pj (.c rfl (.c rfl (.c rfl (.c rfl (.c rfl .n))))) (.c .h (.c .h .n)) (Ej _ T _ _ T.seen _ _ _ hF (by assumption) (Nat.le_trans T.Im (by decide)) (fun i hi => AE.Nq hi)) (fun v25 B hv => ?_)
 obtain ⟨y26, rfl, y27, rfl⟩ := hv
 refine Ga rfl (Gn (.t2 0 4) (CD (Gm rfl (Gt (Ar rfl Tryz.underlying169 rfl) (Gt (Af rfl rfl) (Gn (.t3 0 4 41) ?_))))))
 refine Gc (fun c6 => ?_) (fun c6 => ?_)
 ·
  have c6p := kz c6
  rw [y27] at c6
  refine AJ (Gm rfl ?_)
  refine Ai rfl D9 (.c rfl (.c rfl .n)) (.c .h (.c (.t (.t (.t .h))) .n)) (Ba _ T _ _ (by assumption) (by exact hb) (by have := T.Hp o.second; omega)) (fun v29 B hv => ?_)
  obtain ⟨y30, rfl, y31, rfl⟩ := hv
  refine Gn (.t2 0 4) (Gs (Gm rfl (Gt (Ar rfl Tryz.underlying169 rfl) (Gm rfl (Gn (.t4 0 44 45 46) (Ae ?_))))))
  refine Bo (.t4 46 0 44 45) ?_
  refine Bg (.t .h) ?_
  refine Bg (.t .h) ?_
  refine Dq (fun (k : Int) (X : AE) (h : Hd) => 0 ≤ k ∧ k ≤ ((AE.BP T.w T.seen o.nth o.name o.Bi).length : Int) ∧ T.get o = X.DA ((AE.BP T.w T.seen o.nth o.name o.Bi).drop k.toNat) ∧ X.b = T.b ∧ (X.out.length : Int) ≤ T.out.length + 2 + k ∧ h.len = X.out.length ∧ ((AE.BP T.w T.seen o.nth o.name o.Bi).length : Int) ≤ 9) (fun (k : Int) (X : AE) (h : Hd) => (((AE.BP T.w T.seen o.nth o.name o.Bi).length : Int) - k).toNat) (fun (k : Int) (X : AE) (h : Hd) => [(46, .int .i64 k)]) (fun (k : Int) (X : AE) (h : Hd) => [Ad.box b 163 (Ac.enc ⟨X.w, X.b, h⟩), Ad.own h 56 16 (X.out.flatMap Ing.Event.enc)]) (0) (_) (_) ?_ rfl rfl (fun k X h hI1 => ?_)
  · exact ⟨by omega, by omega, (AW c1).trans (congrArg (fun q => AE.DA q _) (BB c6)), rfl, by have := T.Hp o.second; (try simp only [AE.CC]); omega, by assumption, by have := (AE.EP T.w T.seen o.nth o.name o.Bi).length_le; have := T.Im; omega⟩
  obtain ⟨hI11, hI12, hI13, hI14, hI15, hI16, hI17⟩ := hI1
  refine Gs (Gt (A9 rfl rfl) (AQ (AA (Ao ?_))))
  refine Gc (fun c7 => ?_) (fun c7 => ?_)
  ·
   have c7p := kz c7
   have hx : 0 ≤ (AE.BP T.w T.seen o.nth o.name o.Bi).getD k.toNat 0 ∧ (AE.BP T.w T.seen o.nth o.name o.Bi).getD k.toNat 0 < 9 := (fun i hi => AE.Nq (AE.Dj hi)) _ (Bf.Ev (xs := (AE.BP T.w T.seen o.nth o.name o.Bi)) (i := k.toNat) (by omega))
   refine Aa ?_
   refine AB (.t4 0 44 45 46) ?_
   refine AA (Ao (Ae (Gs ?_)))
   refine Gt (Br GU (by decide) (Kn.own .m3) rfl rfl (by omega) (by omega)) ?_
   refine Gt (DC rfl A4 (Kn.own .m3) (by omega)) ?_
   refine Ga rfl (Gn (.t5 0 8 44 45 46) (Gs (Gm rfl (Gm rfl (Gt (BV rfl) (Gt (Ah A8 rfl) (Gt (Ah Ce rfl) ?_)))))))
   refine Gt (AR FM rfl rfl (by first | omega | exact hb.1 | exact hb.2 | (dsimp only; omega)) (by first | omega | exact hb.1 | exact hb.2 | (dsimp only; omega))) ?_
   refine Ga rfl (Gn (.t6 0 8 9 44 45 46) (Gs (Gm rfl (Gm rfl (Gm rfl (Gt (BV rfl) (Gt (Ah CN rfl) ?_)))))))
   refine Gt (AH rfl A4 .m0 Ac.l1 rfl rfl) (Gt (BV rfl) (Gt (Ah FL rfl) ?_))
   refine AT (AK (((Ac.l0.comp AG.l1).comp (AU.ar (n := 9) Ag.fl (by first | omega | exact hb | (dsimp only; omega)))).comp Ag.l2) rfl rfl rfl C9 rfl .h) ?_
   refine Gt (BV rfl) (Gt (Ah DF rfl) ?_)
   refine AT (AK (((Ac.l0.comp AG.l1).comp (AU.ar (n := 9) Ag.fl (by first | omega | exact hb | (dsimp only; omega)))).comp Ag.l3) rfl rfl rfl C9 rfl .h) ?_
   refine Gn (.t5 0 8 44 45 46) ?_
   refine GF (fun _ => .h) (congrArg (fun q => Ac.enc ⟨q, _, _⟩) (AE.HM X hx.1 hx.2 1 X.b)) ?_
   refine AJ (Gm rfl (Gm rfl ?_))
   refine Ai rfl NP (.c rfl (.c rfl (.c rfl .n))) (.c .h (.c .h .n)) (Du _ (X.place ((AE.BP T.w T.seen o.nth o.name o.Bi).getD k.toNat 0) 1 X.b) _ 3 ((AE.BP T.w T.seen o.nth o.name o.Bi).getD k.toNat 0) (by assumption) (show 0 ≤ X.b ∧ X.b < 6 by rw [hI14]; exact hb) hx (show X.out.length ≤ 100000 by omega)) (fun v32 B hv => ?_)
   obtain ⟨y33, rfl, y34, rfl⟩ := hv
   refine AQ (AB (.t4 0 44 45 46) ?_)
   refine AV (AA (AJ ?_))
   refine Gt (Au rfl rfl (IntWalk.i64_in _ (by first | omega | exact hb.1 | exact hb.2 | (dsimp only; omega)))) ?_
   refine Gm rfl ?_
   refine AQ (AB (.t4 0 44 45 46) ?_)
   refine Bw (k + 1) _ _ ?_ ?_ (.t4 46 0 44 45) (.refl _)
   · exact ⟨by omega, by omega, by rw [hI13, AE.G4 hI11 (by omega)], hI14, (by rw [AE.FT]; show ((X.out.length + 1 : Nat) : Int) ≤ _; omega), by assumption, hI17⟩
   · omega
  have c7p := kz c7
  obtain rfl : k = ((AE.BP T.w T.seen o.nth o.name o.Bi).length : Int) := by omega
  rw [AE.Jb] at hI13
  refine Be (AX (AX (Aj ?_)))
  refine Bj rfl .n ?_
  intro w1 hS
  have hS := (hS.perm (As.perm (.c .h (.c .h .n)))).A1
  refine ⟨_, ⟨?gq4, rfl, ?hl4, ?hB4⟩, hS⟩
  case hB4 => rw [hI13]; rfl
  case hl4 => rw [hI13]; exact hI16
 have c6p := kz c6
 rw [y27] at c6
 refine Aa ?_
 refine AB (.t2 0 4) ?_
 refine AA (Gs (Gm rfl (Gt (Ar rfl Tryz.underlying169 rfl) (Gm rfl (Gn (.t4 0 44 45 46) (Ae ?_))))))
 refine Bo (.t4 46 0 44 45) ?_
 refine Bg (.t (.t (.t (.t .h)))) ?_
 refine Bg (.t .h) ?_
 refine Dq (fun (k : Int) (X : AE) (h : Hd) => 0 ≤ k ∧ k ≤ ((AE.BP T.w T.seen o.nth o.name o.Bi).length : Int) ∧ T.get o = X.DA ((AE.BP T.w T.seen o.nth o.name o.Bi).drop k.toNat) ∧ X.b = T.b ∧ (X.out.length : Int) ≤ T.out.length + 2 + k ∧ h.len = X.out.length ∧ ((AE.BP T.w T.seen o.nth o.name o.Bi).length : Int) ≤ 9) (fun (k : Int) (X : AE) (h : Hd) => (((AE.BP T.w T.seen o.nth o.name o.Bi).length : Int) - k).toNat) (fun (k : Int) (X : AE) (h : Hd) => [(46, .int .i64 k)]) (fun (k : Int) (X : AE) (h : Hd) => [Ad.box b 163 (Ac.enc ⟨X.w, X.b, h⟩), Ad.own h 56 16 (X.out.flatMap Ing.Event.enc)]) (0) (_) (_) ?_ rfl rfl (fun k X h hI1 => ?_)
 · exact ⟨by omega, by omega, (AW c1).trans (congrArg (fun q => AE.DA q _) (AW c6)), rfl, by have := T.Hp o.second; (try simp only [AE.CC]); omega, by assumption, by have := (AE.EP T.w T.seen o.nth o.name o.Bi).length_le; have := T.Im; omega⟩
 obtain ⟨hI11, hI12, hI13, hI14, hI15, hI16, hI17⟩ := hI1
 refine Gs (Gt (A9 rfl rfl) (AQ (AA (Ao ?_))))
 refine Gc (fun c8 => ?_) (fun c8 => ?_)
 ·
  have c8p := kz c8
  have hx : 0 ≤ (AE.BP T.w T.seen o.nth o.name o.Bi).getD k.toNat 0 ∧ (AE.BP T.w T.seen o.nth o.name o.Bi).getD k.toNat 0 < 9 := (fun i hi => AE.Nq (AE.Dj hi)) _ (Bf.Ev (xs := (AE.BP T.w T.seen o.nth o.name o.Bi)) (i := k.toNat) (by omega))
  refine Aa ?_
  refine AB (.t4 0 44 45 46) ?_
  refine AA (Ao (Ae (Gs ?_)))
  refine Gt (Br GU (by decide) (Kn.own .m3) rfl rfl (by omega) (by omega)) ?_
  refine Gt (DC rfl A4 (Kn.own .m3) (by omega)) ?_
  refine Ga rfl (Gn (.t5 0 8 44 45 46) (Gs (Gm rfl (Gm rfl (Gt (BV rfl) (Gt (Ah A8 rfl) (Gt (Ah Ce rfl) ?_)))))))
  refine Gt (AR FM rfl rfl (by first | omega | exact hb.1 | exact hb.2 | (dsimp only; omega)) (by first | omega | exact hb.1 | exact hb.2 | (dsimp only; omega))) ?_
  refine Ga rfl (Gn (.t6 0 8 9 44 45 46) (Gs (Gm rfl (Gm rfl (Gm rfl (Gt (BV rfl) (Gt (Ah CN rfl) ?_)))))))
  refine Gt (AH rfl A4 .m0 Ac.l1 rfl rfl) (Gt (BV rfl) (Gt (Ah FL rfl) ?_))
  refine AT (AK (((Ac.l0.comp AG.l1).comp (AU.ar (n := 9) Ag.fl (by first | omega | exact hb | (dsimp only; omega)))).comp Ag.l2) rfl rfl rfl C9 rfl .h) ?_
  refine Gt (BV rfl) (Gt (Ah DF rfl) ?_)
  refine AT (AK (((Ac.l0.comp AG.l1).comp (AU.ar (n := 9) Ag.fl (by first | omega | exact hb | (dsimp only; omega)))).comp Ag.l3) rfl rfl rfl C9 rfl .h) ?_
  refine Gn (.t5 0 8 44 45 46) ?_
  refine GF (fun _ => .h) (congrArg (fun q => Ac.enc ⟨q, _, _⟩) (AE.HM X hx.1 hx.2 1 X.b)) ?_
  refine AJ (Gm rfl (Gm rfl ?_))
  refine Ai rfl NP (.c rfl (.c rfl (.c rfl .n))) (.c .h (.c .h .n)) (Du _ (X.place ((AE.BP T.w T.seen o.nth o.name o.Bi).getD k.toNat 0) 1 X.b) _ 3 ((AE.BP T.w T.seen o.nth o.name o.Bi).getD k.toNat 0) (by assumption) (show 0 ≤ X.b ∧ X.b < 6 by rw [hI14]; exact hb) hx (show X.out.length ≤ 100000 by omega)) (fun v35 B hv => ?_)
  obtain ⟨y36, rfl, y37, rfl⟩ := hv
  refine AQ (AB (.t4 0 44 45 46) ?_)
  refine AV (AA (AJ ?_))
  refine Gt (Au rfl rfl (IntWalk.i64_in _ (by first | omega | exact hb.1 | exact hb.2 | (dsimp only; omega)))) ?_
  refine Gm rfl ?_
  refine AQ (AB (.t4 0 44 45 46) ?_)
  refine Bw (k + 1) _ _ ?_ ?_ (.t4 46 0 44 45) (.refl _)
  · exact ⟨by omega, by omega, by rw [hI13, AE.G4 hI11 (by omega)], hI14, (by rw [AE.FT]; show ((X.out.length + 1 : Nat) : Int) ≤ _; omega), by assumption, hI17⟩
  · omega
 have c8p := kz c8
 obtain rfl : k = ((AE.BP T.w T.seen o.nth o.name o.Bi).length : Int) := by omega
 rw [AE.Jb] at hI13
 refine Be (AX (AX (Aj ?_)))
 refine Bj rfl .n ?_
 intro w1 hS
 have hS := (hS.perm (As.perm (.c .h (.c .h .n)))).A1
 refine ⟨_, ⟨?gq5, rfl, ?hl5, ?hB5⟩, hS⟩
 case hB5 => rw [hI13]; rfl
 case hl5 => rw [hI13]; exact hI16
theorem MN (X : AG) (i box : Int) (w : World) : Ef Tryz.prog 137 #[.agg X.enc.toArray, .int .i64 i, .int .i64 box] w fun v w' => v = .bool (X.Tf i box) ∧ CA w w' := by
 refine Al [] [] Tryz.func137 rfl rfl rfl (St.start w []) ?_
 refine Gs ?_
 refine B3 rfl rfl rfl (fun b1 => ?_)
 refine Ga rfl (Gn (.t3 1 2 3) (CD (Gm rfl (AQ (AA (Ae ?_))))))
 refine Bo (.t4 1 7 2 3) ?_
 refine HS (fun (k : Int) (j : Int) => 0 ≤ k ∧ k ≤ 10 ∧ X.Tf i box = X.inside box (10 - k).toNat j) (fun (k : Int) (j : Int) => (10 - k).toNat) (fun (k : Int) (j : Int) => [(1, .int .i64 j), (7, .int .i64 k)]) (fun (k : Int) (j : Int) => []) (0) (i) ?_ rfl rfl (fun k j hI1 => ?_)
 · exact ⟨Int.le_refl _, by omega, rfl⟩
 obtain ⟨hI11, hI12, hI13⟩ := hI1
 refine Gs (Gt (A9 rfl rfl) (AQ (AA (Ao ?_))))
 refine Gc (fun c1 => ?_) (fun c1 => ?_)
 ·
  have c1p := kz c1
  rw [show (10 - k).toNat = (10 - (k + 1)).toNat + 1 from by omega, AG.inside] at hI13
  refine Aa ?_
  refine AB (.t4 1 2 3 7) ?_
  refine AA (Ao (Ae (CD (Gm rfl (Gm rfl (Gt (Af rfl rfl) (Gn (.t5 1 2 3 7 11) ?_)))))))
  refine Gc (fun c2 => ?_) (fun c2 => ?_)
  ·
   refine Gs (Ga rfl (Gn (.t1 6) (Ab (AD (AS (AD (AD ?_)))))))
   refine AS (AD ?_)
   refine AY rfl (.tmp rfl .n) ?_
   intro w1 hS; refine ⟨congrArg Value.bool ?_, hS.Am⟩; rw [hI13]; simp only [c1, c2, ↓reduceIte, Bool.false_eq_true]
  have c2p := kz c2
  refine Aa ?_
  refine AB (.t4 1 2 3 7) ?_
  refine AA (CD (Gm rfl (Gt (A9 rfl rfl) (Gm rfl (Bc 14 rfl rfl (fun q => AF rfl) (Bc 14 rfl rfl (fun q => CM (cF rfl q) rfl) ?_))))))
  refine Gt (BS rfl rfl (fun h => by rw [h]; rfl)) ?_
  refine Gm rfl (Bc 18 rfl rfl (fun q => AF rfl) (Bc 18 rfl rfl (fun q => Ah Ce rfl) ?_))
  refine Bc 18 rfl rfl (fun q => by have q1 := q; (try simp at q1); exact AR FM (cF rfl q) (cF rfl q) (by omega) (by omega)) ?_
  refine Bc 18 rfl rfl (fun q => Ah FL (cF rfl q)) ?_
  refine Bc 18 rfl rfl (fun q => by have q1 := q; (try simp at q1); exact AH (cF rfl q) A4 .m0 ((AG.l1.comp (AU.ar (n := 9) Ag.fl (by omega))).comp Ag.l2) rfl rfl) ?_
  refine Bc 18 rfl rfl (fun q => Cg (cF rfl q) rfl) ?_
  refine Gt (BS rfl rfl (fun h => by rw [h]; rfl)) ?_
  refine Gn (.t5 1 2 3 7 25) ?_
  refine Gc (fun c3 => ?_) (fun c3 => ?_)
  ·
   refine Gs (Ga rfl (Gn (.t1 6) (Ab (AD (AS (AD (AD ?_)))))))
   refine AS (AD ?_)
   refine AY rfl (.tmp rfl .n) ?_
   intro w1 hS; refine ⟨congrArg Value.bool ?_, hS.Am⟩; rw [hI13]; simp only [c1, c2, c3, ↓reduceIte, Bool.false_eq_true]
  have c3p := kz c3
  have h9 : 0 ≤ j ∧ j < 9 := by simp at c3; omega
  refine Aa ?_
  refine AB (.t4 1 2 3 7) ?_
  refine AA (AJ (Gm rfl (Gt (Ah Ce rfl) ?_)))
  refine Gt (AR FM rfl rfl (by omega) (by omega)) ?_
  refine Gt (Ah DF rfl) ?_
  refine Gt (AH rfl A4 .m0 ((AG.l1.comp (AU.ar (n := 9) Ag.fl (by omega))).comp Ag.l3) rfl rfl) ?_
  refine Ga rfl ?_
  refine AQ (AB (.t4 1 2 3 7) ?_)
  refine AV (AA (AJ ?_))
  refine Gt (Au rfl rfl (IntWalk.i64_in _ (by omega))) ?_
  refine Gm rfl ?_
  refine AQ (AB (.t4 1 2 3 7) ?_)
  refine Da (k + 1) ((X.AL.at j).at_) ?_ ?_ (.t4 1 7 2 3) (.refl _)
  · exact ⟨by omega, by omega, by rw [hI13]; simp only [c1, c2, c3, ↓reduceIte, Bool.false_eq_true]⟩
  · omega
 have c1p := kz c1
 obtain rfl : k = 10 := by omega
 refine Be (AX (AX (Aj ?_)))
 refine AB (.nil _) ?_
 refine AA (Gs (Ga rfl (AQ (AA (Ab ?_)))))
 refine AY rfl (.tmp rfl .n) ?_
 intro w1 hS; refine ⟨congrArg Value.bool ?_, hS.Am⟩; rw [hI13]; rfl
end Go.Proofs.YtoidpggbbfncpaaGreatDoor
