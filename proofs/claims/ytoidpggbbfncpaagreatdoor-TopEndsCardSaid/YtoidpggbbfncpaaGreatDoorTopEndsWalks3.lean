/- What the functions that the law TopEnds reaches compute: walks, part 3. No condition. -/
import Derived.Test.YtoidpggbbfncpaaGreatDoorCards
import Derived.Test.YtoidpggbbfncpaaGreatDoorTie
import Derived.Deep.DeepHandedRow
import Derived.Test.YtoidpggbbfncpaaGreatDoorRows
import Derived.Test.YtoidpggbbfncpaaGreatDoorTopEndsEc3
import Derived.Test.YtoidpggbbfncpaaGreatDoorTopEndsRa1
import Derived.Test.YtoidpggbbfncpaaGreatDoorTopEndsRb1
import Derived.Test.YtoidpggbbfncpaaGreatDoorTopEndsRc1
import Derived.Test.YtoidpggbbfncpaaGreatDoorTopEndsWalks
import Derived.Test.YtoidpggbbfncpaaGreatDoorTopEndsWalks2
set_option linter.unusedSimpArgs false
set_option linter.unusedVariables false
set_option maxRecDepth 100000
set_option maxHeartbeats 1000000
namespace Go.Proofs.YtoidpggbbfncpaaGreatDoor
open Go Go.Ing Go.RowKit Go.ChangeShapes Go.WideShapes Go.ChangeAt
theorem E2 (u : As) (hu : u.length ≤ 5000000) (w : World) (gl0 : GG 7 w) (gl1 : GG 8 w) : EF Tryz.prog 154 #[BP u] w fun v w' => v = .tuple #[.int .i64 (Words.D5 u).1, BP (Words.D5 u).2.1, .bool (Words.D5 u).2.2.1, .int .i64 (Words.D5 u).2.2.2] ∧ B3 w w' := by
 have hcut := Words.Mf 46 u
 refine Aj [] [] Tryz.func154 rfl rfl rfl (St.start w []) ?_
 refine Gs (Ga rfl (Ga rfl (Ga rfl (Ga rfl (Gn (.t1 0) (CA (Gm rfl ?_)))))))
 refine Gt (Bp rfl rfl) (Gn (.t2 0 14) ?_)
 refine Gc (fun c1 => ?_) (fun c1 => ?_)
 ·
  refine Gs (Ga rfl (Ga rfl (Ga rfl (Ga rfl (Gn (.t4 2 3 4 5) (Ab (AD ?_)))))))
  refine AY rfl (.tmp rfl (.tmp rfl (.tmp rfl (.tmp rfl .n)))) ?_
  intro w1 hS; refine ⟨?_, hS.Am⟩; rw [show Words.D5 u = _ from (BB c1)]; rfl
 have c1p := kz c1
 refine Aa ?_
 refine AB (.t1 0) ?_
 refine AA (CA (Gm rfl ?_))
 refine A8 rfl Zx (.c rfl (.c rfl .n)) (fun w hS => IY _ _ w) ?_
 refine Gm rfl (Gt (AM rfl rfl) (Gt (AM rfl rfl) (Ga rfl (Ga rfl (Gn (.t3 0 6 7) (Gs (Gm rfl ?_)))))))
 refine Gm rfl (BZ 21 rfl rfl (fun q => AE rfl) (BZ 21 rfl rfl (fun q => DW (BV rfl q) rfl) (Gt (BH rfl rfl (fun h => h)) (Gm rfl (BZ 25 rfl rfl (fun q => AE rfl) ?_)))))
 refine KK (t := 25) rfl rfl rfl (fun q => Dr X3 (.c (BV rfl q) (.c rfl .n)) (fun w hS => FY _ 46 w)) ?_
 refine BZ 25 rfl rfl (fun q => BO (BV rfl q)) (Gt (BH rfl rfl (fun h => h)) (Gn (.t3 0 6 29) ?_))
 refine Gc (fun c2 => ?_) (fun c2 => ?_)
 ·
  refine Gs (Gm rfl (Ga rfl (Ga rfl (Ga rfl (Ga rfl (Gn (.t4 2 3 4 5) (Ab ?_)))))))
  refine AD ?_
  refine AY rfl (.tmp rfl (.tmp rfl (.tmp rfl (.tmp rfl .n)))) ?_
  intro w1 hS; refine ⟨?_, hS.Am⟩; rw [show Words.D5 u = _ from ((AU c1).trans (BB c2))]; rfl
 have c2p := kz c2
 refine Aa ?_
 refine AB (.t1 0) ?_
 refine AA (Gs (Gm rfl ?_))
 refine A8 rfl aF (.c rfl (.c rfl .n)) (fun w hS => IF _ 46 (by omega) w) ?_
 refine Gm rfl (Gt (AM rfl rfl) (Gt (AM rfl rfl) (Gt (AM rfl rfl) (Ga rfl (Ga rfl (Ga rfl (Gn (.t4 0 8 9 10) ?_)))))))
 refine CA (Gm rfl (Gt (BO rfl) (Gn (.t4 0 8 9 38) ?_)))
 refine Gc (fun c3 => ?_) (fun c3 => ?_)
 ·
  refine CA (Gm rfl (Gt (Bp rfl rfl) (Gn (.t2 0 40) ?_)))
  refine Gc (fun c4 => ?_) (fun c4 => ?_)
  ·
   refine Gs (Ga rfl (Ga rfl (Ga rfl (Ga rfl (Gn (.t4 2 3 4 5) (Ab (AD ?_)))))))
   refine AD ?_
   refine AY rfl (.tmp rfl (.tmp rfl (.tmp rfl (.tmp rfl .n)))) ?_
   intro w1 hS; refine ⟨?_, hS.Am⟩; rw [show Words.D5 u = _ from ((AU c1).trans ((AU c2).trans ((BB c3).trans (BB c4))))]; rfl
  refine Aa ?_
  refine AB (.t1 0) ?_
  refine AA (Gs (Gm rfl (Ga rfl (Ga rfl (Ga rfl (Ga rfl (Gn (.t4 2 3 4 5) ?_)))))))
  refine Ab (AD ?_)
  refine AY rfl (.tmp rfl (.tmp rfl (.tmp rfl (.tmp rfl .n)))) ?_
  intro w1 hS; refine ⟨?_, hS.Am⟩; rw [show Words.D5 u = _ from ((AU c1).trans ((AU c2).trans ((BB c3).trans (AU c4))))]; rfl
 have c3p := kz c3
 refine Aa ?_
 refine AB (.t2 8 9) ?_
 refine AA (Gs (Gm rfl ?_))
 refine BD rfl aG (.c rfl .n) .n (LJ _ (by omega)) (fun w hS => ⟨gl0.st hS, gl1.st hS⟩) (fun v1 B hv => ?_)
 rcases hv with ⟨y2, y3, rfl, rfl⟩ | ⟨y4, y5, y6, y7, rfl, rfl⟩
 ·
  refine Gm rfl (Gt (AM rfl rfl) (Gt (AM rfl rfl) (Ga rfl (Ga rfl (Gn (.t4 8 9 11 12) (CA (Gm rfl ?_)))))))
  refine Gt (Qb Tryz.underlying109 rfl) (Gm rfl ?_)
  refine CP (t := 49) rfl rfl rfl (AE rfl) ?_
  refine CP (t := 49) rfl rfl rfl (A5 rfl rfl) ?_
  refine Gt (CV rfl rfl) (Gm rfl (BW 53 rfl rfl (fun q => AE rfl) (BW 53 rfl rfl (fun q => Cd (cF rfl q) rfl) ?_)))
  refine Gt (BR rfl rfl (fun h => by rw [h]; rfl)) ?_
  refine Gm rfl (BW 57 rfl rfl (fun q => AE rfl) ?_)
  refine BW 57 rfl rfl (fun q => by have q1 := q; (try simp at q1); exact Bh Tryz.underlying9 (cF rfl q) rfl (by decide) (by first | omega | (have hq := Words.Q5 (by assumption); omega))) ?_
  refine BW 57 rfl rfl (fun q => A5 (cF rfl q) rfl) ?_
  refine Gt (BR rfl rfl (fun h => by rw [h]; rfl)) ?_
  refine Gm rfl (BW 62 rfl rfl (fun q => AE rfl) ?_)
  refine BW 62 rfl rfl (fun q => by have q1 := q; (try simp at q1); exact Bh Tryz.underlying9 (cF rfl q) rfl (by decide) (by first | omega | (have hq := Words.Q5 (by assumption); omega))) ?_
  refine BW 62 rfl rfl (fun q => Cd (cF rfl q) rfl) ?_
  refine Gt (BR rfl rfl (fun h => by rw [h]; rfl)) ?_
  refine Gm rfl (BW 67 rfl rfl (fun q => AE rfl) (BW 67 rfl rfl (fun q => Bp (cF rfl q) rfl) ?_))
  refine Gt (BR rfl rfl (fun h => by rw [h]; rfl)) ?_
  refine Gm rfl (BW 71 rfl rfl (fun q => AE rfl) ?_)
  refine Pn (t := 71) rfl rfl rfl (fun q => by have q1 := q; (try simp at q1); exact Dr X3 (.c (cF rfl q) (.c rfl .n)) (fun w hS => FY _ 46 w)) ?_
  refine Gt (BR rfl rfl (fun h => by rw [h]; rfl)) ?_
  refine Gn (.t3 9 11 74) ?_
  refine Gc (fun c5 => ?_) (fun c5 => ?_)
  ·
   refine Gs (Ga rfl (Ga rfl (Ga rfl (Ga rfl (Gn (.t4 2 3 4 5) (Ab (AD ?_)))))))
   refine AY rfl (.tmp rfl (.tmp rfl (.tmp rfl (.tmp rfl .n)))) ?_
   intro w1 hS; refine ⟨?_, hS.Am⟩; rw [show Words.D5 u = _ from ((AU c1).trans ((AU c2).trans (AU c3))), Words.TX y3, BB c5]; rfl
  refine Aa ?_
  refine AB (.t2 9 11) ?_
  refine AA (Gs (Gm rfl (Gm rfl (Ga rfl (Ga rfl (Ga rfl (Ga rfl ?_)))))))
  refine Gn (.t4 2 3 4 5) (Ab ?_)
  refine AY rfl (.tmp rfl (.tmp rfl (.tmp rfl (.tmp rfl .n)))) ?_
  intro w1 hS; refine ⟨?_, hS.Am⟩; rw [show Words.D5 u = _ from ((AU c1).trans ((AU c2).trans (AU c3))), Words.TX y3, AU c5]; rfl
 refine Gm rfl (Gt (AM rfl rfl) (Gt (AM rfl rfl) (Ga rfl (Ga rfl (Gn (.t4 8 9 11 12) (CA (Gm rfl ?_)))))))
 refine Gt (XV Tryz.underlying109 rfl) (Gm rfl ?_)
 refine Bt (t := 49) rfl rfl rfl rfl ?_
 refine Bt (t := 49) rfl rfl rfl rfl ?_
 refine Gt (CY rfl rfl) (Gm rfl ?_)
 refine Bt (t := 53) rfl rfl rfl rfl ?_
 refine Bt (t := 53) rfl rfl rfl rfl ?_
 refine Gt (CY rfl rfl) (Gm rfl ?_)
 refine Bt (t := 57) rfl rfl rfl rfl ?_
 refine Bt (t := 57) rfl rfl rfl rfl ?_
 refine Bt (t := 57) rfl rfl rfl rfl ?_
 refine Gt (CY rfl rfl) (Gm rfl ?_)
 refine Bt (t := 62) rfl rfl rfl rfl ?_
 refine Bt (t := 62) rfl rfl rfl rfl ?_
 refine Bt (t := 62) rfl rfl rfl rfl ?_
 refine Gt (CY rfl rfl) (Gm rfl ?_)
 refine Bt (t := 67) rfl rfl rfl rfl ?_
 refine Bt (t := 67) rfl rfl rfl rfl ?_
 refine Gt (CY rfl rfl) (Gm rfl ?_)
 refine Bt (t := 71) rfl rfl rfl rfl ?_
 refine Bt (t := 71) rfl rfl rfl rfl ?_
 refine Gt (CY rfl rfl) (Gn (.t3 9 11 74) ?_)
 refine FM rfl rfl ?_
 refine Gs (Ga rfl (Ga rfl (Ga rfl (Ga rfl (Gn (.t4 2 3 4 5) (Ab (AD ?_)))))))
 refine AY rfl (.tmp rfl (.tmp rfl (.tmp rfl (.tmp rfl .n)))) ?_
 intro w1 hS; refine ⟨?_, hS.Am⟩; rw [show Words.D5 u = _ from ((AU c1).trans ((AU c2).trans (AU c3))), Words.Vi y7]; rfl
theorem Il (z : Int) (w : World) : EF Tryz.prog 155 #[.int .i64 z] w fun v w' => v = .bool (Words.many z) ∧ B3 w w' := by
 refine Aj [] [] Tryz.func155 rfl rfl rfl (St.start w []) ?_
 refine Gs (Ga rfl (Gn (.t1 0) (Gs (Gm rfl (Gt (Ai rfl rfl) (Gm rfl (BW 5 rfl rfl (fun q => AE rfl) ?_)))))))
 refine BW 5 rfl rfl (fun q => Ai (cF rfl q) rfl) ?_
 refine Gt (BR rfl rfl (fun h => by rw [h]; rfl)) ?_
 refine Gm rfl (BW 9 rfl rfl (fun q => AE rfl) (BW 9 rfl rfl (fun q => Ai (cF rfl q) rfl) ?_))
 refine Gt (BR rfl rfl (fun h => by rw [h]; rfl)) ?_
 refine Ga rfl (Gn (.t1 2) (Ab ?_))
 refine AY rfl (.tmp rfl .n) ?_
 intro w1 hS; refine ⟨?_, hS.Am⟩; rfl
theorem Hr (z : Int) (w : World) : EF Tryz.prog 156 #[.int .i64 z] w fun v w' => v = .tuple #[BP (Words.Mu z).1, .bool (Words.Mu z).2] ∧ B3 w w' := by
 refine Aj [] [] Tryz.func156 rfl rfl rfl (St.start w []) ?_
 refine Gs (Ga rfl (Ga rfl (Gn (.t1 0) (CA (Gm rfl (Gn (.t1 4) (Ae ?_)))))))
 refine Gs (Gt (Ai rfl rfl) (Ga rfl (Gn (.t2 4 5) ?_)))
 refine Gc (fun c1 => ?_) (fun c1 => ?_)
 ·
  refine Gs (Ga rfl (Ga rfl (Gn (.t2 2 3) (Ab (AO (AD ?_))))))
  refine AY rfl (.tmp rfl (.tmp rfl .n)) ?_
  intro w1 hS; refine ⟨?_, hS.Am⟩; rw [show Words.Mu z = _ from (BB c1)]; rfl
 refine Gs (Gt (Ai rfl rfl) (Ga rfl (Gn (.t2 4 7) ?_)))
 refine Gc (fun c2 => ?_) (fun c2 => ?_)
 ·
  refine Gs (Ga rfl (Ga rfl (Gn (.t2 2 3) (Ab (AO (AD ?_))))))
  refine AY rfl (.tmp rfl (.tmp rfl .n)) ?_
  intro w1 hS; refine ⟨?_, hS.Am⟩; rw [show Words.Mu z = _ from ((AU c1).trans (BB c2))]; rfl
 refine Gs (Gt (Ai rfl rfl) (Ga rfl (Gn (.t1 9) ?_)))
 refine Gc (fun c3 => ?_) (fun c3 => ?_)
 ·
  refine Gs (Ga rfl (Ga rfl (Gn (.t2 2 3) (Ab (AO (AD ?_))))))
  refine AY rfl (.tmp rfl (.tmp rfl .n)) ?_
  intro w1 hS; refine ⟨?_, hS.Am⟩; rw [show Words.Mu z = _ from ((AU c1).trans ((AU c2).trans (BB c3)))]; rfl
 refine Aa ?_
 refine AB (.nil _) ?_
 refine AT (AA (Gs (Ga rfl (Ga rfl (AP (AA (Ab ?_)))))))
 refine AY rfl (.tmp rfl (.tmp rfl .n)) ?_
 intro w1 hS; refine ⟨?_, hS.Am⟩; rw [show Words.Mu z = _ from ((AU c1).trans ((AU c2).trans (AU c3)))]; rfl
theorem Lo (s : As) (hs : s.length ≤ 4000000) (w : World) (gl0 : GV 0 AH.C4 w) (gl1 : GG 7 w) (gl2 : GG 8 w) : EF Tryz.prog 122 #[BP s] w fun v w' => v = .tuple #[.agg (Words.parse s).1.enc.toArray, .int .i64 (Words.parse s).2] ∧ B3 w w' := by
 refine Aj [] [] Tryz.func122 rfl rfl rfl (St.start w []) ?_
 refine Gs ?_
 refine BG rfl LI rfl (fun b1 => ?_)
 refine Ga rfl (Gn (.t2 0 2) (Gs (Ga rfl (AP (AA (Gs (Gm rfl ?_)))))))
 refine Ag rfl Zy (.c rfl .n) .n (Lh _ hs) (fun v1 B hv => ?_)
 obtain ⟨y2, rfl, y3, rfl⟩ := hv
 refine Ga rfl (Gn (.t4 0 2 4 5) (CA (Gm rfl (Gt (Aq rfl Tryz.underlying52 rfl) (Gt (Ai rfl rfl) (Gn (.t5 0 2 4 5 20) ?_))))))
 refine Gc (fun c1 => ?_) (fun c1 => ?_)
 ·
  have hlen := y3
  (try simp only [Hd.cut] at c1)
  rw [hlen] at c1
  refine Gs (Gm rfl ?_)
  refine C9 rfl H7 rfl (.c rfl .n) .n (Bo _) (fun v5 B hv => ?_)
  obtain ⟨rfl, rfl⟩ := hv
  refine Gt (AM rfl rfl) (Gt (AM rfl rfl) ?_)
  refine AR (AK (AS.id Order.fl.len Order.fl.one) rfl rfl rfl Dq rfl (.t .h)) ?_
  refine Ga rfl (Gn (.t2 2 3) (Ab (AD ?_)))
  refine AY rfl (.cell rfl .m1 (.inl ⟨(by rw [Order.fl.len]; exact B8), rfl⟩) (.tmp rfl .n)) ?_
  intro w1 hS; refine ⟨?_, hS.Am⟩; rw [show Words.parse s = _ from (BB c1)]; rfl
 have c1p := kz c1
 have hlen := y3
 (try simp only [Hd.cut] at c1)
 rw [hlen] at c1
 refine Aa ?_
 refine AB (.t4 0 2 4 5) ?_
 refine AA (Gs (Gm rfl ?_))
 refine Gt (Bm H9 (by decide) (Kn.own .m0) rfl rfl (by omega) (by first | omega | (simp only [Hd.cut] at *; omega) | (simp [Hd.cut] at q ⊢; omega))) ?_
 refine Gt (C7 rfl CB (Kn.own .m0) (by first | omega | (simp only [List.length_drop, Hd.cut] at *; omega) | (simp [Hd.cut] at q ⊢; omega))) ?_
 refine A8 rfl YC (.c rfl .n) (fun w hS => Ij _ w (gl0.st hS)) ?_
 refine Gm rfl (Gt (AM rfl rfl) (Gt (AM rfl rfl) (Ga rfl (Ga rfl (Gn (.t6 0 2 4 5 6 7) (CA (Gm rfl ?_)))))))
 refine Gt (CK rfl rfl) (Gn (.t7 0 2 4 5 6 7 33) ?_)
 refine Gc (fun c2 => ?_) (fun c2 => ?_)
 ·
  refine Gs (Gm rfl (Gm rfl ?_))
  refine C9 rfl H7 rfl (.c rfl .n) .n (Bo _) (fun v6 B hv => ?_)
  obtain ⟨rfl, rfl⟩ := hv
  refine Gt (AM rfl rfl) (Gt (AM rfl rfl) ?_)
  refine AR (AK (AS.id Order.fl.len Order.fl.one) rfl rfl rfl Dq rfl (.t .h)) ?_
  refine Ga rfl (Gn (.t2 2 3) (Ab (AD ?_)))
  refine AY rfl (.cell rfl .m1 (.inl ⟨(by rw [Order.fl.len]; exact B8), rfl⟩) (.tmp rfl .n)) ?_
  intro w1 hS; refine ⟨?_, hS.Am⟩; rw [show Words.parse s = _ from ((AU c1).trans (BB c2))]; rfl
 have c2p := kz c2
 refine Aa ?_
 refine AB (.t5 0 2 4 5 6) ?_
 refine AA (Gs (Gm rfl (Gt (A9 Rk LI rfl (.cons Order.l0 rfl rfl rfl .nil)) ?_)))
 refine BG rfl LI rfl (fun b2 => ?_)
 refine AR (AK (AS.id Order.fl.len Order.fl.one) rfl rfl rfl Dq rfl .h) ?_
 refine Gn (.t6 0 2 4 5 6 8) (Gs (Gm rfl ?_))
 refine F8 DD rfl Tryz.underlying52 EW rfl rfl (by decide) (by first | omega | (simp only [Hd.cut]; omega) | (simp only [Hd.cut] at *; omega)) (fun _ => (.t .h)) ?_
 refine Ga rfl (Gn (.t6 0 2 4 5 6 8) (Ao (Ae (Gs (Gm rfl (Gt (Ai rfl rfl) (Ga rfl ?_)))))))
 refine Gn (.t7 0 2 4 5 6 8 43) ?_
 refine Gc (fun c3 => ?_) (fun c3 => ?_)
 ·
  have c3p := kz c3
  refine Gs (Gm rfl ?_)
  refine A8 rfl ZM (.c rfl (.c rfl .n)) (fun w hS => Ir _ (by omega) w) ?_
  refine A8 rfl aF (.c rfl (.c rfl .n)) (fun w hS => IF _ 32 (by have := Words.Kl 32 s; omega) w) ?_
  refine Gm rfl (Gt (AM rfl rfl) (Gt (AM rfl rfl) (Gt (AM rfl rfl) (Ga rfl (Ga rfl (Ga rfl (Gn (.t4 2 4 8 10) ?_)))))))
  refine CA (Gm rfl ?_)
  refine A8 rfl Zg (.c rfl (.c rfl .n)) (fun w hS => HN _ (by have h1 := Words.Kl 32 s; have h2 := Words.Mf 32 (Words.O6 32 s); omega) w) ?_
  refine Gt (Af QB rfl) ?_
  refine AR (AK Order.l5 rfl rfl rfl EW rfl .h) ?_
  refine Gn (.t3 2 4 8) (Gs (Gt (Af QB rfl) (Gt (AF rfl CB .m0 Order.l5 rfl rfl) (Gt (Bp rfl rfl) (Gn (.t4 2 4 8 58) ?_)))))
  refine Gc (fun c4 => ?_) (fun c4 => ?_)
  ·
   refine Gs (Gm rfl ?_)
   refine C9 rfl H7 rfl (.c rfl .n) .n (Bo _) (fun v7 B hv => ?_)
   obtain ⟨rfl, rfl⟩ := hv
   refine Gt (AM rfl rfl) (Gt (AM rfl rfl) ?_)
   refine AR (AK (AS.id Order.fl.len Order.fl.one) rfl rfl rfl Dq rfl (.t (.t .h))) ?_
   refine Ga rfl (Gn (.t2 2 3) (Ab (AD (AO (AD ?_)))))
   refine AY rfl (.cell rfl .m2 (.inl ⟨(by rw [Order.fl.len]; exact B8), rfl⟩) (.tmp rfl .n)) ?_
   intro w1 hS; refine ⟨?_, hS.Am⟩; rw [show Words.parse s = _ from ((AU c1).trans ((AU c2).trans ((BB c3).trans (BB c4))))]; rfl
  refine Aa ?_
  refine AB (.t2 2 8) ?_
  refine AA (Gs (Gt (AZ rfl B8 .m0 (AS.id Order.fl.len Order.fl.one) rfl) ?_))
  refine AR (AK (AS.id Order.fl.len Order.fl.one) rfl rfl rfl Dq rfl (.t (.t .h))) ?_
  refine Ga rfl (Gn (.t2 2 3) (Ab (AO (AD ?_))))
  refine AY rfl (.cell rfl .m2 (.inl ⟨(by rw [Order.fl.len]; exact B8), rfl⟩) (.tmp rfl .n)) ?_
  intro w1 hS; refine ⟨?_, hS.Am⟩; rw [show Words.parse s = _ from ((AU c1).trans ((AU c2).trans ((BB c3).trans (AU c4))))]; rfl
 have c3p := kz c3
 refine Gs (Gm rfl (Gt (Hc rfl rfl) (Gm rfl (BW 67 rfl rfl (fun q => AE rfl) (BW 67 rfl rfl (fun q => CH (cF rfl q) rfl) ?_)))))
 refine Gt (BR rfl rfl (fun h => by rw [h]; rfl)) ?_
 refine Ga rfl (Gn (.t6 2 4 5 6 8 64) ?_)
 refine Gc (fun c5 => ?_) (fun c5 => ?_)
 ·
  refine CA (Gm rfl (Gt (Aq rfl Tryz.underlying52 rfl) (Gt (Cd rfl rfl) (Gn (.t4 2 4 8 73) ?_))))
  refine Gc (fun c6 => ?_) (fun c6 => ?_)
  ·
   (try simp only [Hd.cut] at c6)
   rw [hlen] at c6
   refine Gs (Gm rfl ?_)
   refine C9 rfl H7 rfl (.c rfl .n) .n (Bo _) (fun v8 B hv => ?_)
   obtain ⟨rfl, rfl⟩ := hv
   refine Gt (AM rfl rfl) (Gt (AM rfl rfl) ?_)
   refine AR (AK (AS.id Order.fl.len Order.fl.one) rfl rfl rfl Dq rfl (.t (.t .h))) ?_
   refine Ga rfl (Gn (.t2 2 3) (Ab (AD (AO (AD ?_)))))
   refine AY rfl (.cell rfl .m2 (.inl ⟨(by rw [Order.fl.len]; exact B8), rfl⟩) (.tmp rfl .n)) ?_
   intro w1 hS; refine ⟨?_, hS.Am⟩; rw [show Words.parse s = _ from ((AU c1).trans ((AU c2).trans ((AU c3).trans ((BB c5).trans (BB c6)))))]; rfl
  (try simp only [Hd.cut] at c6)
  rw [hlen] at c6
  refine Aa ?_
  refine AB (.t2 2 8) ?_
  refine AA (Gs (Gt (AZ rfl B8 .m0 (AS.id Order.fl.len Order.fl.one) rfl) ?_))
  refine AR (AK (AS.id Order.fl.len Order.fl.one) rfl rfl rfl Dq rfl (.t (.t .h))) ?_
  refine Ga rfl (Gn (.t2 2 3) (Ab (AO (AD ?_))))
  refine AY rfl (.cell rfl .m2 (.inl ⟨(by rw [Order.fl.len]; exact B8), rfl⟩) (.tmp rfl .n)) ?_
  intro w1 hS; refine ⟨?_, hS.Am⟩; rw [show Words.parse s = _ from ((AU c1).trans ((AU c2).trans ((AU c3).trans ((BB c5).trans (AU c6)))))]; rfl
 have c5p := kz c5
 refine Gs (Gm rfl (Gt (Aq rfl Tryz.underlying52 rfl) (Gt (Ai rfl rfl) (Ga rfl (Gn (.t6 2 4 5 6 8 79) ?_)))))
 refine Gc (fun c7 => ?_) (fun c7 => ?_)
 ·
  (try simp only [Hd.cut] at c7)
  rw [hlen] at c7
  refine Gs (Gm rfl ?_)
  refine C9 rfl H7 rfl (.c rfl .n) .n (Bo _) (fun v9 B hv => ?_)
  obtain ⟨rfl, rfl⟩ := hv
  refine Gt (AM rfl rfl) (Gt (AM rfl rfl) ?_)
  refine AR (AK (AS.id Order.fl.len Order.fl.one) rfl rfl rfl Dq rfl (.t (.t .h))) ?_
  refine Ga rfl (Gn (.t2 2 3) (Ab (AO (AD ?_))))
  refine AY rfl (.cell rfl .m2 (.inl ⟨(by rw [Order.fl.len]; exact B8), rfl⟩) (.tmp rfl .n)) ?_
  intro w1 hS; refine ⟨?_, hS.Am⟩; rw [show Words.parse s = _ from ((AU c1).trans ((AU c2).trans ((AU c3).trans ((AU c5).trans (BB c7)))))]; rfl
 have c7p := kz c7
 (try simp only [Hd.cut] at c7)
 rw [hlen] at c7
 refine Aa ?_
 refine AB (.t5 2 4 5 6 8) ?_
 refine AT (AA (CA (Gm rfl (Gt (Ai rfl rfl) (Gm rfl (BW 89 rfl rfl (fun q => AE rfl) (BW 89 rfl rfl (fun q => Ai (cF rfl q) rfl) ?_)))))))
 refine Gt (BR rfl rfl (fun h => by rw [h]; rfl)) ?_
 refine Gn (.t6 2 4 5 6 8 92) ?_
 refine Gc (fun c8 => ?_) (fun c8 => ?_)
 ·
  have c8p := kz c8
  refine Gs (Gm rfl ?_)
  refine Gt (Bm H9 (by decide) (Kn.own .m1) rfl rfl (by omega) (by first | omega | (simp only [Hd.cut] at *; omega) | (simp [Hd.cut] at q ⊢; omega))) ?_
  refine Gt (C7 rfl CB (Kn.own .m1) (by first | omega | (simp only [List.length_drop, Hd.cut] at *; omega) | (simp [Hd.cut] at q ⊢; omega))) ?_
  refine A8 rfl YC (.c rfl .n) (fun w hS => Ij _ w (gl0.st hS)) ?_
  refine Gm rfl (Gt (AM rfl rfl) (Gt (AM rfl rfl) (Ga rfl (Ga rfl (Gn (.t7 2 4 5 6 8 12 13) (Gs (Gm rfl ?_)))))))
  refine Gt (Ai rfl rfl) (Gm rfl (BZ 102 rfl rfl (fun q => AE rfl) (BZ 102 rfl rfl (fun q => A5 (BV rfl q) rfl) (Gt (BH rfl rfl (fun h => h)) (Gm rfl (BZ 106 rfl rfl (fun q => AE rfl) (BZ 106 rfl rfl (fun q => Aq rfl Tryz.underlying52 (BV rfl q)) ?_)))))))
  refine BZ 106 rfl rfl (fun q => Ai (BV rfl q) rfl) (Gt (BH rfl rfl (fun h => h)) (Gn (.t7 2 4 5 6 8 12 110) ?_))
  refine Gc (fun c9 => ?_) (fun c9 => ?_)
  ·
   have c9p := kz c9
   (try simp only [Hd.cut] at c9)
   rw [hlen] at c9
   have hd : 0 ≤ (Words.verb (((Words.words s).drop (1 : Int).toNat).getD (0 : Int).toNat [])).1 ∧ (Words.verb (((Words.words s).drop (1 : Int).toNat).getD (0 : Int).toNat [])).1 < 6 := ⟨(Words.Wt _).1, by have h := c9; rw [Bool.and_eq_true, Bool.and_eq_true] at h; exact of_decide_eq_true h.1.2⟩
   refine Gs (Gm rfl ?_)
   refine Gt (AQ VC rfl rfl (by first | omega | (simp only [Hd.cut]; omega) | (simp only [Hd.cut] at *; omega)) (by first | omega | (simp only [Hd.cut]; omega) | (simp only [Hd.cut] at *; omega))) ?_
   refine Gt (P6 gl0 rfl CB (AH.OC hd.1 hd.2)) (Gt (Af FQ rfl) ?_)
   refine AR (AK Order.l3 rfl rfl rfl EW rfl .h) ?_
   refine Gt (Af Fx rfl) ?_
   refine AR (AK Order.l1 rfl rfl rfl C3 rfl .h) ?_
   refine Gn (.t2 2 8) (Gs (Gt (AZ rfl B8 .m0 (AS.id Order.fl.len Order.fl.one) rfl) ?_))
   refine AR (AK (AS.id Order.fl.len Order.fl.one) rfl rfl rfl Dq rfl (.t (.t .h))) ?_
   refine Ga rfl (Gn (.t2 2 3) (Ab (AD ?_)))
   refine AY rfl (.cell rfl .m2 (.inl ⟨(by rw [Order.fl.len]; exact B8), rfl⟩) (.tmp rfl .n)) ?_
   intro w1 hS; refine ⟨?_, hS.Am⟩; rw [show Words.parse s = _ from ((AU c1).trans ((AU c2).trans ((AU c3).trans ((AU c5).trans ((AU c7).trans ((BB c8).trans (BB c9)))))))]; rfl
  have c9p := kz c9
  (try simp only [Hd.cut] at c9)
  rw [hlen] at c9
  refine Aa ?_
  refine AB (.t5 2 4 5 6 8) ?_
  refine AA (CA (Gm rfl ?_))
  refine Gt (Bm H9 (by decide) (Kn.own .m1) rfl rfl (by omega) (by first | omega | (simp only [Hd.cut] at *; omega) | (simp [Hd.cut] at q ⊢; omega))) ?_
  refine Gt (C7 rfl CB (Kn.own .m1) (by first | omega | (simp only [List.length_drop, Hd.cut] at *; omega) | (simp [Hd.cut] at q ⊢; omega))) ?_
  refine A8 rfl Tc (.c rfl .n) (fun w hS => E2 _ (by have := Words.Ll s 0 1; exact Nat.le_trans this (by omega)) w (gl1.st hS) (gl2.st hS)) ?_
  refine Gm rfl (Gt (AM rfl rfl) (Gt (AM rfl rfl) (Gt (AM rfl rfl) (Gt (AM rfl rfl) (Gt (Af Fx rfl) ?_)))))
  refine AR (AK Order.l1 rfl rfl rfl C3 rfl .h) ?_
  refine Gt (Af FQ rfl) ?_
  refine AR (AK Order.l3 rfl rfl rfl EW rfl .h) ?_
  refine Gt (Af Ge rfl) ?_
  refine AR (AK Order.l2 rfl rfl rfl Jr rfl .h) ?_
  refine Ga rfl (Gn (.t6 2 4 5 6 7 8) (Gs (Gm rfl (Gt (CK rfl rfl) (Gm rfl (BW 131 rfl rfl (fun q => Af Ge rfl) (BW 131 rfl rfl (fun q => AF (cF rfl q) Ct .m0 Order.l2 rfl rfl) ?_)))))))
  refine BW 131 rfl rfl (fun q => AE (cF rfl q)) ?_
  refine DA (t := 134) rfl rfl rfl (fun qc q => AE rfl) ?_
  refine TY (t := 134) rfl rfl rfl (fun qc q => by have q1 := q; have qc1 := qc; (try simp at q1 qc1); exact Dr X7 (.c (BV rfl (by rw [qc, q]; rfl)) .n) (fun w hS => Il _ w)) ?_
  refine DA (t := 134) rfl rfl rfl (fun qc q => BO (BV rfl (by rw [qc, q]; rfl))) ?_
  refine BW 131 rfl rfl (fun q => BH (cF rfl q) rfl (fun h => by rw [q, h]; rfl)) ?_
  refine Gt (BR rfl rfl (fun h => by rw [h]; rfl)) ?_
  refine Gn (.t6 2 4 5 6 8 139) ?_
  refine Gc (fun c10 => ?_) (fun c10 => ?_)
  ·
   refine Gs (Gm rfl ?_)
   refine C9 rfl H7 rfl (.c rfl .n) .n (Bo _) (fun v10 B hv => ?_)
   obtain ⟨rfl, rfl⟩ := hv
   refine Gt (AM rfl rfl) (Gt (AM rfl rfl) ?_)
   refine AR (AK (AS.id Order.fl.len Order.fl.one) rfl rfl rfl Dq rfl (.t (.t .h))) ?_
   refine Ga rfl (Gn (.t2 2 3) (Ab (AD ?_)))
   refine AY rfl (.cell rfl .m2 (.inl ⟨(by rw [Order.fl.len]; exact B8), rfl⟩) (.tmp rfl .n)) ?_
   intro w1 hS; refine ⟨?_, hS.Am⟩; rw [show Words.parse s = _ from ((AU c1).trans ((AU c2).trans ((AU c3).trans ((AU c5).trans ((AU c7).trans ((BB c8).trans ((AU c9).trans (BB c10))))))))]; rfl
  have c10p := kz c10
  refine Aa ?_
  refine AB (.t5 2 4 5 6 8) ?_
  refine AA (Gs (Gm rfl ?_))
  refine A8 rfl X9 (.c rfl .n) (fun w hS => Hr _ w) ?_
  refine Gm rfl (Gt (AM rfl rfl) (Gt (AM rfl rfl) (Ga rfl (Ga rfl (Gn (.t6 2 4 5 8 14 15) (Gs (Gm rfl ?_)))))))
  refine F8 DD rfl Tryz.underlying52 EW rfl rfl (by decide) (by first | omega | (simp only [Hd.cut]; omega) | (simp only [Hd.cut] at *; omega)) (fun _ => (.t .h)) ?_
  refine Ga rfl (Gn (.t6 2 4 5 8 14 15) (CA (Gm rfl (Gt (Aq rfl Tryz.underlying52 rfl) (Gt (Cd rfl rfl) (Gm rfl (BZ 154 rfl rfl (fun q => AE rfl) ?_)))))))
  refine BZ 154 rfl rfl (fun q => DW (BV rfl q) rfl) (Gt (BH rfl rfl (fun h => h)) (Gm rfl (BZ 158 rfl rfl (fun q => AE rfl) ?_)))
  refine BZ 158 rfl rfl (fun q => by have q1 := q; (try simp at q1); exact Bm H9 (by decide) (Kn.own .m1) (BV rfl q) rfl (by omega) (by first | omega | (simp only [Hd.cut] at *; omega) | (simp [Hd.cut] at q ⊢; omega))) ?_
  refine BZ 158 rfl rfl (fun q => by have q1 := q; (try simp at q1); exact C7 (BV rfl q) CB (Kn.own .m1) (by first | omega | (simp only [List.length_drop, Hd.cut] at *; omega) | (simp [Hd.cut] at q ⊢; omega))) ?_
  refine BZ 158 rfl rfl (fun q => AE rfl) (BZ 158 rfl rfl (fun q => Bp (BV rfl q) (BV rfl q)) (Gt (BH rfl rfl (fun h => h)) (Gn (.t7 2 4 5 8 14 15 164) ?_)))
  refine Gc (fun c11 => ?_) (fun c11 => ?_)
  ·
   have c11p := kz c11
   (try simp only [Hd.cut] at c11)
   rw [hlen] at c11
   refine Gs (Gm rfl ?_)
   refine F8 DD rfl Tryz.underlying52 EW rfl rfl (by decide) (by first | omega | (simp only [Hd.cut]; omega) | (simp only [Hd.cut] at *; omega)) (fun _ => (.t .h)) ?_
   refine Ga rfl (Gn (.t6 2 4 5 8 14 15) (Gs (Gm rfl (Gt (Aq rfl Tryz.underlying52 rfl) (Gt (Ai rfl rfl) (Gn (.t7 2 4 5 8 14 15 169) ?_))))))
   refine Gc (fun c12 => ?_) (fun c12 => ?_)
   ·
    (try simp only [Hd.cut] at c12)
    rw [hlen] at c12
    refine Gs (Gm rfl ?_)
    refine C9 rfl H7 rfl (.c rfl .n) .n (Bo _) (fun v11 B hv => ?_)
    obtain ⟨rfl, rfl⟩ := hv
    refine Gt (AM rfl rfl) (Gt (AM rfl rfl) ?_)
    refine AR (AK (AS.id Order.fl.len Order.fl.one) rfl rfl rfl Dq rfl (.t (.t .h))) ?_
    refine Ga rfl (Gn (.t2 2 3) (Ab (AD ?_)))
    refine AY rfl (.cell rfl .m2 (.inl ⟨(by rw [Order.fl.len]; exact B8), rfl⟩) (.tmp rfl .n)) ?_
    intro w1 hS; refine ⟨?_, hS.Am⟩; rw [show Words.parse s = _ from ((AU c1).trans ((AU c2).trans ((AU c3).trans ((AU c5).trans ((AU c7).trans ((BB c8).trans ((AU c9).trans ((AU c10).trans ((BB c11).trans (BB c12))))))))))]; rfl
   have c12p := kz c12
   (try simp only [Hd.cut] at c12)
   rw [hlen] at c12
   refine Aa ?_
   refine AB (.t6 2 4 5 8 14 15) ?_
   refine AA (Ao (Ae (Gs (Gm rfl (Gt (Aq rfl Tryz.underlying52 rfl) (Gt (Ai rfl rfl) (Gm rfl ?_)))))))
   refine BZ 178 rfl rfl (fun q => AE rfl) (BZ 178 rfl rfl (fun q => BO (BV rfl q)) (Gt (BH rfl rfl (fun h => h)) (Ga rfl (Gn (.t6 2 4 5 8 14 174) ?_))))
   refine Gc (fun c13 => ?_) (fun c13 => ?_)
   ·
    (try simp only [Hd.cut] at c13)
    rw [hlen] at c13
    refine Gs (Gt (AZ rfl B8 .m0 (AS.id Order.fl.len Order.fl.one) rfl) ?_)
    refine AR (AK (AS.id Order.fl.len Order.fl.one) rfl rfl rfl Dq rfl (.t (.t .h))) ?_
    refine Ga rfl (Gn (.t2 2 3) (Ab (AO (AD ?_))))
    refine AY rfl (.cell rfl .m2 (.inl ⟨(by rw [Order.fl.len]; exact B8), rfl⟩) (.tmp rfl .n)) ?_
    intro w1 hS; refine ⟨?_, hS.Am⟩; rw [show Words.parse s = _ from ((AU c1).trans ((AU c2).trans ((AU c3).trans ((AU c5).trans ((AU c7).trans ((BB c8).trans ((AU c9).trans ((AU c10).trans ((BB c11).trans ((AU c12).trans (BB c13)))))))))))]; rfl
   have c13p := kz c13
   (try simp only [Hd.cut] at c13)
   rw [hlen] at c13
   refine Gs (Gm rfl (Gt (Aq rfl Tryz.underlying52 rfl) (Gt (CK rfl rfl) (Gm rfl (BW 187 rfl rfl (fun q => AE rfl) (BW 187 rfl rfl (fun q => Bp (cF rfl q) rfl) ?_))))))
   refine Gt (BR rfl rfl (fun h => by rw [h]; rfl)) ?_
   refine Ga rfl (Gn (.t5 2 4 5 8 183) ?_)
   refine Gc (fun c14 => ?_) (fun c14 => ?_)
   ·
    (try simp only [Hd.cut] at c14)
    rw [hlen] at c14
    refine Gs (Gm rfl ?_)
    refine C9 rfl H7 rfl (.c rfl .n) .n (Bo _) (fun v12 B hv => ?_)
    obtain ⟨rfl, rfl⟩ := hv
    refine Gt (AM rfl rfl) (Gt (AM rfl rfl) ?_)
    refine AR (AK (AS.id Order.fl.len Order.fl.one) rfl rfl rfl Dq rfl (.t (.t .h))) ?_
    refine Ga rfl (Gn (.t2 2 3) (Ab (AO (AD ?_))))
    refine AY rfl (.cell rfl .m2 (.inl ⟨(by rw [Order.fl.len]; exact B8), rfl⟩) (.tmp rfl .n)) ?_
    intro w1 hS; refine ⟨?_, hS.Am⟩; rw [show Words.parse s = _ from ((AU c1).trans ((AU c2).trans ((AU c3).trans ((AU c5).trans ((AU c7).trans ((BB c8).trans ((AU c9).trans ((AU c10).trans ((BB c11).trans ((AU c12).trans ((AU c13).trans (BB c14))))))))))))]; rfl
   have c14p := kz c14
   (try simp only [Hd.cut] at c14)
   rw [hlen] at c14
   refine Aa ?_
   refine AB (.t3 2 5 8) ?_
   refine AT (AA (Gs (Gm rfl ?_)))
   refine Gt (Bm H9 (by decide) (Kn.own .m1) rfl rfl (by omega) (by first | omega | (simp only [Hd.cut] at *; omega) | (simp [Hd.cut] at q ⊢; omega))) ?_
   refine Gt (C7 rfl CB (Kn.own .m1) (by first | omega | (simp only [List.length_drop, Hd.cut] at *; omega) | (simp [Hd.cut] at q ⊢; omega))) ?_
   refine Gt (Af HX rfl) ?_
   refine AR (AK Order.l4 rfl rfl rfl EW rfl .h) ?_
   refine Gn (.t2 2 8) (Gs (Gt (AZ rfl B8 .m0 (AS.id Order.fl.len Order.fl.one) rfl) ?_))
   refine AR (AK (AS.id Order.fl.len Order.fl.one) rfl rfl rfl Dq rfl (.t (.t .h))) ?_
   refine Ga rfl (Gn (.t2 2 3) (Ab ?_))
   refine AY rfl (.cell rfl .m2 (.inl ⟨(by rw [Order.fl.len]; exact B8), rfl⟩) (.tmp rfl .n)) ?_
   intro w1 hS; refine ⟨?_, hS.Am⟩; rw [show Words.parse s = _ from ((AU c1).trans ((AU c2).trans ((AU c3).trans ((AU c5).trans ((AU c7).trans ((BB c8).trans ((AU c9).trans ((AU c10).trans ((BB c11).trans ((AU c12).trans ((AU c13).trans (AU c14))))))))))))]; rfl
  have c11p := kz c11
  (try simp only [Hd.cut] at c11)
  rw [hlen] at c11
  refine Aa ?_
  refine AB (.t6 2 4 5 8 14 15) ?_
  refine AA (Ao (Ae (Gs (Gm rfl (Gt (Aq rfl Tryz.underlying52 rfl) (Gt (Ai rfl rfl) (Gm rfl ?_)))))))
  refine BZ 178 rfl rfl (fun q => AE rfl) (BZ 178 rfl rfl (fun q => BO (BV rfl q)) (Gt (BH rfl rfl (fun h => h)) (Ga rfl (Gn (.t6 2 4 5 8 14 174) ?_))))
  refine Gc (fun c15 => ?_) (fun c15 => ?_)
  ·
   (try simp only [Hd.cut] at c15)
   rw [hlen] at c15
   refine Gs (Gt (AZ rfl B8 .m0 (AS.id Order.fl.len Order.fl.one) rfl) ?_)
   refine AR (AK (AS.id Order.fl.len Order.fl.one) rfl rfl rfl Dq rfl (.t (.t .h))) ?_
   refine Ga rfl (Gn (.t2 2 3) (Ab (AO (AD ?_))))
   refine AY rfl (.cell rfl .m2 (.inl ⟨(by rw [Order.fl.len]; exact B8), rfl⟩) (.tmp rfl .n)) ?_
   intro w1 hS; refine ⟨?_, hS.Am⟩; rw [show Words.parse s = _ from ((AU c1).trans ((AU c2).trans ((AU c3).trans ((AU c5).trans ((AU c7).trans ((BB c8).trans ((AU c9).trans ((AU c10).trans ((AU c11).trans (BB c15))))))))))]; rfl
  have c15p := kz c15
  (try simp only [Hd.cut] at c15)
  rw [hlen] at c15
  refine Gs (Gm rfl (Gt (Aq rfl Tryz.underlying52 rfl) (Gt (CK rfl rfl) (Gm rfl (BW 187 rfl rfl (fun q => AE rfl) (BW 187 rfl rfl (fun q => Bp (cF rfl q) rfl) ?_))))))
  refine Gt (BR rfl rfl (fun h => by rw [h]; rfl)) ?_
  refine Ga rfl (Gn (.t5 2 4 5 8 183) ?_)
  refine Gc (fun c16 => ?_) (fun c16 => ?_)
  ·
   (try simp only [Hd.cut] at c16)
   rw [hlen] at c16
   refine Gs (Gm rfl ?_)
   refine C9 rfl H7 rfl (.c rfl .n) .n (Bo _) (fun v13 B hv => ?_)
   obtain ⟨rfl, rfl⟩ := hv
   refine Gt (AM rfl rfl) (Gt (AM rfl rfl) ?_)
   refine AR (AK (AS.id Order.fl.len Order.fl.one) rfl rfl rfl Dq rfl (.t (.t .h))) ?_
   refine Ga rfl (Gn (.t2 2 3) (Ab (AO (AD ?_))))
   refine AY rfl (.cell rfl .m2 (.inl ⟨(by rw [Order.fl.len]; exact B8), rfl⟩) (.tmp rfl .n)) ?_
   intro w1 hS; refine ⟨?_, hS.Am⟩; rw [show Words.parse s = _ from ((AU c1).trans ((AU c2).trans ((AU c3).trans ((AU c5).trans ((AU c7).trans ((BB c8).trans ((AU c9).trans ((AU c10).trans ((AU c11).trans ((AU c15).trans (BB c16)))))))))))]; rfl
  have c16p := kz c16
  (try simp only [Hd.cut] at c16)
  rw [hlen] at c16
  refine Aa ?_
  refine AB (.t3 2 5 8) ?_
  refine AT (AA (Gs (Gm rfl ?_)))
  refine Gt (Bm H9 (by decide) (Kn.own .m1) rfl rfl (by omega) (by first | omega | (simp only [Hd.cut] at *; omega) | (simp [Hd.cut] at q ⊢; omega))) ?_
  refine Gt (C7 rfl CB (Kn.own .m1) (by first | omega | (simp only [List.length_drop, Hd.cut] at *; omega) | (simp [Hd.cut] at q ⊢; omega))) ?_
  refine Gt (Af HX rfl) ?_
  refine AR (AK Order.l4 rfl rfl rfl EW rfl .h) ?_
  refine Gn (.t2 2 8) (Gs (Gt (AZ rfl B8 .m0 (AS.id Order.fl.len Order.fl.one) rfl) ?_))
  refine AR (AK (AS.id Order.fl.len Order.fl.one) rfl rfl rfl Dq rfl (.t (.t .h))) ?_
  refine Ga rfl (Gn (.t2 2 3) (Ab ?_))
  refine AY rfl (.cell rfl .m2 (.inl ⟨(by rw [Order.fl.len]; exact B8), rfl⟩) (.tmp rfl .n)) ?_
  intro w1 hS; refine ⟨?_, hS.Am⟩; rw [show Words.parse s = _ from ((AU c1).trans ((AU c2).trans ((AU c3).trans ((AU c5).trans ((AU c7).trans ((BB c8).trans ((AU c9).trans ((AU c10).trans ((AU c11).trans ((AU c15).trans (AU c16)))))))))))]; rfl
 have c8p := kz c8
 refine Aa ?_
 refine AB (.t5 2 4 5 6 8) ?_
 refine AA (CA (Gm rfl ?_))
 refine Gt (Bm H9 (by decide) (Kn.own .m1) rfl rfl (by omega) (by first | omega | (simp only [Hd.cut] at *; omega) | (simp [Hd.cut] at q ⊢; omega))) ?_
 refine Gt (C7 rfl CB (Kn.own .m1) (by first | omega | (simp only [List.length_drop, Hd.cut] at *; omega) | (simp [Hd.cut] at q ⊢; omega))) ?_
 refine A8 rfl Tc (.c rfl .n) (fun w hS => E2 _ (by have := Words.Ll s 0 1; exact Nat.le_trans this (by omega)) w (gl1.st hS) (gl2.st hS)) ?_
 refine Gm rfl (Gt (AM rfl rfl) (Gt (AM rfl rfl) (Gt (AM rfl rfl) (Gt (AM rfl rfl) (Gt (Af Fx rfl) ?_)))))
 refine AR (AK Order.l1 rfl rfl rfl C3 rfl .h) ?_
 refine Gt (Af FQ rfl) ?_
 refine AR (AK Order.l3 rfl rfl rfl EW rfl .h) ?_
 refine Gt (Af Ge rfl) ?_
 refine AR (AK Order.l2 rfl rfl rfl Jr rfl .h) ?_
 refine Ga rfl (Gn (.t6 2 4 5 6 7 8) (Gs (Gm rfl (Gt (CK rfl rfl) (Gm rfl (BW 131 rfl rfl (fun q => Af Ge rfl) (BW 131 rfl rfl (fun q => AF (cF rfl q) Ct .m0 Order.l2 rfl rfl) ?_)))))))
 refine BW 131 rfl rfl (fun q => AE (cF rfl q)) ?_
 refine DA (t := 134) rfl rfl rfl (fun qc q => AE rfl) ?_
 refine TY (t := 134) rfl rfl rfl (fun qc q => by have q1 := q; have qc1 := qc; (try simp at q1 qc1); exact Dr X7 (.c (BV rfl (by rw [qc, q]; rfl)) .n) (fun w hS => Il _ w)) ?_
 refine DA (t := 134) rfl rfl rfl (fun qc q => BO (BV rfl (by rw [qc, q]; rfl))) ?_
 refine BW 131 rfl rfl (fun q => BH (cF rfl q) rfl (fun h => by rw [q, h]; rfl)) ?_
 refine Gt (BR rfl rfl (fun h => by rw [h]; rfl)) ?_
 refine Gn (.t6 2 4 5 6 8 139) ?_
 refine Gc (fun c17 => ?_) (fun c17 => ?_)
 ·
  refine Gs (Gm rfl ?_)
  refine C9 rfl H7 rfl (.c rfl .n) .n (Bo _) (fun v14 B hv => ?_)
  obtain ⟨rfl, rfl⟩ := hv
  refine Gt (AM rfl rfl) (Gt (AM rfl rfl) ?_)
  refine AR (AK (AS.id Order.fl.len Order.fl.one) rfl rfl rfl Dq rfl (.t (.t .h))) ?_
  refine Ga rfl (Gn (.t2 2 3) (Ab (AD ?_)))
  refine AY rfl (.cell rfl .m2 (.inl ⟨(by rw [Order.fl.len]; exact B8), rfl⟩) (.tmp rfl .n)) ?_
  intro w1 hS; refine ⟨?_, hS.Am⟩; rw [show Words.parse s = _ from ((AU c1).trans ((AU c2).trans ((AU c3).trans ((AU c5).trans ((AU c7).trans ((AU c8).trans (BB c17)))))))]; rfl
 have c17p := kz c17
 refine Aa ?_
 refine AB (.t5 2 4 5 6 8) ?_
 refine AA (Gs (Gm rfl ?_))
 refine A8 rfl X9 (.c rfl .n) (fun w hS => Hr _ w) ?_
 refine Gm rfl (Gt (AM rfl rfl) (Gt (AM rfl rfl) (Ga rfl (Ga rfl (Gn (.t6 2 4 5 8 14 15) (Gs (Gm rfl ?_)))))))
 refine F8 DD rfl Tryz.underlying52 EW rfl rfl (by decide) (by first | omega | (simp only [Hd.cut]; omega) | (simp only [Hd.cut] at *; omega)) (fun _ => (.t .h)) ?_
 refine Ga rfl (Gn (.t6 2 4 5 8 14 15) (CA (Gm rfl (Gt (Aq rfl Tryz.underlying52 rfl) (Gt (Cd rfl rfl) (Gm rfl (BZ 154 rfl rfl (fun q => AE rfl) ?_)))))))
 refine BZ 154 rfl rfl (fun q => DW (BV rfl q) rfl) (Gt (BH rfl rfl (fun h => h)) (Gm rfl (BZ 158 rfl rfl (fun q => AE rfl) ?_)))
 refine BZ 158 rfl rfl (fun q => by have q1 := q; (try simp at q1); exact Bm H9 (by decide) (Kn.own .m1) (BV rfl q) rfl (by omega) (by first | omega | (simp only [Hd.cut] at *; omega) | (simp [Hd.cut] at q ⊢; omega))) ?_
 refine BZ 158 rfl rfl (fun q => by have q1 := q; (try simp at q1); exact C7 (BV rfl q) CB (Kn.own .m1) (by first | omega | (simp only [List.length_drop, Hd.cut] at *; omega) | (simp [Hd.cut] at q ⊢; omega))) ?_
 refine BZ 158 rfl rfl (fun q => AE rfl) (BZ 158 rfl rfl (fun q => Bp (BV rfl q) (BV rfl q)) (Gt (BH rfl rfl (fun h => h)) (Gn (.t7 2 4 5 8 14 15 164) ?_)))
 refine Gc (fun c18 => ?_) (fun c18 => ?_)
 ·
  have c18p := kz c18
  (try simp only [Hd.cut] at c18)
  rw [hlen] at c18
  refine Gs (Gm rfl ?_)
  refine F8 DD rfl Tryz.underlying52 EW rfl rfl (by decide) (by first | omega | (simp only [Hd.cut]; omega) | (simp only [Hd.cut] at *; omega)) (fun _ => (.t .h)) ?_
  refine Ga rfl (Gn (.t6 2 4 5 8 14 15) (Gs (Gm rfl (Gt (Aq rfl Tryz.underlying52 rfl) (Gt (Ai rfl rfl) (Gn (.t7 2 4 5 8 14 15 169) ?_))))))
  refine Gc (fun c19 => ?_) (fun c19 => ?_)
  ·
   (try simp only [Hd.cut] at c19)
   rw [hlen] at c19
   refine Gs (Gm rfl ?_)
   refine C9 rfl H7 rfl (.c rfl .n) .n (Bo _) (fun v15 B hv => ?_)
   obtain ⟨rfl, rfl⟩ := hv
   refine Gt (AM rfl rfl) (Gt (AM rfl rfl) ?_)
   refine AR (AK (AS.id Order.fl.len Order.fl.one) rfl rfl rfl Dq rfl (.t (.t .h))) ?_
   refine Ga rfl (Gn (.t2 2 3) (Ab (AD ?_)))
   refine AY rfl (.cell rfl .m2 (.inl ⟨(by rw [Order.fl.len]; exact B8), rfl⟩) (.tmp rfl .n)) ?_
   intro w1 hS; refine ⟨?_, hS.Am⟩; rw [show Words.parse s = _ from ((AU c1).trans ((AU c2).trans ((AU c3).trans ((AU c5).trans ((AU c7).trans ((AU c8).trans ((AU c17).trans ((BB c18).trans (BB c19)))))))))]; rfl
  have c19p := kz c19
  (try simp only [Hd.cut] at c19)
  rw [hlen] at c19
  refine Aa ?_
  refine AB (.t6 2 4 5 8 14 15) ?_
  refine AA (Ao (Ae (Gs (Gm rfl (Gt (Aq rfl Tryz.underlying52 rfl) (Gt (Ai rfl rfl) (Gm rfl ?_)))))))
  refine BZ 178 rfl rfl (fun q => AE rfl) (BZ 178 rfl rfl (fun q => BO (BV rfl q)) (Gt (BH rfl rfl (fun h => h)) (Ga rfl (Gn (.t6 2 4 5 8 14 174) ?_))))
  refine Gc (fun c20 => ?_) (fun c20 => ?_)
  ·
   (try simp only [Hd.cut] at c20)
   rw [hlen] at c20
   refine Gs (Gt (AZ rfl B8 .m0 (AS.id Order.fl.len Order.fl.one) rfl) ?_)
   refine AR (AK (AS.id Order.fl.len Order.fl.one) rfl rfl rfl Dq rfl (.t (.t .h))) ?_
   refine Ga rfl (Gn (.t2 2 3) (Ab (AO (AD ?_))))
   refine AY rfl (.cell rfl .m2 (.inl ⟨(by rw [Order.fl.len]; exact B8), rfl⟩) (.tmp rfl .n)) ?_
   intro w1 hS; refine ⟨?_, hS.Am⟩; rw [show Words.parse s = _ from ((AU c1).trans ((AU c2).trans ((AU c3).trans ((AU c5).trans ((AU c7).trans ((AU c8).trans ((AU c17).trans ((BB c18).trans ((AU c19).trans (BB c20))))))))))]; rfl
  have c20p := kz c20
  (try simp only [Hd.cut] at c20)
  rw [hlen] at c20
  refine Gs (Gm rfl (Gt (Aq rfl Tryz.underlying52 rfl) (Gt (CK rfl rfl) (Gm rfl (BW 187 rfl rfl (fun q => AE rfl) (BW 187 rfl rfl (fun q => Bp (cF rfl q) rfl) ?_))))))
  refine Gt (BR rfl rfl (fun h => by rw [h]; rfl)) ?_
  refine Ga rfl (Gn (.t5 2 4 5 8 183) ?_)
  refine Gc (fun c21 => ?_) (fun c21 => ?_)
  ·
   (try simp only [Hd.cut] at c21)
   rw [hlen] at c21
   refine Gs (Gm rfl ?_)
   refine C9 rfl H7 rfl (.c rfl .n) .n (Bo _) (fun v16 B hv => ?_)
   obtain ⟨rfl, rfl⟩ := hv
   refine Gt (AM rfl rfl) (Gt (AM rfl rfl) ?_)
   refine AR (AK (AS.id Order.fl.len Order.fl.one) rfl rfl rfl Dq rfl (.t (.t .h))) ?_
   refine Ga rfl (Gn (.t2 2 3) (Ab (AO (AD ?_))))
   refine AY rfl (.cell rfl .m2 (.inl ⟨(by rw [Order.fl.len]; exact B8), rfl⟩) (.tmp rfl .n)) ?_
   intro w1 hS; refine ⟨?_, hS.Am⟩; rw [show Words.parse s = _ from ((AU c1).trans ((AU c2).trans ((AU c3).trans ((AU c5).trans ((AU c7).trans ((AU c8).trans ((AU c17).trans ((BB c18).trans ((AU c19).trans ((AU c20).trans (BB c21)))))))))))]; rfl
  have c21p := kz c21
  (try simp only [Hd.cut] at c21)
  rw [hlen] at c21
  refine Aa ?_
  refine AB (.t3 2 5 8) ?_
  refine AT (AA (Gs (Gm rfl ?_)))
  refine Gt (Bm H9 (by decide) (Kn.own .m1) rfl rfl (by omega) (by first | omega | (simp only [Hd.cut] at *; omega) | (simp [Hd.cut] at q ⊢; omega))) ?_
  refine Gt (C7 rfl CB (Kn.own .m1) (by first | omega | (simp only [List.length_drop, Hd.cut] at *; omega) | (simp [Hd.cut] at q ⊢; omega))) ?_
  refine Gt (Af HX rfl) ?_
  refine AR (AK Order.l4 rfl rfl rfl EW rfl .h) ?_
  refine Gn (.t2 2 8) (Gs (Gt (AZ rfl B8 .m0 (AS.id Order.fl.len Order.fl.one) rfl) ?_))
  refine AR (AK (AS.id Order.fl.len Order.fl.one) rfl rfl rfl Dq rfl (.t (.t .h))) ?_
  refine Ga rfl (Gn (.t2 2 3) (Ab ?_))
  refine AY rfl (.cell rfl .m2 (.inl ⟨(by rw [Order.fl.len]; exact B8), rfl⟩) (.tmp rfl .n)) ?_
  intro w1 hS; refine ⟨?_, hS.Am⟩; rw [show Words.parse s = _ from ((AU c1).trans ((AU c2).trans ((AU c3).trans ((AU c5).trans ((AU c7).trans ((AU c8).trans ((AU c17).trans ((BB c18).trans ((AU c19).trans ((AU c20).trans (AU c21)))))))))))]; rfl
 have c18p := kz c18
 (try simp only [Hd.cut] at c18)
 rw [hlen] at c18
 refine Aa ?_
 refine AB (.t6 2 4 5 8 14 15) ?_
 refine AA (Ao (Ae (Gs (Gm rfl (Gt (Aq rfl Tryz.underlying52 rfl) (Gt (Ai rfl rfl) (Gm rfl ?_)))))))
 refine BZ 178 rfl rfl (fun q => AE rfl) (BZ 178 rfl rfl (fun q => BO (BV rfl q)) (Gt (BH rfl rfl (fun h => h)) (Ga rfl (Gn (.t6 2 4 5 8 14 174) ?_))))
 refine Gc (fun c22 => ?_) (fun c22 => ?_)
 ·
  (try simp only [Hd.cut] at c22)
  rw [hlen] at c22
  refine Gs (Gt (AZ rfl B8 .m0 (AS.id Order.fl.len Order.fl.one) rfl) ?_)
  refine AR (AK (AS.id Order.fl.len Order.fl.one) rfl rfl rfl Dq rfl (.t (.t .h))) ?_
  refine Ga rfl (Gn (.t2 2 3) (Ab (AO (AD ?_))))
  refine AY rfl (.cell rfl .m2 (.inl ⟨(by rw [Order.fl.len]; exact B8), rfl⟩) (.tmp rfl .n)) ?_
  intro w1 hS; refine ⟨?_, hS.Am⟩; rw [show Words.parse s = _ from ((AU c1).trans ((AU c2).trans ((AU c3).trans ((AU c5).trans ((AU c7).trans ((AU c8).trans ((AU c17).trans ((AU c18).trans (BB c22)))))))))]; rfl
 have c22p := kz c22
 (try simp only [Hd.cut] at c22)
 rw [hlen] at c22
 refine Gs (Gm rfl (Gt (Aq rfl Tryz.underlying52 rfl) (Gt (CK rfl rfl) (Gm rfl (BW 187 rfl rfl (fun q => AE rfl) (BW 187 rfl rfl (fun q => Bp (cF rfl q) rfl) ?_))))))
 refine Gt (BR rfl rfl (fun h => by rw [h]; rfl)) ?_
 refine Ga rfl (Gn (.t5 2 4 5 8 183) ?_)
 refine Gc (fun c23 => ?_) (fun c23 => ?_)
 ·
  (try simp only [Hd.cut] at c23)
  rw [hlen] at c23
  refine Gs (Gm rfl ?_)
  refine C9 rfl H7 rfl (.c rfl .n) .n (Bo _) (fun v17 B hv => ?_)
  obtain ⟨rfl, rfl⟩ := hv
  refine Gt (AM rfl rfl) (Gt (AM rfl rfl) ?_)
  refine AR (AK (AS.id Order.fl.len Order.fl.one) rfl rfl rfl Dq rfl (.t (.t .h))) ?_
  refine Ga rfl (Gn (.t2 2 3) (Ab (AO (AD ?_))))
  refine AY rfl (.cell rfl .m2 (.inl ⟨(by rw [Order.fl.len]; exact B8), rfl⟩) (.tmp rfl .n)) ?_
  intro w1 hS; refine ⟨?_, hS.Am⟩; rw [show Words.parse s = _ from ((AU c1).trans ((AU c2).trans ((AU c3).trans ((AU c5).trans ((AU c7).trans ((AU c8).trans ((AU c17).trans ((AU c18).trans ((AU c22).trans (BB c23))))))))))]; rfl
 have c23p := kz c23
 (try simp only [Hd.cut] at c23)
 rw [hlen] at c23
 refine Aa ?_
 refine AB (.t3 2 5 8) ?_
 refine AT (AA (Gs (Gm rfl ?_)))
 refine Gt (Bm H9 (by decide) (Kn.own .m1) rfl rfl (by omega) (by first | omega | (simp only [Hd.cut] at *; omega) | (simp [Hd.cut] at q ⊢; omega))) ?_
 refine Gt (C7 rfl CB (Kn.own .m1) (by first | omega | (simp only [List.length_drop, Hd.cut] at *; omega) | (simp [Hd.cut] at q ⊢; omega))) ?_
 refine Gt (Af HX rfl) ?_
 refine AR (AK Order.l4 rfl rfl rfl EW rfl .h) ?_
 refine Gn (.t2 2 8) (Gs (Gt (AZ rfl B8 .m0 (AS.id Order.fl.len Order.fl.one) rfl) ?_))
 refine AR (AK (AS.id Order.fl.len Order.fl.one) rfl rfl rfl Dq rfl (.t (.t .h))) ?_
 refine Ga rfl (Gn (.t2 2 3) (Ab ?_))
 refine AY rfl (.cell rfl .m2 (.inl ⟨(by rw [Order.fl.len]; exact B8), rfl⟩) (.tmp rfl .n)) ?_
 intro w1 hS; refine ⟨?_, hS.Am⟩; rw [show Words.parse s = _ from ((AU c1).trans ((AU c2).trans ((AU c3).trans ((AU c5).trans ((AU c7).trans ((AU c8).trans ((AU c17).trans ((AU c18).trans ((AU c22).trans (AU c23))))))))))]; rfl
theorem Gq (d : Int) (w : World) : EF Tryz.prog 128 #[.int .i64 d] w fun v w' => v = .int .i64 (AH.opposite d) ∧ B3 w w' := by
 refine Aj [] [] Tryz.func128 rfl rfl rfl (St.start w []) ?_
 refine Gs (Ga rfl (Gn (.t1 0) (Gs (Gm rfl (Gt (Jf rfl rfl) (Gt (Kg rfl rfl) ?_))))))
 refine Gt (Aw rfl rfl (IntWalk.i64_in _ (by omega))) ?_
 refine Gt (SP rfl rfl (by omega)) ?_
 refine Ga rfl (Gn (.t1 2) (Ab ?_))
 refine AY rfl (.tmp rfl .n) ?_
 intro w1 hS; refine ⟨?_, hS.Am⟩; rfl
theorem QD (b : Nat) (T : AG) (g : Hd) (d : Int) (hg : g.len = T.out.length) (hF : T.Fit) (hd : 0 ≤ d ∧ d < 6) (hn : T.out.length ≤ 80000) : Eu Tryz.prog 99 #[.pointer (some ⟨b, 0, none⟩), .int .i64 d] [Ac.box b 163 (Ad.enc ⟨T.w, T.b, g⟩), Ac.own g 56 16 (T.out.flatMap Ing.Event.enc)] (fun w => (GV 0 AH.C4 w ∧ 0 ∉ CW [Ac.box b 163 (Ad.enc ⟨T.w, T.b, g⟩), Ac.own g 56 16 (T.out.flatMap Ing.Event.enc)])) (fun v B => ∃ g' : Hd, v = .tuple #[] ∧ g'.len = (T.walk d).out.length ∧ B = [Ac.box b 163 (Ad.enc ⟨(T.walk d).w, (T.walk d).b, g'⟩), Ac.own g' 56 16 ((T.walk d).out.flatMap Ing.Event.enc)]) := by
 intro w hS0 hH
 obtain ⟨gl0, gm0⟩ := hH
 have hb := hF.b
 have hr := hF.room
 have hx := hF.exit hd.1 hd.2
 refine Aj _ _ Tryz.func99 rfl rfl rfl (hS0) ?_
 refine Ao ?_
 refine BF (N := 19) [0, 0, 0, 4, 12, 28, 2, 66, 194, 510, 1022, 2046, 1, 4097, 12289, 32767, 65535, 0, 262143] mix (by kernel_rfl) rfl ?_
 refine Pf 0 rfl (AE rfl) (Pf 1 rfl (AE rfl) (Pf 2 rfl (AE rfl) (Pf 3 rfl (BS rfl) (Pf 4 rfl (Af CL rfl) (Pf 5 rfl (AF rfl A1 .m0 Ad.l1 rfl rfl) (Pf 6 rfl (BS rfl) (Pf 7 rfl (Af A6 rfl) ?_)))))))
 refine Pf 8 rfl (Af Bi rfl) ?_
 refine Pf 9 rfl (AQ Cy rfl rfl (by first | omega | exact hb.1 | exact hb.2 | (dsimp only; omega)) (by first | omega | exact hb.1 | exact hb.2 | (dsimp only; omega))) ?_
 refine Pf 10 rfl (Af Cx rfl) ?_
 refine Pf 11 rfl (AF rfl A1 .m0 (((Ad.l0.comp AH.l2).comp (AS.ar (n := 6) Al.fl (by first | omega | exact hb | (dsimp only; omega)))).comp Al.l3) rfl rfl) ?_
 refine Pf 12 rfl (BS rfl) (Pf 13 rfl (Af A6 rfl) (Pf 14 rfl (Af GR rfl) ?_))
 refine Pf 15 rfl (AQ Nc rfl rfl (by first | omega | exact hb.1 | exact hb.2 | (dsimp only; omega)) (by first | omega | exact hb.1 | exact hb.2 | (dsimp only; omega))) ?_
 refine Pf 16 rfl (AZ rfl ME .m0 ((Ad.l0.comp AH.l0).comp (AS.ar (n := 6) Room.fl (by first | omega | exact hb | (dsimp only; omega)))) rfl) ?_
 refine An 17 rfl (by kernel_rfl) ?_
 refine BG rfl M1 rfl (fun b1 => ?_)
 refine Bn rfl ⟨?_, ?_⟩
 · exact (Po rfl (AZ rfl ME .m1 ((Ad.l0.comp AH.l0).comp (AS.ar (n := 6) Room.fl (by first | omega | exact hb | (dsimp only; omega)))) rfl) rfl rfl (Po rfl (AQ Nc rfl rfl (by first | omega | exact hb.1 | exact hb.2 | (dsimp only; omega)) (by first | omega | exact hb.1 | exact hb.2 | (dsimp only; omega))) rfl rfl (Po rfl (Af GR rfl) rfl rfl (Po rfl (Af A6 rfl) rfl rfl (Po rfl (BS rfl) rfl rfl (Po rfl (AF rfl A1 .m1 (((Ad.l0.comp AH.l2).comp (AS.ar (n := 6) Al.fl (by first | omega | exact hb | (dsimp only; omega)))).comp Al.l3) rfl rfl) rfl rfl (Po rfl (Af Cx rfl) rfl rfl (Po rfl (AQ Cy rfl rfl (by first | omega | exact hb.1 | exact hb.2 | (dsimp only; omega)) (by first | omega | exact hb.1 | exact hb.2 | (dsimp only; omega))) rfl rfl (Po rfl (Af Bi rfl) rfl rfl (Po rfl (Af A6 rfl) rfl rfl (Po rfl (BS rfl) rfl rfl (Po rfl (AF rfl A1 .m1 Ad.l1 rfl rfl) rfl rfl (Po rfl (Af CL rfl) rfl rfl (Po rfl (BS rfl) rfl rfl (Po rfl (AE rfl) rfl rfl (Po rfl (AE rfl) rfl rfl (Po rfl (AE rfl) rfl rfl Au)))))))))))))))))
 refine An 18 rfl (by kernel_rfl) ?_
 refine AR (AK (AS.id Room.fl.len Room.fl.one) rfl rfl rfl PM rfl .h) ?_
 refine BK rfl ⟨?_, ?_⟩
 · exact (Pk (Pk (Pk (Pk (Pk (Pk (Pk (Pk (Pk (Pk (Pk (Pk (Pk (Pk (Pk (Pk (Pk Au)))))))))))))))))
 refine A2 (by kernel_rfl) ?_
 refine AB (.t3 0 1 4) ?_
 refine AA (Ae (Gs (Gm rfl (Gt (Af Lw rfl) ?_))))
 refine Gt (AQ QX rfl rfl (by first | omega | exact hb.1 | exact hb.2 | (dsimp only; omega)) (by first | omega | exact hb.1 | exact hb.2 | (dsimp only; omega))) ?_
 refine Gt (AF rfl A1 .m0 (Room.l2.comp (AS.ar (n := 6) By (by first | omega | exact hb | (dsimp only; omega)))) rfl rfl) ?_
 refine Gt (Ai rfl rfl) (Ga rfl (Gn (.t4 0 1 4 58) ?_))
 refine Gc (fun c1 => ?_) (fun c1 => ?_)
 ·
  have c1p := kz c1
  refine AI (Gm rfl ?_)
  refine Ag rfl Dx (.c rfl (.c rfl .n)) (.c (.t .h) (.c (.t .h) .n)) (Bb _ _ _ _ hg hb (by omega)) (fun v1 B hv => ?_)
  obtain ⟨y2, rfl, y3, rfl⟩ := hv
  refine AP (AB (.nil _) ?_)
  refine AT ?_
  refine Bf rfl .n ?_
  intro w1 hS
  have hS := (hS.perm (Av.perm (.c .h (.c .h .n)))).Ay
  have hq : T.walk d = _ := (BB c1)
  refine ⟨_, ⟨?gq1, rfl, ?hl1, ?hB1⟩, hS⟩
  case hB1 => rw [hq]; (try rfl)
  case hl1 => rw [hq]; assumption
 have c1p := kz c1
 refine Gs (Gm rfl (Gt (Af L0 rfl) ?_))
 refine Gt (AQ Ul rfl rfl (by first | omega | exact hb.1 | exact hb.2 | (dsimp only; omega)) (by first | omega | exact hb.1 | exact hb.2 | (dsimp only; omega))) ?_
 refine Gt (AF rfl Ct .m0 (Room.l3.comp (AS.ar (n := 6) Gd (by first | omega | exact hb | (dsimp only; omega)))) rfl rfl) ?_
 refine Ga rfl (Gn (.t4 0 1 4 66) ?_)
 refine Gc (fun c2 => ?_) (fun c2 => ?_)
 ·
  have c2p := kz c2
  refine AI (Gm rfl ?_)
  refine Ag rfl Dx (.c rfl (.c rfl .n)) (.c (.t .h) (.c (.t .h) .n)) (Bb _ _ _ _ hg hb (by omega)) (fun v4 B hv => ?_)
  obtain ⟨y5, rfl, y6, rfl⟩ := hv
  refine AP (AB (.nil _) ?_)
  refine AT ?_
  refine Bf rfl .n ?_
  intro w1 hS
  have hS := (hS.perm (Av.perm (.c .h (.c .h .n)))).Ay
  have hq : T.walk d = _ := ((AU c1).trans (BB c2))
  refine ⟨_, ⟨?gq2, rfl, ?hl2, ?hB2⟩, hS⟩
  case hB2 => rw [hq]; (try rfl)
  case hl2 => rw [hq]; assumption
 have c2p := kz c2
 have gm := AG.SA (hF.Bk { AG.GI 1 with dir := d }) (r := (T.w.Bx.at T.me.room).Da.at d - 1) (by have h0 : ¬ (T.w.Bx.at (T.w.AW.at T.b).room).Da.at d = 0 := c1p; show 0 ≤ (T.w.Bx.at (T.w.AW.at T.b).room).Da.at d - 1 ∧ (T.w.Bx.at (T.w.AW.at T.b).room).Da.at d - 1 < 6; omega)
 refine Gs (Gm rfl (Gm rfl (Gt (A9 Ng H2 rfl (.cons Ing.Event.l0 rfl rfl rfl (.cons Ing.Event.l3 rfl rfl rfl (.cons Ing.Event.l4 rfl rfl rfl .nil)))) ?_)))
 refine Ag rfl OF (.c rfl (.c rfl .n)) (.c (.t .h) (.c (.t .h) .n)) (CI _ T _ { AG.GI 1 with dir := d } hg hb (show (-1 : Int) < 6 by decide) (by omega)) (fun v7 B hv => ?_)
 obtain ⟨y8, rfl, y9, rfl⟩ := hv
 refine Gn (.t3 0 1 4) (Ao ?_)
 refine BF (N := 16) [0, 0, 2, 6, 14, 0, 0, 96, 224, 480, 1, 1025, 3073, 8191, 16383, 32767] mix (by kernel_rfl) rfl ?_
 refine Pf 0 rfl (AE rfl) (Pf 1 rfl (AE rfl) (Pf 2 rfl (BS rfl) (Pf 3 rfl (Af CL rfl) (Pf 4 rfl (AF rfl A1 .m0 Ad.l1 rfl rfl) (Pf 5 rfl (AE rfl) (Pf 6 rfl (Af Lw rfl) ?_))))))
 refine Pf 7 rfl (AQ QX rfl rfl (by first | omega | exact hb.1 | exact hb.2 | (dsimp only; omega)) (by first | omega | exact hb.1 | exact hb.2 | (dsimp only; omega))) ?_
 refine Pf 8 rfl (AF rfl A1 .m2 (Room.l2.comp (AS.ar (n := 6) By (by first | omega | exact hb | (dsimp only; omega)))) rfl rfl) ?_
 refine Pf 9 rfl (E6 rfl rfl (IntWalk.i64_in _ (by first | omega | exact hb.1 | exact hb.2 | (dsimp only; omega)))) ?_
 refine Pf 10 rfl (BS rfl) (Pf 11 rfl (Af A6 rfl) (Pf 12 rfl (Af Bi rfl) ?_))
 refine Pf 13 rfl (AQ Cy rfl rfl (by first | omega | exact hb.1 | exact hb.2 | (dsimp only; omega)) (by first | omega | exact hb.1 | exact hb.2 | (dsimp only; omega))) ?_
 refine Pf 14 rfl (Af Cx rfl) ?_
 refine An 15 rfl (by kernel_rfl) ?_
 refine AR (AK (((Ad.l0.comp AH.l2).comp (AS.ar (n := 6) Al.fl (by first | omega | exact hb | (dsimp only; omega)))).comp Al.l3) rfl rfl rfl C3 rfl .h) ?_
 refine BK rfl ⟨?_, ?_⟩
 · exact (Pk (Pk (Pk (Pk (Pk (Pk (Pk (Pk (Pk (Pk (Pk (Pk (Pk (Pk (Pk Au)))))))))))))))
 refine A2 (by kernel_rfl) ?_
 refine AB (.t2 0 1) ?_
 refine AA (Ao ?_)
 refine BF (N := 11) [0, 0, 2, 6, 14, 1, 33, 97, 255, 511, 1023] mix (by kernel_rfl) rfl ?_
 refine Pf 0 rfl (AE rfl) (Pf 1 rfl (AE rfl) (Pf 2 rfl (BS rfl) (Pf 3 rfl (Af CL rfl) (Pf 4 rfl (AF rfl A1 .m0 Ad.l1 rfl rfl) (Pf 5 rfl (BS rfl) (Pf 6 rfl (Af A6 rfl) (Pf 7 rfl (Af Bi rfl) ?_)))))))
 refine Pf 8 rfl (AQ Cy rfl rfl (by first | omega | exact hb.1 | exact hb.2 | (dsimp only; omega)) (by first | omega | exact hb.1 | exact hb.2 | (dsimp only; omega))) ?_
 refine Pf 9 rfl (Af Fi rfl) ?_
 refine An 10 rfl (by kernel_rfl) ?_
 refine AR (AK (((Ad.l0.comp AH.l2).comp (AS.ar (n := 6) Al.fl (by first | omega | exact hb | (dsimp only; omega)))).comp Al.l5) rfl rfl rfl C3 rfl .h) ?_
 refine BK rfl ⟨?_, ?_⟩
 · exact (Pk (Pk (Pk (Pk (Pk (Pk (Pk (Pk (Pk (Pk Au))))))))))
 refine A2 (by kernel_rfl) ?_
 refine AB (.t2 0 1) ?_
 refine AA (Ao ?_)
 refine Fh (fun _ => .h) (congrArg (fun q => Ad.enc ⟨q, _, _⟩) (AG.Vo (T.Bk { AG.GI 1 with dir := d }) hb _)) ?_
 refine AI (Gm rfl (Gm rfl ?_))
 refine A8 rfl YE (.c rfl .n) (fun w hS => Gq _ w) ?_
 refine Gt (A9 Ng H2 rfl (.cons Ing.Event.l0 rfl rfl rfl (.cons Ing.Event.l3 rfl rfl rfl (.cons Ing.Event.l4 rfl rfl rfl .nil)))) ?_
 refine Ag rfl OF (.c rfl (.c rfl .n)) (.c .h (.c .h .n)) (CI _ (AG.JP (T.Bk { AG.GI 1 with dir := d }) ((T.w.Bx.at T.me.room).Da.at d - 1)) _ { AG.GI 2 with dir := AH.opposite d } (by assumption) hb (show (-1 : Int) < 6 by decide) (show (AG.out (T.Bk { AG.GI 1 with dir := d })).length ≤ 100000 by simp only [AG.CU]; omega)) (fun v10 B hv => ?_)
 obtain ⟨y11, rfl, y12, rfl⟩ := hv
 refine Gn (.t1 0) (AI (Gm rfl ?_))
 refine BD rfl Td (.c rfl .n) (.c .h (.c .h .n)) (Gh _ (AG.Bk (AG.JP (T.Bk { AG.GI 1 with dir := d }) ((T.w.Bx.at T.me.room).Da.at d - 1)) { AG.GI 2 with dir := AH.opposite d }) _ (by assumption) hb gm.fit.br (show _ ≤ 90000 by simp only [AG.CU]; show (AG.out (T.Bk { AG.GI 1 with dir := d })).length + 1 ≤ 90000; simp only [AG.CU]; omega)) (fun w hS => gl0.pull gm0 hS (.c .h (.c .h .n))) (fun v13 B hv => ?_)
 obtain ⟨y14, rfl, y15, rfl⟩ := hv
 refine AP (AB (.nil _) ?_)
 refine AT ?_
 refine Bf rfl .n ?_
 intro w1 hS
 have hS := (hS.perm (Av.perm (.c .h (.c .h .n)))).Ay
 have hq : T.walk d = _ := ((AU c1).trans (AU c2))
 refine ⟨_, ⟨?gq3, rfl, ?hl3, ?hB3⟩, hS⟩
 case hB3 => rw [hq]; (try rfl)
 case hl3 => rw [hq]; assumption
theorem HS (b : Nat) (T : AG) (g : Hd) (hF : T.Fit) : IP Tryz.prog 136 #[.pointer (some ⟨b, 0, none⟩)] [Ac.box b 163 (Ad.enc ⟨T.w, T.b, g⟩)] (fun v B => ∃ f : Hd, v = f.val ∧ f.len = (T.own).length ∧ B = [Ac.box b 163 (Ad.enc ⟨T.w, T.b, g⟩), Ac.own f 3 1 ((T.own).flatMap Ax)]) := by
 intro w hS0
 have hb := hF.b
 have hr := hF.room
 refine Aj _ _ Tryz.func136 rfl rfl rfl (hS0) ?_
 refine Gs (Ga rfl (Gn (.t1 0) (Ao ?_)))
 refine BF (N := 10) [0, 1, 3, 7, 0, 16, 48, 112, 255, 511] mix (by kernel_rfl) rfl ?_
 refine Pf 0 rfl (AE rfl) (Pf 1 rfl (BS rfl) (Pf 2 rfl (Af A6 rfl) (Pf 3 rfl (AZ rfl BT .m0 Ad.l0 rfl) (Pf 4 rfl (AE rfl) (Pf 5 rfl (BS rfl) (Pf 6 rfl (Af CL rfl) (Pf 7 rfl (AF rfl A1 .m0 Ad.l1 rfl rfl) ?_)))))))
 refine An 8 rfl (by kernel_rfl) ?_
 refine Ag rfl Q7 (.c rfl (.c rfl (.c rfl .n))) .n (Ex _ _ _) (fun v1 B hv => ?_)
 obtain ⟨y2, rfl, y3, rfl⟩ := hv
 refine Bn rfl ⟨?_, ?_⟩
 · exact (Pk (Pk (Pk (Pk (Pk (Pk (Pk (Pk Au))))))))
 refine Pf 9 rfl (Az rfl) ?_
 refine A2 (by kernel_rfl) ?_
 refine AB (.t1 2) ?_
 refine AA (Ab ?_)
 refine AY rfl (.tmp rfl .n) ?_
 intro w1 hS
 have hS := (hS.perm (Av.perm (.c (.t .h) (.c .h .n)))).Ay
 exact ⟨_, ⟨_, rfl, by assumption, rfl⟩, hS⟩
theorem Kz (b : Nat) (T : AG) (g : Hd) (hF : T.Fit) : IP Tryz.prog 125 #[.pointer (some ⟨b, 0, none⟩)] [Ac.box b 163 (Ad.enc ⟨T.w, T.b, g⟩)] (fun v B => ∃ F : AH, F = T.GC.w ∧ v = .tuple #[] ∧ B = [Ac.box b 163 (Ad.enc ⟨F, T.b, g⟩)]) := by
 intro w hS0
 have hb := hF.b
 have hr := hF.room
 have ho9 := T.JX
 refine Aj _ _ Tryz.func125 rfl rfl rfl (hS0) ?_
 refine CA (Gm rfl ?_)
 refine Ag rfl S7 (.c rfl .n) (.c .h .n) (HS _ _ _ (by first | assumption | omega)) (fun v1 B hv => ?_)
 obtain ⟨y2, rfl, y3, rfl⟩ := hv
 refine Gt (Aq rfl Tryz.underlying169 rfl) (Gm rfl (Gn (.t4 0 7 8 9) (Ae ?_)))
 refine Bj (.t4 9 0 7 8) ?_
 refine G5 (fun (k : Int) (X : AG) => 0 ≤ k ∧ T.Ck T.own = X.Ck (T.own.drop k.toNat) ∧ X.b = T.b ∧ k ≤ (T.own.length : Int)) (fun (k : Int) (X : AG) => ((T.own.length : Int) - k).toNat) (fun (k : Int) (X : AG) => [(9, .int .i64 k)]) (fun (k : Int) (X : AG) => [Ac.box b 163 (Ad.enc ⟨X.w, X.b, g⟩)]) (0) (_) ?_ rfl rfl (fun k X hI1 => ?_)
 · exact ⟨by omega, rfl, rfl, by omega⟩
 obtain ⟨hI11, hI12, hI13, hI14⟩ := hI1
 refine Gs (Gt (A5 rfl rfl) (AP (AA (Ao ?_))))
 refine Gc (fun c1 => ?_) (fun c1 => ?_)
 ·
  have c1p := kz c1
  have hx := AG.Ks (Bc.Ei (xs := T.own) (i := k.toNat) (by omega))
  refine Aa ?_
  refine AB (.t4 0 7 8 9) ?_
  refine AA (Ao (Ae (Gs ?_)))
  refine Gt (Bm F5 (by decide) (Kn.own .m1) rfl rfl (by omega) (by omega)) ?_
  refine Gt (C6 rfl A1 (Kn.own .m1) (by omega)) ?_
  refine Ga rfl (Gn (.t5 0 3 7 8 9) (Gs (Gm rfl (Gm rfl (Gt (BS rfl) (Gt (Af A6 rfl) (Gt (Af Cp rfl) ?_)))))))
  refine Gt (AQ Fo rfl rfl (by first | omega | (rw [hI13]; first | exact hb.1 | exact hb.2) | (dsimp only; omega)) (by first | omega | (rw [hI13]; first | exact hb.1 | exact hb.2) | (dsimp only; omega))) ?_
  refine Ga rfl (Gn (.t5 0 4 7 8 9) (CA (Gm rfl (Gt (BS rfl) (Gt (Af GO rfl) ?_)))))
  refine Gt (AF rfl A1 .m0 (((Ad.l0.comp AH.l1).comp (AS.arr (n := 9) Ak.fl (by first | omega | (rw [hI13]; first | exact hb.1 | exact hb.2) | (dsimp only; omega)) (by first | omega | (rw [hI13]; first | exact hb.1 | exact hb.2) | (dsimp only; omega)))).comp Ak.l1) rfl rfl) ?_
  refine Gt (Ai rfl rfl) (Gn (.t6 0 4 7 8 9 23) ?_)
  refine Gc (fun c2 => ?_) (fun c2 => ?_)
  ·
   have c2p := kz c2
   refine AI (Gm rfl (Gt (BS rfl) (Gt (Af Fb rfl) ?_)))
   refine AR (AK (((Ad.l0.comp AH.l1).comp (AS.arr (n := 9) Ak.fl (by first | omega | (rw [hI13]; first | exact hb.1 | exact hb.2) | (dsimp only; omega)) (by first | omega | (rw [hI13]; first | exact hb.1 | exact hb.2) | (dsimp only; omega)))).comp Ak.l4) rfl rfl rfl Jr rfl .h) ?_
   refine Gn (.t5 0 4 7 8 9) ?_
   refine BF (N := 19) [0, 0, 0, 0, 8, 24, 56, 4, 132, 388, 1020, 2044, 4092, 8189, 16381, 32765, 65535, 131071, 262143] mix (by kernel_rfl) rfl ?_
   refine Pf 0 rfl (AE rfl) (Pf 1 rfl (AE rfl) (Pf 2 rfl (AE rfl) (Pf 3 rfl (AE rfl) (Pf 4 rfl (BS rfl) (Pf 5 rfl (Af CL rfl) (Pf 6 rfl (AF rfl A1 .m0 Ad.l1 rfl rfl) (Pf 7 rfl (BS rfl) ?_)))))))
   refine Pf 8 rfl (Af A6 rfl) (Pf 9 rfl (Af Bi rfl) ?_)
   refine Pf 10 rfl (AQ Cy rfl rfl (by first | omega | (rw [hI13]; first | exact hb.1 | exact hb.2) | (dsimp only; omega)) (by first | omega | (rw [hI13]; first | exact hb.1 | exact hb.2) | (dsimp only; omega))) ?_
   refine Pf 11 rfl (Af Cx rfl) ?_
   refine Pf 12 rfl (AF rfl A1 .m0 (((Ad.l0.comp AH.l2).comp (AS.arr (n := 6) Al.fl (by first | omega | (rw [hI13]; first | exact hb.1 | exact hb.2) | (dsimp only; omega)) (by first | omega | (rw [hI13]; first | exact hb.1 | exact hb.2) | (dsimp only; omega)))).comp Al.l3) rfl rfl) ?_
   refine Pf 13 rfl (BS rfl) (Pf 14 rfl (Af E5 rfl) ?_)
   refine An 15 rfl (by kernel_rfl) ?_
   refine AR (AK (((Ad.l0.comp AH.l1).comp (AS.arr (n := 9) Ak.fl (by first | omega | (rw [hI13]; first | exact hb.1 | exact hb.2) | (dsimp only; omega)) (by first | omega | (rw [hI13]; first | exact hb.1 | exact hb.2) | (dsimp only; omega)))).comp Ak.l2) rfl rfl rfl C3 rfl .h) ?_
   refine BK rfl ⟨?_, ?_⟩
   · exact (Pk (Pk (Pk (Pk (Pk (Pk (Pk (Pk (Pk (Pk (Pk (Pk (Pk (Po rfl (AE rfl) rfl rfl (Pk Au)))))))))))))))
   refine Pf 16 rfl (BS rfl) (Pf 17 rfl (Af C5 rfl) ?_)
   refine An 18 rfl (by kernel_rfl) ?_
   refine AR (AK (((Ad.l0.comp AH.l1).comp (AS.arr (n := 9) Ak.fl (by first | omega | (rw [hI13]; first | exact hb.1 | exact hb.2) | (dsimp only; omega)) (by first | omega | (rw [hI13]; first | exact hb.1 | exact hb.2) | (dsimp only; omega)))).comp Ak.l3) rfl rfl rfl C3 rfl .h) ?_
   refine BK rfl ⟨?_, ?_⟩
   · exact (Pk (Pk (Pk (Pk (Pk (Pk (Pk (Pk (Pk (Pk (Pk (Pk (Pk (Pk (Pk (Pk (Pk Au)))))))))))))))))
   refine A2 (by kernel_rfl) ?_
   refine AB (.t4 0 7 8 9) ?_
   refine AT (AA ?_)
   refine Fh (fun _ => .h) (congrArg (fun q => Ad.enc ⟨q, _, _⟩) (AG.UN X hx.1 hx.2 c2)) ?_
   refine AI ?_
   refine Gt (Aw rfl rfl (IntWalk.i64_in _ (by first | omega | (rw [hI13]; first | exact hb.1 | exact hb.2) | (dsimp only; omega)))) ?_
   refine Gm rfl ?_
   refine AP (AB (.t4 0 7 8 9) ?_)
   refine DP (k + 1) _ ?_ ?_ (.t4 9 0 7 8) (.refl _)
   · exact ⟨by omega, by rw [hI12, AG.LO hI11 (by omega)], hI13, by omega⟩
   · omega
  have c2p := kz c2
  refine Aa ?_
  refine AB (.t5 0 4 7 8 9) ?_
  refine AA ?_
  refine BF (N := 19) [0, 0, 0, 0, 8, 24, 56, 4, 132, 388, 1020, 2044, 4092, 8189, 16381, 32765, 65535, 131071, 262143] mix (by kernel_rfl) rfl ?_
  refine Pf 0 rfl (AE rfl) (Pf 1 rfl (AE rfl) (Pf 2 rfl (AE rfl) (Pf 3 rfl (AE rfl) (Pf 4 rfl (BS rfl) (Pf 5 rfl (Af CL rfl) (Pf 6 rfl (AF rfl A1 .m0 Ad.l1 rfl rfl) (Pf 7 rfl (BS rfl) ?_)))))))
  refine Pf 8 rfl (Af A6 rfl) (Pf 9 rfl (Af Bi rfl) ?_)
  refine Pf 10 rfl (AQ Cy rfl rfl (by first | omega | (rw [hI13]; first | exact hb.1 | exact hb.2) | (dsimp only; omega)) (by first | omega | (rw [hI13]; first | exact hb.1 | exact hb.2) | (dsimp only; omega))) ?_
  refine Pf 11 rfl (Af Cx rfl) ?_
  refine Pf 12 rfl (AF rfl A1 .m0 (((Ad.l0.comp AH.l2).comp (AS.arr (n := 6) Al.fl (by first | omega | (rw [hI13]; first | exact hb.1 | exact hb.2) | (dsimp only; omega)) (by first | omega | (rw [hI13]; first | exact hb.1 | exact hb.2) | (dsimp only; omega)))).comp Al.l3) rfl rfl) ?_
  refine Pf 13 rfl (BS rfl) (Pf 14 rfl (Af E5 rfl) ?_)
  refine An 15 rfl (by kernel_rfl) ?_
  refine AR (AK (((Ad.l0.comp AH.l1).comp (AS.arr (n := 9) Ak.fl (by first | omega | (rw [hI13]; first | exact hb.1 | exact hb.2) | (dsimp only; omega)) (by first | omega | (rw [hI13]; first | exact hb.1 | exact hb.2) | (dsimp only; omega)))).comp Ak.l2) rfl rfl rfl C3 rfl .h) ?_
  refine BK rfl ⟨?_, ?_⟩
  · exact (Pk (Pk (Pk (Pk (Pk (Pk (Pk (Pk (Pk (Pk (Pk (Pk (Pk (Po rfl (AE rfl) rfl rfl (Pk Au)))))))))))))))
  refine Pf 16 rfl (BS rfl) (Pf 17 rfl (Af C5 rfl) ?_)
  refine An 18 rfl (by kernel_rfl) ?_
  refine AR (AK (((Ad.l0.comp AH.l1).comp (AS.arr (n := 9) Ak.fl (by first | omega | (rw [hI13]; first | exact hb.1 | exact hb.2) | (dsimp only; omega)) (by first | omega | (rw [hI13]; first | exact hb.1 | exact hb.2) | (dsimp only; omega)))).comp Ak.l3) rfl rfl rfl C3 rfl .h) ?_
  refine BK rfl ⟨?_, ?_⟩
  · exact (Pk (Pk (Pk (Pk (Pk (Pk (Pk (Pk (Pk (Pk (Pk (Pk (Pk (Pk (Pk (Pk (Pk Au)))))))))))))))))
  refine A2 (by kernel_rfl) ?_
  refine AB (.t4 0 7 8 9) ?_
  refine AT (AA ?_)
  refine Fh (fun _ => .h) (congrArg (fun q => Ad.enc ⟨q, _, _⟩) (AG.Tp X hx.1 hx.2 c2)) ?_
  refine AI ?_
  refine Gt (Aw rfl rfl (IntWalk.i64_in _ (by first | omega | (rw [hI13]; first | exact hb.1 | exact hb.2) | (dsimp only; omega)))) ?_
  refine Gm rfl ?_
  refine AP (AB (.t4 0 7 8 9) ?_)
  refine DP (k + 1) _ ?_ ?_ (.t4 9 0 7 8) (.refl _)
  · exact ⟨by omega, by rw [hI12, AG.LO hI11 (by omega)], hI13, by omega⟩
  · omega
 have c1p := kz c1
 obtain rfl : k = (T.own.length : Int) := by omega
 rw [AG.JE] at hI12
 have hY : X = T.Ck T.own := hI12.symm
 refine Ba (AV (AV (Ah ?_)))
 refine AB (.t1 0) ?_
 refine AA (CA (Gm rfl (AP (AA (Ae ?_)))))
 refine Bj (.t2 45 0) ?_
 refine G5 (fun (k : Int) (Y : AG) => 0 ≤ k ∧ k ≤ 6 ∧ Y = (T.Ck T.own).Dw k.toNat ∧ Y.b = T.b) (fun (k : Int) (Y : AG) => (6 - k).toNat) (fun (k : Int) (Y : AG) => [(45, .int .i64 k)]) (fun (k : Int) (Y : AG) => [Ac.box b 163 (Ad.enc ⟨Y.w, Y.b, g⟩)]) (0) (_) ?_ rfl rfl (fun k Y hI2 => ?_)
 · exact ⟨by omega, by omega, hY, hI13⟩
 obtain ⟨hI21, hI22, hI23, hI24⟩ := hI2
 refine Gs (Gt (A5 rfl rfl) (AP (AA (Ao ?_))))
 refine Gc (fun c3 => ?_) (fun c3 => ?_)
 ·
  have c3p := kz c3
  refine Aa ?_
  refine AB (.t2 0 45) ?_
  refine AA (Ao (Ae (Gs (Gm rfl (Ga rfl (Gn (.t3 0 5 45) (Ao ?_)))))))
  refine BF (N := 14) [0, 0, 1, 5, 13, 31, 63, 127, 0, 256, 768, 1792, 3840, 8191] mix (by kernel_rfl) rfl ?_
  refine Pf 0 rfl (AE rfl) (Pf 1 rfl (AE rfl) (Pf 2 rfl (BS rfl) (Pf 3 rfl (Af A6 rfl) (Pf 4 rfl (Af Bi rfl) ?_))))
  refine Pf 5 rfl (AQ Cy rfl rfl (by first | omega | (rw [hI13]; first | exact hb.1 | exact hb.2) | (dsimp only; omega)) (by first | omega | (rw [hI13]; first | exact hb.1 | exact hb.2) | (dsimp only; omega))) ?_
  refine Pf 6 rfl (Af Fi rfl) ?_
  refine Pf 7 rfl (AF rfl A1 .m0 (((Ad.l0.comp AH.l2).comp (AS.arr (n := 6) Al.fl (by first | omega | (rw [hI13]; first | exact hb.1 | exact hb.2) | (dsimp only; omega)) (by first | omega | (rw [hI13]; first | exact hb.1 | exact hb.2) | (dsimp only; omega)))).comp Al.l5) rfl rfl) ?_
  refine Pf 8 rfl (AE rfl) (Pf 9 rfl (BS rfl) (Pf 10 rfl (Af CL rfl) (Pf 11 rfl (AF rfl A1 .m0 Ad.l1 rfl rfl) ?_)))
  refine Pf 12 rfl (Aw rfl rfl (IntWalk.i64_in _ (by first | omega | (rw [hI13]; first | exact hb.1 | exact hb.2) | (dsimp only; omega)))) ?_
  refine Pf 13 rfl (Ai rfl rfl) ?_
  refine A2 (by kernel_rfl) ?_
  refine AB (.t4 0 5 45 61) ?_
  refine AA ?_
  refine Gc (fun c4 => ?_) (fun c4 => ?_)
  ·
   have c4p := kz c4
   have hcb : decide ((Y.w.AW.at k).B5 = (T.Ck T.own).b + 1) = true := by rw [(AG.ID T.own T).1, ← hI24]; exact c4
   refine AI (Gm rfl (Gm rfl (Gt (BS rfl) (Gt (Af A6 rfl) (Gt (Af Bi rfl) ?_)))))
   refine Gt (AQ Cy rfl rfl (by first | omega | (rw [hI13]; first | exact hb.1 | exact hb.2) | (dsimp only; omega)) (by first | omega | (rw [hI13]; first | exact hb.1 | exact hb.2) | (dsimp only; omega))) ?_
   refine Gt (Af Fi rfl) ?_
   refine AR (AK (((Ad.l0.comp AH.l2).comp (AS.arr (n := 6) Al.fl (by first | omega | (rw [hI13]; first | exact hb.1 | exact hb.2) | (dsimp only; omega)) (by first | omega | (rw [hI13]; first | exact hb.1 | exact hb.2) | (dsimp only; omega)))).comp Al.l5) rfl rfl rfl C3 rfl .h) ?_
   refine AP (AB (.t2 0 45) ?_)
   refine AT (AA (AI ?_))
   refine Gt (Aw rfl rfl (IntWalk.i64_in _ (by first | omega | (rw [hI13]; first | exact hb.1 | exact hb.2) | (dsimp only; omega)))) ?_
   refine Gm rfl ?_
   refine AP (AB (.t2 0 45) ?_)
   refine DP (k + 1) (Y.DV k 0) ?_ ?_ (.t2 45 0) (.refl _)
   · exact ⟨by omega, by omega, by rw [AG.OB hI21, ← hI23, BB hcb], hI24⟩
   · omega
  have c4p := kz c4
  have hcb : decide ((Y.w.AW.at k).B5 = (T.Ck T.own).b + 1) = false := by rw [(AG.ID T.own T).1, ← hI24]; exact c4
  refine Aa ?_
  refine AB (.t2 0 45) ?_
  refine AT (AA (AI ?_))
  refine Gt (Aw rfl rfl (IntWalk.i64_in _ (by first | omega | (rw [hI13]; first | exact hb.1 | exact hb.2) | (dsimp only; omega)))) ?_
  refine Gm rfl ?_
  refine AP (AB (.t2 0 45) ?_)
  refine DP (k + 1) (Y) ?_ ?_ (.t2 45 0) (.refl _)
  · exact ⟨by omega, by omega, by rw [AG.OB hI21, ← hI23, AU hcb], hI24⟩
  · omega
 have c3p := kz c3
 obtain rfl : k = 6 := by omega
 refine Ba (AV (AV (Ah ?_)))
 refine AB (.t1 0) ?_
 refine AA ?_
 refine BF (N := 11) [0, 0, 2, 6, 14, 1, 33, 97, 255, 511, 1023] mix (by kernel_rfl) rfl ?_
 refine Pf 0 rfl (AE rfl) (Pf 1 rfl (AE rfl) (Pf 2 rfl (BS rfl) (Pf 3 rfl (Af CL rfl) (Pf 4 rfl (AF rfl A1 .m0 Ad.l1 rfl rfl) (Pf 5 rfl (BS rfl) (Pf 6 rfl (Af A6 rfl) (Pf 7 rfl (Af Bi rfl) ?_)))))))
 refine Pf 8 rfl (AQ Cy rfl rfl (by first | omega | (rw [hI13]; first | exact hb.1 | exact hb.2) | (dsimp only; omega)) (by first | omega | (rw [hI13]; first | exact hb.1 | exact hb.2) | (dsimp only; omega))) ?_
 refine Pf 9 rfl (Af Fi rfl) ?_
 refine An 10 rfl (by kernel_rfl) ?_
 refine AR (AK (((Ad.l0.comp AH.l2).comp (AS.arr (n := 6) Al.fl (by first | omega | (rw [hI13]; first | exact hb.1 | exact hb.2) | (dsimp only; omega)) (by first | omega | (rw [hI13]; first | exact hb.1 | exact hb.2) | (dsimp only; omega)))).comp Al.l5) rfl rfl rfl C3 rfl .h) ?_
 refine BK rfl ⟨?_, ?_⟩
 · exact (Pk (Pk (Pk (Pk (Pk (Pk (Pk (Pk (Pk (Pk Au))))))))))
 refine A2 (by kernel_rfl) ?_
 refine Bf rfl .n ?_
 intro w1 hS
 have hS := (hS.perm (Av.perm (.c .h .n))).Ay
 have hq : T.GC = Y.DV Y.b 0 := by rw [hI24, hI23]; unfold AG.GC; rfl
 exact ⟨_, ⟨_, rfl, rfl, by rw [hq, ← hI24]; rfl⟩, hS⟩
theorem QQ (b : Nat) (T : AG) (g : Hd) (hg : g.len = T.out.length) (hF : T.Fit) (hn : T.out.length ≤ 90000) : IP Tryz.prog 103 #[.pointer (some ⟨b, 0, none⟩)] [Ac.box b 163 (Ad.enc ⟨T.w, T.b, g⟩), Ac.own g 56 16 (T.out.flatMap Ing.Event.enc)] (fun v B => ∃ g' : Hd, v = .tuple #[] ∧ g'.len = (T.LB).out.length ∧ B = [Ac.box b 163 (Ad.enc ⟨(T.LB).w, (T.LB).b, g'⟩), Ac.own g' 56 16 ((T.LB).out.flatMap Ing.Event.enc)]) := by
 intro w hS0
 have hb := hF.b
 have hr := hF.room
 refine Aj _ _ Tryz.func103 rfl rfl rfl (hS0) ?_
 refine Gs (Gm rfl ?_)
 refine Ag rfl S1 (.c rfl (.c rfl .n)) (.c .h (.c .h .n)) (Ft _ T _ 18 hg hb (by omega)) (fun v1 B hv => ?_)
 obtain ⟨y2, rfl, y3, rfl⟩ := hv
 refine Gn (.t1 0) (Gs (Gm rfl ?_))
 refine Ag rfl YF (.c rfl .n) (.c .h .n) (Kz _ (T.kind 18) _ (hF.PW rfl rfl)) (fun v4 B hv => ?_)
 obtain ⟨y5, y6, rfl, rfl⟩ := hv
 refine Gn (.t1 0) ?_
 refine BF (N := 11) [0, 0, 2, 6, 14, 0, 1, 65, 193, 511, 1023] mix (by kernel_rfl) rfl ?_
 refine Pf 0 rfl (AE rfl) (Pf 1 rfl (AE rfl) (Pf 2 rfl (BS rfl) (Pf 3 rfl (Af CL rfl) (Pf 4 rfl (AF rfl A1 .m0 Ad.l1 rfl rfl) (Pf 5 rfl (A9 U9 LM rfl .nil) (Pf 6 rfl (BS rfl) (Pf 7 rfl (Af A6 rfl) ?_)))))))
 refine Pf 8 rfl (Af Bi rfl) ?_
 refine Pf 9 rfl (AQ Cy rfl rfl (by first | exact hb.1 | exact hb.2 | omega | (dsimp only; omega)) (by first | exact hb.1 | exact hb.2 | omega | (dsimp only; omega))) ?_
 refine An 10 rfl (by kernel_rfl) ?_
 refine AR (AK ((Ad.l0.comp AH.l2).comp (AS.arr (n := 6) Al.fl (by first | exact hb.1 | exact hb.2 | omega | (dsimp only; omega)) (by first | exact hb.1 | exact hb.2 | omega | (dsimp only; omega)))) rfl rfl rfl Jm rfl .h) ?_
 refine BK rfl ⟨?_, ?_⟩
 · exact (Pk (Pk (Pk (Pk (Pk (Pk (Pk (Pk (Pk (Pk Au))))))))))
 refine A2 (by kernel_rfl) ?_
 refine Bf rfl .n ?_
 intro w1 hS
 have hS := (hS.perm (Av.perm (.c .h (.c .h .n)))).Ay
 obtain ⟨hf1, hf2, hf3⟩ := T.VS
 refine ⟨_, ⟨?gq, rfl, ?hl, ?hB⟩, hS⟩
 case hB => rw [hf1, hf2, hf3, ← y6]
 case hl => rw [hf2]; exact y3
theorem Hp (b : Nat) (T : AG) (g : Hd) (u : As) (hg : g.len = T.out.length) (hF : T.Fit) (hu : u.length ≤ 5000000) (hn : T.out.length ≤ 99000) : Eu Tryz.prog 131 #[.pointer (some ⟨b, 0, none⟩), BP u] [Ac.box b 163 (Ad.enc ⟨T.w, T.b, g⟩), Ac.own g 56 16 (T.out.flatMap Ing.Event.enc)] (fun w => (GG 7 w ∧ 7 ∉ CW [Ac.box b 163 (Ad.enc ⟨T.w, T.b, g⟩), Ac.own g 56 16 (T.out.flatMap Ing.Event.enc)]) ∧ (GG 8 w ∧ 8 ∉ CW [Ac.box b 163 (Ad.enc ⟨T.w, T.b, g⟩), Ac.own g 56 16 (T.out.flatMap Ing.Event.enc)])) (fun v B => ∃ g' : Hd, v = .tuple #[.int .i64 (T.BN u).2.1, .bool (T.BN u).2.2] ∧ g'.len = ((T.BN u).1).out.length ∧ B = [Ac.box b 163 (Ad.enc ⟨((T.BN u).1).w, ((T.BN u).1).b, g'⟩), Ac.own g' 56 16 (((T.BN u).1).out.flatMap Ing.Event.enc)]) := by
 intro w hS0 hH
 obtain ⟨⟨gl0, gm0⟩, ⟨gl1, gm1⟩⟩ := hH
 have hb := hF.b
 have hr := hF.room
 refine Aj _ _ Tryz.func131 rfl rfl rfl (hS0) ?_
 refine Gs (Ga rfl (Ga rfl (Gn (.t2 0 1) (Gs (Gm rfl ?_)))))
 refine A8 rfl Tc (.c rfl .n) (fun w hS => E2 _ (by first | assumption | omega) w (gl0.stM gm0 hS) (gl1.stM gm1 hS)) ?_
 refine Gm rfl (Gt (AM rfl rfl) (Gt (AM rfl rfl) (Gt (AM rfl rfl) (Gt (AM rfl rfl) (Ga rfl (Ga rfl (Ga rfl ?_)))))))
 refine Ga rfl (Gn (.t5 0 6 7 8 9) (CA (Gm rfl (Gt (Ai rfl rfl) (Gm rfl (BZ 20 rfl rfl (fun q => AE rfl) (BZ 20 rfl rfl (fun q => BO (BV rfl q)) ?_)))))))
 refine Gt (BH rfl rfl (fun h => h)) (Gn (.t4 0 6 7 23) ?_)
 refine Gc (fun c1 => ?_) (fun c1 => ?_)
 ·
  have c1p := kz c1
  have hnf := Words.Uh u (of_decide_eq_true (Bool.and_eq_true_iff.1 c1).1)
  refine Gs (Gm rfl (Gn (.t4 0 6 7 24) (Ae ?_)))
  refine Bj (.t4 6 24 0 7) ?_
  refine G5 (fun (k : Int) (n : Int) => 0 ≤ k ∧ k ≤ 6 ∧ T.Hs (Words.D5 u).2.1 6 (Words.D5 u).1 = T.Hs (Words.D5 u).2.1 (6 - k).toNat n ∧ -k ≤ n ∧ n ≤ 99) (fun (k : Int) (n : Int) => (6 - k).toNat) (fun (k : Int) (n : Int) => [(6, .int .i64 n), (24, .int .i64 k)]) (fun (k : Int) (n : Int) => []) (0) (_) ?_ rfl rfl (fun k n hI1 => ?_)
  · exact ⟨by omega, by omega, rfl, by omega, by omega⟩
  obtain ⟨hI11, hI12, hI13, hI14, hI15⟩ := hI1
  refine Gs (Gt (A5 rfl rfl) (AP (AA (Ao ?_))))
  refine Gc (fun c2 => ?_) (fun c2 => ?_)
  ·
   have c2p := kz c2
   refine Aa ?_
   refine AB (.t4 0 6 7 24) ?_
   refine AA (Ao (Ae (Gs (Gm rfl (Ga rfl (Gn (.t5 0 6 7 10 24) (Ao ?_)))))))
   refine Ao ?_
   refine BF (N := 31) [0, 0, 2, 6, 14, 31, 63, 127, 127, 255, 767, 1791, 4095, 8191, 16383, 127, 65535, 131071, 262143, 524287, 1048575, 2097151, 4194303, 524287, 8912895, 25690111, 59244543, 524287, 268435455, 536870911, 1073741823] mix (by kernel_rfl) rfl ?_
   refine Pf 0 rfl (AE rfl) (Pf 1 rfl (AE rfl) (Pf 2 rfl (BS rfl) (Pf 3 rfl (Af CL rfl) (Pf 4 rfl (AF rfl A1 .m0 Ad.l1 rfl rfl) (Pf 5 rfl (Ai rfl rfl) (Pf 6 rfl (AE rfl) (HA 7 33 rfl rfl rfl (fun q => AE rfl) ?_)))))))
   refine HA 8 33 rfl rfl rfl (fun q => AE rfl) (HA 9 33 rfl rfl rfl (fun q => BS (cF rfl q)) (HA 10 33 rfl rfl rfl (fun q => Af A6 (cF rfl q)) (HA 11 33 rfl rfl rfl (fun q => Af Bi (cF rfl q)) ?_)))
   refine BX 12 rfl rfl (by kernel_rfl) (GU (t := 33) rfl rfl (fun q => by have q1 := q; (try simp at q1); exact IE (AQ Cy (cF rfl q) (cF rfl q) (by first | omega | exact hb.1 | exact hb.2 | (dsimp only; omega)) (by first | omega | exact hb.1 | exact hb.2 | (dsimp only; omega))))) ?_
   refine HA 13 33 rfl rfl rfl (fun q => Af Kc (cF rfl q)) ?_
   refine BX 14 rfl rfl (by kernel_rfl) (GU (t := 33) rfl rfl (fun q => by have q1 := q; (try simp at q1); exact IE (AF (cF rfl q) CB .m0 (((Ad.l0.comp AH.l2).comp (AS.ar (n := 6) Al.fl (by first | omega | exact hb | (dsimp only; omega)))).comp Al.l0) rfl rfl))) ?_
   refine HA 15 33 rfl rfl rfl (fun q => AE rfl) (HA 16 33 rfl rfl rfl (fun q => DW (cF rfl q) (cF rfl q)) ?_)
   refine Pf 17 rfl (BR rfl rfl (fun h => by rw [h]; rfl)) ?_
   refine Pf 18 rfl (AE rfl) (HA 19 45 rfl rfl rfl (fun q => AE rfl) (HA 20 45 rfl rfl rfl (fun q => BS (cF rfl q)) (HA 21 45 rfl rfl rfl (fun q => Af A6 (cF rfl q)) (HA 22 45 rfl rfl rfl (fun q => AZ (cF rfl q) BT .m0 Ad.l0 rfl) (HA 23 45 rfl rfl rfl (fun q => AE rfl) (HA 24 45 rfl rfl rfl (fun q => BS (cF rfl q)) (HA 25 45 rfl rfl rfl (fun q => Af CL (cF rfl q)) ?_)))))))
   refine HA 26 45 rfl rfl rfl (fun q => AF (cF rfl q) A1 .m0 Ad.l1 rfl rfl) (HA 27 45 rfl rfl rfl (fun q => AE rfl) ?_)
   refine BX 28 rfl rfl (by kernel_rfl) (GU (t := 45) rfl rfl (fun q => by have q1 := q; (try simp at q1); exact KX (Dr Mm (.c (cF rfl q) (.c (cF rfl q) (.c (cF rfl q) .n))) (fun w hS => DB _ _ _ w)))) ?_
   refine HA 29 45 rfl rfl rfl (fun q => BO (cF rfl q)) ?_
   refine Pf 30 rfl (BR rfl rfl (fun h => by rw [h]; rfl)) ?_
   refine A2 (by kernel_rfl) ?_
   refine AB (.t6 0 6 7 10 24 57) ?_
   refine AA ?_
   refine Gc (fun c3 => ?_) (fun c3 => ?_)
   ·
    have c3p := kz c3
    refine Ba (AV (Ah ?_))
    refine AB (.t4 0 6 7 24) ?_
    refine AA (AI ?_)
    refine Gt (Aw rfl rfl (IntWalk.i64_in _ (by first | omega | exact hb.1 | exact hb.2 | (dsimp only; omega)))) ?_
    refine Gm rfl ?_
    refine AP (AB (.t4 0 6 7 24) ?_)
    refine DP (k + 1) (n) ?_ ?_ (.t4 6 24 0 7) (.refl _)
    · exact ⟨by omega, by omega, by rw [hI13, AG.KM hI11 (by omega), BB c3], by omega, by omega⟩
    · omega
   have c3p := kz c3
   refine Aa ?_
   refine AB (.t5 0 6 7 10 24) ?_
   refine AA (Gs (Gm rfl ?_))
   refine Gt (E6 rfl rfl (IntWalk.i64_in _ (by first | omega | exact hb.1 | exact hb.2 | (dsimp only; omega)))) ?_
   refine Ga rfl (Gn (.t5 0 6 7 10 24) (Gs (Gm rfl (Gt (Ai rfl rfl) (Gn (.t6 0 6 7 10 24 61) ?_)))))
   refine Gc (fun c4 => ?_) (fun c4 => ?_)
   ·
    have c4p := kz c4
    refine Gs (Gm rfl (Ga rfl (Ga rfl (Gn (.t2 4 5) (Ab (AO (AD ?_)))))))
    refine AD (AO (AD ?_))
    refine AY rfl (.tmp rfl (.tmp rfl .n)) ?_
    intro w1 hS
    have hS := (hS.perm (Av.perm (.c .h (.c .h .n)))).Ay
    have hs : T.Hs (Words.D5 u).2.1 6 (Words.D5 u).1 = some k := by rw [hI13, AG.KM hI11 (by omega), AU c3, BB c4]
    have hq : T.BN u = (T, k, true) := (show T.BN u = _ from BB c1).trans (by simp only [hs])
    refine ⟨_, ⟨?gq1, ?hv1, ?hl1, ?hB1⟩, hS⟩
    case hB1 => rw [hq]; (try rfl)
    case hv1 => rw [hq]; (try rfl)
    case hl1 => rw [hq]; assumption
   have c4p := kz c4
   refine Aa ?_
   refine AB (.t4 0 6 7 24) ?_
   refine AT (AA (AI ?_))
   refine Gt (Aw rfl rfl (IntWalk.i64_in _ (by first | omega | exact hb.1 | exact hb.2 | (dsimp only; omega)))) ?_
   refine Gm rfl ?_
   refine AP (AB (.t4 0 6 7 24) ?_)
   refine DP (k + 1) (n - 1) ?_ ?_ (.t4 6 24 0 7) (.refl _)
   · exact ⟨by omega, by omega, by rw [hI13, AG.KM hI11 (by omega), AU c3, AU c4], by omega, by omega⟩
   · omega
  have c2p := kz c2
  obtain rfl : k = 6 := by omega
  refine Ba (AV (AV (Ah ?_)))
  refine AB (.t1 0) ?_
  refine AA (Gs (Gm rfl ?_))
  refine Ag rfl Dx (.c rfl (.c rfl .n)) (.c .h (.c .h .n)) (Bb _ _ _ _ hg hb (by omega)) (fun v1 B hv => ?_)
  obtain ⟨y2, rfl, y3, rfl⟩ := hv
  refine Gn (.nil _) (Gs (Ga rfl (Ga rfl (AP (AA (Ab ?_))))))
  refine AY rfl (.tmp rfl (.tmp rfl .n)) ?_
  intro w1 hS
  have hS := (hS.perm (Av.perm (.c .h (.c .h .n)))).Ay
  have hs : T.Hs (Words.D5 u).2.1 6 (Words.D5 u).1 = none := by rw [hI13]; rfl
  have hq : T.BN u = (T.tell AG.Mx, 0, false) := (show T.BN u = _ from BB c1).trans (by simp only [hs])
  refine ⟨_, ⟨?gq2, ?hv2, ?hl2, ?hB2⟩, hS⟩
  case hB2 => rw [hq]; (try rfl)
  case hv2 => rw [hq]; (try rfl)
  case hl2 => rw [hq]; assumption
 have c1p := kz c1
 refine Aa ?_
 refine AB (.t1 0) ?_
 refine AA (Gs (Gm rfl ?_))
 refine Ag rfl Dx (.c rfl (.c rfl .n)) (.c .h (.c .h .n)) (Bb _ _ _ _ hg hb (by omega)) (fun v4 B hv => ?_)
 obtain ⟨y5, rfl, y6, rfl⟩ := hv
 refine Gn (.nil _) (Gs (Ga rfl (Ga rfl (AP (AA (Ab ?_))))))
 refine AY rfl (.tmp rfl (.tmp rfl .n)) ?_
 intro w1 hS
 have hS := (hS.perm (Av.perm (.c .h (.c .h .n)))).Ay
 have hq : T.BN u = (T.tell AG.Mx, 0, false) := AU c1
 refine ⟨_, ⟨?gq3, ?hv3, ?hl3, ?hB3⟩, hS⟩
 case hB3 => rw [hq]; (try rfl)
 case hv3 => rw [hq]; (try rfl)
 case hl3 => rw [hq]; assumption
theorem OO (b : Nat) (T : AG) (g : Hd) (o : Order) (hg : g.len = T.out.length) (hF : T.Fit) (hm : o.name.length ≤ 5000000) (hn : T.out.length ≤ 90000) : Eu Tryz.prog 104 #[.pointer (some ⟨b, 0, none⟩), .agg o.enc.toArray] [Ac.box b 163 (Ad.enc ⟨T.w, T.b, g⟩), Ac.own g 56 16 (T.out.flatMap Ing.Event.enc)] (fun w => (GG 7 w ∧ 7 ∉ CW [Ac.box b 163 (Ad.enc ⟨T.w, T.b, g⟩), Ac.own g 56 16 (T.out.flatMap Ing.Event.enc)]) ∧ (GG 8 w ∧ 8 ∉ CW [Ac.box b 163 (Ad.enc ⟨T.w, T.b, g⟩), Ac.own g 56 16 (T.out.flatMap Ing.Event.enc)])) (fun v B => ∃ g' : Hd, v = .tuple #[] ∧ g'.len = (T.GS o).out.length ∧ B = [Ac.box b 163 (Ad.enc ⟨(T.GS o).w, (T.GS o).b, g'⟩), Ac.own g' 56 16 ((T.GS o).out.flatMap Ing.Event.enc)]) := by
 intro w hS0 hH
 obtain ⟨⟨gl0, gm0⟩, ⟨gl1, gm1⟩⟩ := hH
 have hb := hF.b
 have hr := hF.room
 have hsr := T.K5 (if (!decide (o.nth = 1) || o.Bl) = true then [] else o.name)
 have hsb : 0 ≤ (T.BN (if (!decide (o.nth = 1) || o.Bl) = true then [] else o.name)).1.b ∧ (T.BN (if (!decide (o.nth = 1) || o.Bl) = true then [] else o.name)).1.b < 6 := by rw [(T.N2 _).2]; exact hb
 refine Aj _ _ Tryz.func104 rfl rfl rfl (hS0) ?_
 refine Gs ?_
 refine Bu rfl rfl rfl (fun b1 => ?_)
 refine Gn (.t2 0 3) (Gs (Gt (Af FQ rfl) (Gt (AF rfl CB .m0 Order.l3 rfl rfl) (Ga rfl (Gn (.t3 0 3 4) (CA (Gt (Af Fx rfl) ?_)))))))
 refine Gt (AF rfl A1 .m0 Order.l1 rfl rfl) (Gt (CK rfl rfl) (Gm rfl (BW 12 rfl rfl (fun q => Af Ge rfl) (BW 12 rfl rfl (fun q => AF (cF rfl q) Ct .m0 Order.l2 rfl rfl) ?_))))
 refine Gt (BR rfl rfl (fun h => by rw [h]; rfl)) ?_
 refine Gn (.t3 0 4 15) ?_
 refine PY (BP) (s := (if (!decide (o.nth = 1) || o.Bl) = true then [] else o.name)) rfl rfl rfl rfl rfl ?_
 refine AB (.t2 0 4) ?_
 refine AA (Gs (Gm rfl (Gm rfl ?_)))
 refine BD rfl YH (.c rfl (.c rfl .n)) (.c (.t .h) (.c (.t .h) .n)) (Hp _ T _ _ hg hF (by split <;> (try simp) <;> omega) (by omega)) (fun w hS => ⟨gl0.pull gm0 hS (.c (.t .h) (.c (.t .h) .n)), gl1.pull gm1 hS (.c (.t .h) (.c (.t .h) .n))⟩) (fun v1 B hv => ?_)
 obtain ⟨y2, rfl, y3, rfl⟩ := hv
 refine Gm rfl (Gt (AM rfl rfl) (Gt (AM rfl rfl) (Ga rfl (Ga rfl (Gn (.t3 0 5 6) (CA (Gm rfl ?_)))))))
 refine Gt (BO rfl) (Gn (.t3 0 5 23) ?_)
 refine Gc (fun c1 => ?_) (fun c1 => ?_)
 ·
  have c1p := kz c1
  refine Ab (AD ?_)
  refine AY rfl .n ?_
  intro w1 hS
  have hS := (hS.perm (Av.perm (.c .h (.c .h .n)))).Ay
  have hq : T.GS o = _ := BB c1
  refine ⟨_, ⟨?gq1, rfl, ?hl1, ?hB1⟩, hS⟩
  case hB1 => rw [hq]; (try rfl)
  case hl1 => rw [hq]; assumption
 have c1p := kz c1
 refine Aa ?_
 refine AB (.t2 0 5) ?_
 refine AA (Ao ?_)
 refine BF (N := 13) [0, 0, 2, 6, 14, 0, 32, 1, 129, 385, 1023, 2047, 4095] mix (by kernel_rfl) rfl ?_
 refine Pf 0 rfl (AE rfl) (Pf 1 rfl (AE rfl) (Pf 2 rfl (BS rfl) (Pf 3 rfl (Af CL rfl) (Pf 4 rfl (AF rfl A1 .m0 Ad.l1 rfl rfl) (Pf 5 rfl (AE rfl) ?_)))))
 refine Pf 6 rfl (Aw rfl rfl (IntWalk.i64_in _ (by first | omega | exact hsb.1 | exact hsb.2 | (dsimp only; omega)))) ?_
 refine Pf 7 rfl (BS rfl) (Pf 8 rfl (Af A6 rfl) (Pf 9 rfl (Af Bi rfl) ?_))
 refine Pf 10 rfl (AQ Cy rfl rfl (by first | omega | exact hsb.1 | exact hsb.2 | (dsimp only; omega)) (by first | omega | exact hsb.1 | exact hsb.2 | (dsimp only; omega))) ?_
 refine Pf 11 rfl (Af Fi rfl) ?_
 refine An 12 rfl (by kernel_rfl) ?_
 refine AR (AK (((Ad.l0.comp AH.l2).comp (AS.ar (n := 6) Al.fl (by first | omega | exact hsb | (dsimp only; omega)))).comp Al.l5) rfl rfl rfl C3 rfl .h) ?_
 refine BK rfl ⟨?_, ?_⟩
 · exact (Pk (Pk (Pk (Pk (Pk (Pk (Pk (Pk (Pk (Pk (Pk (Pk Au))))))))))))
 refine A2 (by kernel_rfl) ?_
 refine AB (.t2 0 5) ?_
 refine AA (CA (Gm rfl (Gm rfl (Gt (BS rfl) (Gt (Af A6 rfl) (Gt (Af Bi rfl) ?_))))))
 refine Gt (AQ Cy rfl rfl (by first | omega | exact hsb.1 | exact hsb.2 | (dsimp only; omega)) (by first | omega | exact hsb.1 | exact hsb.2 | (dsimp only; omega))) ?_
 refine Gt (Af Fi rfl) ?_
 refine Gt (AF rfl A1 .m0 (((Ad.l0.comp AH.l2).comp (AS.ar (n := 6) Al.fl (by first | omega | exact hsb | (dsimp only; omega)))).comp Al.l5) rfl rfl) ?_
 refine Gt (Ai rfl rfl) (Gn (.t3 0 5 44) ?_)
 refine Gc (fun c2 => ?_) (fun c2 => ?_)
 ·
  have c2p := kz c2
  refine BF (N := 13) [0, 0, 0, 4, 12, 28, 60, 1, 129, 385, 1023, 2047, 4095] mix (by kernel_rfl) rfl ?_
  refine Pf 0 rfl (AE rfl) (Pf 1 rfl (AE rfl) (Pf 2 rfl (AE rfl) (Pf 3 rfl (BS rfl) (Pf 4 rfl (Af CL rfl) (Pf 5 rfl (AF rfl A1 .m0 Ad.l1 rfl rfl) ?_)))))
  refine Pf 6 rfl (Aw rfl rfl (IntWalk.i64_in _ (by first | omega | exact hsb.1 | exact hsb.2 | (dsimp only; omega)))) ?_
  refine Pf 7 rfl (BS rfl) (Pf 8 rfl (Af A6 rfl) (Pf 9 rfl (Af Bi rfl) ?_))
  refine Pf 10 rfl (AQ Cy rfl rfl (by first | omega | exact hsb.1 | exact hsb.2 | (dsimp only; omega)) (by first | omega | exact hsb.1 | exact hsb.2 | (dsimp only; omega))) ?_
  refine Pf 11 rfl (Af Fi rfl) ?_
  refine An 12 rfl (by kernel_rfl) ?_
  refine AR (AK (((Ad.l0.comp AH.l2).comp (AS.ar (n := 6) Al.fl (by first | omega | exact hsb | (dsimp only; omega)))).comp Al.l5) rfl rfl rfl C3 rfl .h) ?_
  refine BK rfl ⟨?_, ?_⟩
  · exact (Pk (Pk (Pk (Pk (Pk (Pk (Pk (Pk (Pk (Pk (Pk (Pk Au))))))))))))
  refine A2 (by kernel_rfl) ?_
  refine AB (.t1 0) ?_
  refine AA (AI (Gm rfl ?_))
  refine Ag rfl Dx (.c rfl (.c rfl .n)) (.c .h (.c .h .n)) (Bb _ (AG.DV (AG.DV (T.BN (if (!decide (o.nth = 1) || o.Bl) = true then [] else o.name)).1 (T.BN (if (!decide (o.nth = 1) || o.Bl) = true then [] else o.name)).1.b ((T.BN (if (!decide (o.nth = 1) || o.Bl) = true then [] else o.name)).2.1 + 1)) (T.BN (if (!decide (o.nth = 1) || o.Bl) = true then [] else o.name)).2.1 ((T.BN (if (!decide (o.nth = 1) || o.Bl) = true then [] else o.name)).1.b + 1)) _ _ (by assumption) hsb (by show (T.BN (if (!decide (o.nth = 1) || o.Bl) = true then [] else o.name)).1.out.length ≤ 100000; have := T.GY (if (!decide (o.nth = 1) || o.Bl) = true then [] else o.name); omega)) (fun v4 B hv => ?_)
  obtain ⟨y5, rfl, y6, rfl⟩ := hv
  refine AP ?_
  refine Bf rfl .n ?_
  intro w1 hS
  have hS := (hS.perm (Av.perm (.c .h (.c .h .n)))).Ay
  have hq : T.GS o = _ := (show T.GS o = _ from AU c1).trans (congrArg (fun q => AG.tell q AG.P3) (BB c2))
  refine ⟨_, ⟨?gq2, rfl, ?hl2, ?hB2⟩, hS⟩
  case hB2 => rw [hq]; (try rfl)
  case hl2 => rw [hq]; assumption
 have c2p := kz c2
 refine Aa ?_
 refine AB (.t1 0) ?_
 refine AA (AI (Gm rfl ?_))
 refine Ag rfl Dx (.c rfl (.c rfl .n)) (.c .h (.c .h .n)) (Bb _ (AG.DV (T.BN (if (!decide (o.nth = 1) || o.Bl) = true then [] else o.name)).1 (T.BN (if (!decide (o.nth = 1) || o.Bl) = true then [] else o.name)).1.b ((T.BN (if (!decide (o.nth = 1) || o.Bl) = true then [] else o.name)).2.1 + 1)) _ _ (by assumption) hsb (by show (T.BN (if (!decide (o.nth = 1) || o.Bl) = true then [] else o.name)).1.out.length ≤ 100000; have := T.GY (if (!decide (o.nth = 1) || o.Bl) = true then [] else o.name); omega)) (fun v7 B hv => ?_)
 obtain ⟨y8, rfl, y9, rfl⟩ := hv
 refine AP ?_
 refine Bf rfl .n ?_
 intro w1 hS
 have hS := (hS.perm (Av.perm (.c .h (.c .h .n)))).Ay
 have hq : T.GS o = _ := (show T.GS o = _ from AU c1).trans (congrArg (fun q => AG.tell q AG.P3) (AU c2))
 refine ⟨_, ⟨?gq3, rfl, ?hl3, ?hB3⟩, hS⟩
 case hB3 => rw [hq]; (try rfl)
 case hl3 => rw [hq]; assumption
theorem IZ (b : Nat) (T : AG) (g : Hd) (hF : T.Fit) : IP Tryz.prog 132 #[.pointer (some ⟨b, 0, none⟩)] [Ac.box b 163 (Ad.enc ⟨T.w, T.b, g⟩)] (fun v B => ∃ f : Hd, v = f.val ∧ f.len = (T.seen).length ∧ B = [Ac.box b 163 (Ad.enc ⟨T.w, T.b, g⟩), Ac.own f 3 1 ((T.seen).flatMap Ax)]) := by
 intro w hS0
 have hb := hF.b
 have hr := hF.room
 refine Aj _ _ Tryz.func132 rfl rfl rfl (hS0) ?_
 refine Gs (Ga rfl (Gn (.t1 0) (Ao ?_)))
 refine BF (N := 12) [0, 0, 2, 6, 14, 1, 33, 97, 255, 511, 1023, 2047] mix (by kernel_rfl) rfl ?_
 refine Pf 0 rfl (AE rfl) (Pf 1 rfl (AE rfl) (Pf 2 rfl (BS rfl) (Pf 3 rfl (Af CL rfl) (Pf 4 rfl (AF rfl A1 .m0 Ad.l1 rfl rfl) (Pf 5 rfl (BS rfl) (Pf 6 rfl (Af A6 rfl) (Pf 7 rfl (Af Bi rfl) ?_)))))))
 refine Pf 8 rfl (AQ Cy rfl rfl (by first | omega | exact hb.1 | exact hb.2 | (dsimp only; omega)) (by first | omega | exact hb.1 | exact hb.2 | (dsimp only; omega))) ?_
 refine Pf 9 rfl (Af Cx rfl) ?_
 refine Pf 10 rfl (AF rfl A1 .m0 (((Ad.l0.comp AH.l2).comp (AS.ar (n := 6) Al.fl (by first | omega | exact hb | (dsimp only; omega)))).comp Al.l3) rfl rfl) ?_
 refine Pf 11 rfl (Az rfl) ?_
 refine A2 (by kernel_rfl) ?_
 refine AB (.t2 0 3) ?_
 refine AA (CA (Gm rfl (Gt (BS rfl) (Gt (Af A6 rfl) (Gt (AZ rfl BT .m0 Ad.l0 rfl) (Gm rfl ?_))))))
 refine A8 rfl Sy (.c rfl (.c rfl .n)) (fun w hS => EH _ _ w) ?_
 refine Gt (BO rfl) (Gn (.t3 0 3 21) ?_)
 refine Gc (fun c1 => ?_) (fun c1 => ?_)
 ·
  refine Gs (Ga rfl (Gn (.t1 2) (Ab (AD ?_))))
  refine AY rfl (.tmp rfl .n) ?_
  intro w1 hS
  have hS := hS.Cj 3 1
  have hS := (hS.perm (Av.perm (.c (.t .h) (.c .h .n)))).Ay
  have hq : T.seen = _ := BB c1
  exact ⟨_, ⟨⟨none, 0, 0⟩, rfl, by rw [hq]; rfl, by rw [hq]; rfl⟩, hS⟩
 have c1p := kz c1
 refine Aa ?_
 refine AB (.t2 0 3) ?_
 refine AA (Gs (Gm rfl (Gt (BS rfl) (Gt (Af A6 rfl) (Gt (AZ rfl BT .m0 Ad.l0 rfl) (Gm rfl ?_))))))
 refine Ag rfl Q7 (.c rfl (.c rfl (.c rfl .n))) .n (Ex _ _ _) (fun v2 B hv => ?_)
 obtain ⟨y3, rfl, y4, rfl⟩ := hv
 refine Ga rfl (Gn (.t1 2) (Ab ?_))
 refine AY rfl (.tmp rfl .n) ?_
 intro w1 hS
 have hS := (hS.perm (Av.perm (.c (.t .h) (.c .h .n)))).Ay
 have hq : T.seen = _ := (AU c1)
 exact ⟨_, ⟨_, rfl, by rw [hq]; first | rfl | assumption, by rw [hq]; rfl⟩, hS⟩
theorem En (b : Nat) (T : AG) (g : Hd) (f : Hd) (l : List Int) (z : Int) (u : As) (a : Bool) (hF : T.Fit) (hf : f.len = l.length) (hl : l.length ≤ 100) (hi : ∀ i ∈ l, 0 ≤ i ∧ i < 9) : IP Tryz.prog 134 #[.pointer (some ⟨b, 0, none⟩), f.val, .int .i64 z, BP u, .bool a] [Ac.box b 163 (Ad.enc ⟨T.w, T.b, g⟩), Ac.own f 3 1 (l.flatMap Ax)] (fun v B => ∃ h : Hd, v = h.val ∧ h.len = (AG.BQ T.w l z u a).length ∧ B = [Ac.box b 163 (Ad.enc ⟨T.w, T.b, g⟩), Ac.own f 3 1 (l.flatMap Ax), Ac.own h 3 1 ((AG.BQ T.w l z u a).flatMap Ax)]) := by
 intro w hS0
 have hb := hF.b
 have hr := hF.room
 refine Aj _ _ Tryz.func134 rfl rfl rfl (hS0) ?_
 refine Gs (Ga rfl (Gn (.t5 0 1 2 3 4) (Gs (Ga rfl (AP (AA (CA ?_)))))))
 refine Gm rfl (Gt (Aq rfl Tryz.underlying169 rfl) (Gm rfl (Gn (.t8 0 2 3 4 11 14 15 16) (Ae ?_))))
 refine Bj (.t8 11 16 0 2 3 4 14 15) ?_
 refine Ep Ax 3 1 ?_
 refine De (fun (k : Int) (xs : List Int) (h : Hd) => 0 ≤ k ∧ k ≤ (l.length : Int) ∧ xs = AG.Im T.w u (l.take k.toNat) ∧ h.len = xs.length ∧ xs.length ≤ k.toNat) (fun (k : Int) (xs : List Int) (h : Hd) => ((l.length : Int) - k).toNat) (fun (k : Int) (xs : List Int) (h : Hd) => [(11, h.val), (16, .int .i64 k)]) (fun (k : Int) (xs : List Int) (h : Hd) => [Ac.own h 3 1 (xs.flatMap Ax)]) (0) ([]) (_) ?_ rfl rfl (fun k xs h hI1 => ?_)
 · exact ⟨by omega, by omega, rfl, rfl, by simp⟩
 obtain ⟨hI11, hI12, hI13, hI14, hI15⟩ := hI1
 refine Gs (Gt (A5 rfl rfl) (AP (AA (Ao ?_))))
 refine Gc (fun c1 => ?_) (fun c1 => ?_)
 ·
  have c1p := kz c1
  have hx := hi _ (Bc.Ei (xs := l) (i := k.toNat) (by omega))
  refine Aa ?_
  refine AB (.t8 0 2 3 4 11 14 15 16) ?_
  refine AA (Ao (Ae (Gs ?_)))
  refine Gt (Bm F5 (by decide) (Kn.own .m2) rfl rfl (by omega) (by omega)) ?_
  refine Gt (C6 rfl A1 (Kn.own .m2) (by omega)) ?_
  refine Ga rfl (Gn (.t9 0 2 3 4 11 13 14 15 16) (Gs (Gm rfl (Gt (Bp rfl rfl) (Gm rfl (BW 22 rfl rfl (fun q => AE rfl) (BW 22 rfl rfl (fun q => AE rfl) ?_)))))))
  refine BW 22 rfl rfl (fun q => BS (cF rfl q)) (BW 22 rfl rfl (fun q => Af A6 (cF rfl q)) (BW 22 rfl rfl (fun q => Af Cp (cF rfl q)) ?_))
  refine BW 22 rfl rfl (fun q => by have q1 := q; (try simp at q1); exact AQ Fo (cF rfl q) (cF rfl q) (by first | omega | exact hb.1 | exact hb.2) (by first | omega | exact hb.1 | exact hb.2)) ?_
  refine BW 22 rfl rfl (fun q => Af Lx (cF rfl q)) ?_
  refine BW 22 rfl rfl (fun q => by have q1 := q; (try simp at q1); exact AF (cF rfl q) CB .m1 (((Ad.l0.comp AH.l1).comp (AS.ar (n := 9) Ak.fl (by first | omega | exact hb))).comp Ak.l0) rfl rfl) ?_
  refine BW 22 rfl rfl (fun q => AE rfl) (BW 22 rfl rfl (fun q => Bp (cF rfl q) (cF rfl q)) ?_)
  refine Gt (BR rfl rfl (fun h => by rw [h]; rfl)) ?_
  refine Gn (.t10 0 2 3 4 11 13 14 15 16 33) ?_
  refine Gc (fun c2 => ?_) (fun c2 => ?_)
  ·
   have c2p := kz c2
   refine AI (Gm rfl (Gm rfl ?_))
   refine FP Ax By rfl Tryz.underlying169 C3 ZG rfl (by decide) (by decide) rfl rfl (fun b1 => ?_)
   refine CT By rfl Tryz.underlying169 C3 ZG rfl aj (by decide) (by decide) rfl rfl (fun w hS => Src.Dj Tryz.underlying169 ((Kn.own .m0) w hS)) (by (try dsimp only); omega) (fun _ => (.t .h)) (fun h1 h1l h1z => ?_)
   refine Ga rfl ?_
   refine AP (AB (.t8 0 2 3 4 11 14 15 16) ?_)
   refine AT (AA (AI ?_))
   refine Gt (Aw rfl rfl (IntWalk.i64_in _ (by first | omega | exact hb.1 | exact hb.2))) ?_
   refine Gm rfl ?_
   refine AP (AB (.t8 0 2 3 4 11 14 15 16) ?_)
   refine Bw (k + 1) _ _ ?_ ?_ (.t8 11 16 0 2 3 4 14 15) (.cons _ (.refl _))
   · exact ⟨by omega, by omega, by rw [AG.XT hI11 (by omega) c2, ← hI13], (by (try dsimp only at *) <;> (try simp only [List.length_append, List.length_cons, List.length_nil]) <;> omega), (by (try simp only [List.length_append, List.length_cons, List.length_nil]); omega)⟩
   · omega
  have c2p := kz c2
  refine Aa ?_
  refine AB (.t8 0 2 3 4 11 14 15 16) ?_
  refine AT (AA (AI ?_))
  refine Gt (Aw rfl rfl (IntWalk.i64_in _ (by first | omega | exact hb.1 | exact hb.2))) ?_
  refine Gm rfl ?_
  refine AP (AB (.t8 0 2 3 4 11 14 15 16) ?_)
  refine Bw (k + 1) _ _ ?_ ?_ (.t8 11 16 0 2 3 4 14 15) (.refl _)
  · exact ⟨by omega, by omega, by rw [AG.Wu hI11 (by omega) c2, ← hI13], (by (try dsimp only at *) <;> (try simp only [List.length_append, List.length_cons, List.length_nil]) <;> omega), (by (try simp only [List.length_append, List.length_cons, List.length_nil]); omega)⟩
  · omega
 have c1p := kz c1
 obtain rfl : k = (l.length : Int) := by omega
 have hx3 := hI13
 rw [show (l.length : Int).toNat = l.length by omega, List.take_length] at hx3
 have hpa := AG.Ua T.w u l
 rw [← hx3] at hpa
 refine Ba (AV (AV (Ah ?_)))
 refine AB (.t3 2 4 11) ?_
 refine AA (CA (Gm rfl (Gn (.t3 2 11 39) ?_)))
 refine Gc (fun c3 => ?_) (fun c3 => ?_)
 ·
  have c3p := kz c3
  refine Gs (Gm rfl (Ga rfl (Gn (.t1 10) (Ab (AD ?_)))))
  refine AY rfl (.tmp rfl .n) ?_
  intro w1 hS
  have hS := (hS.perm (Av.perm (.c (.t .h) (.c (.t .h) (.c .h .n))))).Ay
  have hq : AG.BQ T.w l z u a = _ := (BB c3)
  refine ⟨_, ⟨_, rfl, ?hl1, ?hB1⟩, hS⟩
  case hB1 => rw [hq]; (try rw [← hx3]); (try rfl)
  case hl1 => rw [hq]; first | rfl | (rw [← hx3]; first | assumption | (simp only [Hd.cut, List.length_drop, List.length_take]; omega))
 have c3p := kz c3
 refine Aa ?_
 refine AB (.t2 2 11) ?_
 refine AA (CA (Gm rfl (Gt (A5 rfl rfl) (Gm rfl (BW 43 rfl rfl (fun q => AE rfl) (BW 43 rfl rfl (fun q => AE rfl) (BW 43 rfl rfl (fun q => Aq rfl Tryz.underlying169 (cF rfl q)) ?_)))))))
 refine BW 43 rfl rfl (fun q => Cd (cF rfl q) (cF rfl q)) ?_
 refine Gt (BR rfl rfl (fun h => by rw [h]; rfl)) ?_
 refine Gn (.t3 2 11 48) ?_
 refine Gc (fun c4 => ?_) (fun c4 => ?_)
 ·
  have c4p := kz c4
  rw [hI14, hx3] at c4
  refine Gs (Ga rfl (Gn (.t1 10) (Ab (AD ?_))))
  refine AY rfl (.tmp rfl .n) ?_
  intro w1 hS
  have hS := hS.Cj 3 1
  have hS := (hS.perm (Av.perm (.c (.t (.t .h)) (.c (.t (.t .h)) (.c .h .n))))).Ay
  have hq : AG.BQ T.w l z u a = _ := ((AU c3).trans (BB c4))
  refine ⟨_, ⟨⟨none, 0, 0⟩, rfl, ?hl2, ?hB2⟩, hS⟩
  case hB2 => rw [hq]; (try rw [← hx3]); (try rfl)
  case hl2 => rw [hq]; first | rfl | (rw [← hx3]; first | assumption | (simp only [Hd.cut, List.length_drop, List.length_take]; omega))
 have c4p := kz c4
 have c4q := c4p
 rw [hI14, hx3] at c4
 refine Aa ?_
 refine AB (.t2 2 11) ?_
 refine AA (Gs (Gm rfl (Gm rfl ?_)))
 refine Gt (E6 rfl rfl (IntWalk.i64_in _ (by first | omega | exact hb.1 | exact hb.2))) ?_
 refine Gm rfl ?_
 refine SN By rfl Tryz.underlying169 C3 rfl rfl rfl (by first | omega | exact hb.1 | exact hb.2) (by first | omega | exact hb.1 | exact hb.2) (by first | omega | exact hb.1 | exact hb.2) (fun _ => .h) ?_
 refine Ga rfl (Gn (.t1 10) (Ab ?_))
 refine AY rfl (.tmp rfl .n) ?_
 intro w1 hS
 have hS := (hS.perm (Av.perm (.c (.t .h) (.c (.t .h) (.c .h .n))))).Ay
 have hq : AG.BQ T.w l z u a = _ := ((AU c3).trans (AU c4))
 refine ⟨_, ⟨_, rfl, ?hl3, ?hB3⟩, hS⟩
 case hB3 => rw [hq]; (try rw [← hx3]); (try rfl)
 case hl3 => rw [hq]; first | rfl | (rw [← hx3]; first | assumption | (simp only [Hd.cut, List.length_drop, List.length_take]; omega))
theorem Qt (b : Nat) (T : AG) (g : Hd) (u : As) (hF : T.Fit) (hu : u.length ≤ 5000000) : Eu Tryz.prog 161 #[.pointer (some ⟨b, 0, none⟩), BP u] [Ac.box b 163 (Ad.enc ⟨T.w, T.b, g⟩)] (fun w => (GG 7 w ∧ 7 ∉ CW [Ac.box b 163 (Ad.enc ⟨T.w, T.b, g⟩)]) ∧ (GG 8 w ∧ 8 ∉ CW [Ac.box b 163 (Ad.enc ⟨T.w, T.b, g⟩)])) (fun v B => v = .tuple #[.int .i64 (T.one u).1, .bool (T.one u).2] ∧ B = [Ac.box b 163 (Ad.enc ⟨T.w, T.b, g⟩)]) := by
 intro w hS0 hH
 obtain ⟨⟨gl0, gm0⟩, ⟨gl1, gm1⟩⟩ := hH
 have hb := hF.b
 have hr := hF.room
 have ho9 := T.JX
 have hs9 := T.H0
 refine Aj _ _ Tryz.func161 rfl rfl rfl (hS0) ?_
 refine Gs (Ga rfl (Ga rfl (Gn (.t2 0 1) (Gs (Gm rfl ?_)))))
 refine A8 rfl Tc (.c rfl .n) (fun w hS => E2 _ (by first | assumption | omega) w (gl0.stM gm0 hS) (gl1.stM gm1 hS)) ?_
 refine Gm rfl (Gt (AM rfl rfl) (Gt (AM rfl rfl) (Gt (AM rfl rfl) (Gt (AM rfl rfl) (Ga rfl (Ga rfl (Ga rfl ?_)))))))
 refine Ga rfl (Gn (.t5 0 6 7 8 9) (CA (Gm rfl (Gt (CK rfl rfl) (Gm rfl (BW 20 rfl rfl (fun q => AE rfl) ?_))))))
 refine Gt (BR rfl rfl (fun h => by rw [h]; rfl)) ?_
 refine Gn (.t4 0 6 7 22) ?_
 refine Gc (fun c1 => ?_) (fun c1 => ?_)
 ·
  refine Gs (Ga rfl (Ga rfl (Gn (.t2 4 5) (Ab (AD ?_)))))
  refine AY rfl (.tmp rfl (.tmp rfl .n)) ?_
  intro w1 hS
  have hS := (hS.perm (Av.perm (.c .h .n))).Ay
  have hq : T.one u = _ := (BB c1)
  exact ⟨_, ⟨by rw [hq]; rfl, rfl⟩, hS⟩
 have c1p := kz c1
 refine Aa ?_
 refine AB (.t3 0 6 7) ?_
 refine AA (Gs (Gm rfl (Gm rfl ?_)))
 refine Ag rfl S7 (.c rfl .n) (.c .h .n) (HS _ _ _ (by first | assumption | omega)) (fun v1 B hv => ?_)
 obtain ⟨y2, rfl, y3, rfl⟩ := hv
 refine Gm rfl ?_
 refine Ag rfl VZ (.c rfl .n) (.c .h .n) (IZ _ _ _ (by first | assumption | omega)) (fun v5 B hv => ?_)
 obtain ⟨y6, rfl, y7, rfl⟩ := hv
 refine CT By rfl Tryz.underlying169 C3 ZG rfl aj (by decide) (by decide) rfl rfl (fun w hS => Src.Dj Tryz.underlying169 ((Kn.own .m1) w hS)) (by (try dsimp only); omega) (fun _ => (.t (.t .h))) (fun h9 h9l h9z => ?_)
 refine Gm rfl (Gm rfl ?_)
 refine Ag rfl Oz (.c rfl (.c rfl (.c rfl (.c rfl (.c rfl .n))))) (.c .h (.c (.t .h) .n)) (En _ T _ _ (T.own ++ T.seen) _ _ _ hF (by rw [List.length_append]; omega) (by rw [List.length_append]; omega) (fun i hi => AG.Py hi)) (fun v10 B hv => ?_)
 obtain ⟨y11, rfl, y12, rfl⟩ := hv
 refine Ga rfl (Gn (.t1 10) (CA (Gm rfl (Gt (Aq rfl Tryz.underlying169 rfl) (Gt (Ai rfl rfl) (Gn (.t2 10 34) ?_))))))
 refine Gc (fun c2 => ?_) (fun c2 => ?_)
 ·
  have c2p := kz c2
  have hpl := y12
  rw [hpl] at c2 c2p
  refine Gs (Ga rfl (Ga rfl (Gn (.t2 4 5) (Ab (AD ?_)))))
  refine AY rfl (.tmp rfl (.tmp rfl .n)) ?_
  intro w1 hS
  have hS := (hS.perm (Av.perm (.c .h .n))).Ay
  have hq : T.one u = _ := ((AU c1).trans (BB c2))
  exact ⟨_, ⟨by rw [hq]; rfl, rfl⟩, hS⟩
 have c2p := kz c2
 have hpl := y12
 rw [hpl] at c2 c2p
 refine Aa ?_
 refine AB (.t1 10) ?_
 refine AA (Gs (Gm rfl ?_))
 refine Gt (Bm F5 (by decide) (Kn.own .m2) rfl rfl (by omega) (by omega)) ?_
 refine Gt (C6 rfl A1 (Kn.own .m2) (by omega)) ?_
 refine Ga rfl (Ga rfl (Gn (.t2 4 5) (Ab ?_)))
 refine AY rfl (.tmp rfl (.tmp rfl .n)) ?_
 intro w1 hS
 have hS := (hS.perm (Av.perm (.c .h .n))).Ay
 have hq : T.one u = _ := ((AU c1).trans (AU c2))
 exact ⟨_, ⟨by rw [hq]; rfl, rfl⟩, hS⟩
theorem MA (b : Nat) (T : AG) (g : Hd) (u : As) (hg : g.len = T.out.length) (hF : T.Fit) (hu : u.length ≤ 5000000) (hn : T.out.length ≤ 99000) : Eu Tryz.prog 133 #[.pointer (some ⟨b, 0, none⟩), BP u] [Ac.box b 163 (Ad.enc ⟨T.w, T.b, g⟩), Ac.own g 56 16 (T.out.flatMap Ing.Event.enc)] (fun w => (GG 7 w ∧ 7 ∉ CW [Ac.box b 163 (Ad.enc ⟨T.w, T.b, g⟩), Ac.own g 56 16 (T.out.flatMap Ing.Event.enc)]) ∧ (GG 8 w ∧ 8 ∉ CW [Ac.box b 163 (Ad.enc ⟨T.w, T.b, g⟩), Ac.own g 56 16 (T.out.flatMap Ing.Event.enc)])) (fun v B => ∃ g' : Hd, v = .tuple #[.int .i64 (T.box u).2.1, .bool (T.box u).2.2] ∧ g'.len = ((T.box u).1).out.length ∧ B = [Ac.box b 163 (Ad.enc ⟨((T.box u).1).w, ((T.box u).1).b, g'⟩), Ac.own g' 56 16 (((T.box u).1).out.flatMap Ing.Event.enc)]) := by
 intro w hS0 hH
 obtain ⟨⟨gl0, gm0⟩, ⟨gl1, gm1⟩⟩ := hH
 have hb := hF.b
 have hr := hF.room
 have ho := T.S8 u
 refine Aj _ _ Tryz.func133 rfl rfl rfl (hS0) ?_
 refine Gs (Ga rfl (Ga rfl (Gn (.t2 0 1) (Gs (Gm rfl (Gm rfl ?_))))))
 refine BD rfl aX (.c rfl (.c rfl .n)) (.c .h .n) (Qt _ T _ _ hF hu) (fun w hS => ⟨gl0.pull gm0 hS (.c .h .n), gl1.pull gm1 hS (.c .h .n)⟩) (fun v1 B hv => ?_)
 obtain ⟨rfl, rfl⟩ := hv
 refine Gm rfl (Gt (AM rfl rfl) (Gt (AM rfl rfl) (Ga rfl (Ga rfl (Gn (.t3 0 6 7) (CA (Gm rfl ?_)))))))
 refine Gt (BO rfl) (Gm rfl (BW 16 rfl rfl (fun q => AE rfl) (BW 16 rfl rfl (fun q => AE rfl) (BW 16 rfl rfl (fun q => BS (cF rfl q)) (BW 16 rfl rfl (fun q => Af A6 (cF rfl q)) (BW 16 rfl rfl (fun q => Af Cp (cF rfl q)) ?_))))))
 refine BW 16 rfl rfl (fun q => by have q1 := q; (try simp at q1); exact AQ Fo (cF rfl q) (cF rfl q) (by first | omega | exact hb.1 | exact hb.2 | (dsimp only; omega)) (by first | omega | exact hb.1 | exact hb.2 | (dsimp only; omega))) ?_
 refine BW 16 rfl rfl (fun q => Af GO (cF rfl q)) ?_
 refine BW 16 rfl rfl (fun q => by have q1 := q; (try simp at q1); exact AF (cF rfl q) A1 .m0 (((Ad.l0.comp AH.l1).comp (AS.ar (n := 9) Ak.fl (by first | omega | exact hb | (dsimp only; omega)))).comp Ak.l1) rfl rfl) ?_
 refine BW 16 rfl rfl (fun q => CK (cF rfl q) rfl) ?_
 refine Gt (BR rfl rfl (fun h => by rw [h]; rfl)) ?_
 refine Gn (.t3 0 6 26) ?_
 refine Gc (fun c1 => ?_) (fun c1 => ?_)
 ·
  have c1p := kz c1
  refine Gs (Gm rfl ?_)
  refine Ag rfl Dx (.c rfl (.c rfl .n)) (.c .h (.c .h .n)) (Bb _ _ _ _ hg hb (by omega)) (fun v2 B hv => ?_)
  obtain ⟨y3, rfl, y4, rfl⟩ := hv
  refine Gn (.nil _) (Gs (Ga rfl (Ga rfl (AP (AA (Ab (AD ?_)))))))
  refine AY rfl (.tmp rfl (.tmp rfl .n)) ?_
  intro w1 hS
  have hS := (hS.perm (Av.perm (.c .h (.c .h .n)))).Ay
  have hq : T.box u = _ := (BB c1)
  refine ⟨_, ⟨?gq1, ?hv1, ?hl1, ?hB1⟩, hS⟩
  case hB1 => rw [hq]; (try rfl)
  case hv1 => rw [hq]; (try rfl)
  case hl1 => rw [hq]; assumption
 have c1p := kz c1
 refine Aa ?_
 refine AB (.t2 0 6) ?_
 refine AA (CA (Gm rfl (Gm rfl (Gt (BS rfl) (Gt (Af A6 rfl) (Gt (Af Cp rfl) ?_))))))
 refine Gt (AQ Fo rfl rfl (by first | omega | exact hb.1 | exact hb.2 | (dsimp only; omega)) (by first | omega | exact hb.1 | exact hb.2 | (dsimp only; omega))) ?_
 refine Gt (Af Fb rfl) ?_
 refine Gt (AF rfl Ct .m0 (((Ad.l0.comp AH.l1).comp (AS.ar (n := 9) Ak.fl (by first | omega | exact hb | (dsimp only; omega)))).comp Ak.l4) rfl rfl) ?_
 refine Gt (BO rfl) (Gn (.t3 0 6 37) ?_)
 refine Gc (fun c2 => ?_) (fun c2 => ?_)
 ·
  have c2p := kz c2
  refine Gs (Gm rfl ?_)
  refine Ag rfl Dx (.c rfl (.c rfl .n)) (.c .h (.c .h .n)) (Bb _ _ _ _ hg hb (by omega)) (fun v5 B hv => ?_)
  obtain ⟨y6, rfl, y7, rfl⟩ := hv
  refine Gn (.nil _) (Gs (Ga rfl (Ga rfl (AP (AA (Ab (AD ?_)))))))
  refine AY rfl (.tmp rfl (.tmp rfl .n)) ?_
  intro w1 hS
  have hS := (hS.perm (Av.perm (.c .h (.c .h .n)))).Ay
  have hq : T.box u = _ := ((AU c1).trans (BB c2))
  refine ⟨_, ⟨?gq2, ?hv2, ?hl2, ?hB2⟩, hS⟩
  case hB2 => rw [hq]; (try rfl)
  case hv2 => rw [hq]; (try rfl)
  case hl2 => rw [hq]; assumption
 have c2p := kz c2
 refine Aa ?_
 refine AB (.t1 6) ?_
 refine AA (Gs (Gm rfl (Ga rfl (Ga rfl (Gn (.t2 4 5) (Ab ?_))))))
 refine AY rfl (.tmp rfl (.tmp rfl .n)) ?_
 intro w1 hS
 have hS := (hS.perm (Av.perm (.c .h (.c .h .n)))).Ay
 have hq : T.box u = _ := ((AU c1).trans (AU c2))
 refine ⟨_, ⟨?gq3, ?hv3, ?hl3, ?hB3⟩, hS⟩
 case hB3 => rw [hq]; (try rfl)
 case hv3 => rw [hq]; (try rfl)
 case hl3 => rw [hq]; assumption
theorem Dm (b : Nat) (T : AG) (g : Hd) (k i : Int) (hg : g.len = T.out.length) (hb : 0 ≤ T.b ∧ T.b < 6) (hi : 0 ≤ i ∧ i < 9) (hn : T.out.length ≤ 100000) : IP Tryz.prog 135 #[.pointer (some ⟨b, 0, none⟩), .int .i64 k, .int .i64 i] [Ac.box b 163 (Ad.enc ⟨T.w, T.b, g⟩), Ac.own g 56 16 (T.out.flatMap Ing.Event.enc)] (fun v B => ∃ g' : Hd, v = .tuple #[] ∧ g'.len = (T.B1 k i).out.length ∧ B = [Ac.box b 163 (Ad.enc ⟨(T.B1 k i).w, (T.B1 k i).b, g'⟩), Ac.own g' 56 16 ((T.B1 k i).out.flatMap Ing.Event.enc)]) := by
 intro w hS0
 refine Aj _ _ Tryz.func135 rfl rfl rfl (hS0) ?_
 refine AI (Gm rfl (Gm rfl (Gm rfl (Gm rfl (Gt (BS rfl) (Gt (Af A6 rfl) (Gt (Af Cp rfl) ?_)))))))
 refine Gt (AQ Fo rfl rfl (by (try dsimp only at *); omega) (by (try dsimp only at *); omega)) ?_
 refine Gt (Af Lx rfl) ?_
 refine Gt (AF rfl CB .m0 (((Ad.l0.comp AH.l1).comp (AS.arr (n := 9) Ak.fl (by (try dsimp only at *); omega) (by (try dsimp only at *); omega))).comp Ak.l0) rfl rfl) ?_
 refine Gt (A9 Ng H2 rfl (.cons Ing.Event.l0 rfl rfl rfl (.cons Ing.Event.l3 rfl rfl rfl (.cons Ing.Event.l8 rfl rfl rfl .nil)))) ?_
 refine Ag rfl OF (.c rfl (.c rfl .n)) (.c .h (.c .h .n)) (CI _ _ _ { AG.GI k with B1 := (T.w.AX.at i).name } hg hb (show (-1 : Int) < 6 by decide) hn) (fun v1 B hv => ?_)
 obtain ⟨y2, rfl, y3, rfl⟩ := hv
 refine AP ?_
 refine Bf rfl .n ?_
 intro w1 hS
 have hS := (hS.perm (Av.perm (.c .h (.c .h .n)))).Ay
 exact ⟨_, ⟨_, rfl, by assumption, rfl⟩, hS⟩
theorem Q9 (b : Nat) (T : AG) (g : Hd) (o : Order) (hg : g.len = T.out.length) (hF : T.Fit) (hu : o.second.length ≤ 5000000) (hn : T.out.length ≤ 90000) : Eu Tryz.prog 105 #[.pointer (some ⟨b, 0, none⟩), .agg o.enc.toArray] [Ac.box b 163 (Ad.enc ⟨T.w, T.b, g⟩), Ac.own g 56 16 (T.out.flatMap Ing.Event.enc)] (fun w => (GG 7 w ∧ 7 ∉ CW [Ac.box b 163 (Ad.enc ⟨T.w, T.b, g⟩), Ac.own g 56 16 (T.out.flatMap Ing.Event.enc)]) ∧ (GG 8 w ∧ 8 ∉ CW [Ac.box b 163 (Ad.enc ⟨T.w, T.b, g⟩), Ac.own g 56 16 (T.out.flatMap Ing.Event.enc)])) (fun v B => ∃ g' : Hd, v = .tuple #[] ∧ g'.len = (T.get o).out.length ∧ B = [Ac.box b 163 (Ad.enc ⟨(T.get o).w, (T.get o).b, g'⟩), Ac.own g' 56 16 ((T.get o).out.flatMap Ing.Event.enc)]) := by
 intro w hS0 hH
 obtain ⟨⟨gl0, gm0⟩, ⟨gl1, gm1⟩⟩ := hH
 have hb := hF.b
 have hr := hF.room
 refine Aj _ _ Tryz.func105 rfl rfl rfl (hS0) ?_
 refine Gs ?_
 refine Bu rfl rfl rfl (fun b1 => ?_)
 refine Gn (.t2 0 3) (Gs (Gm rfl ?_))
 refine Ag rfl VZ (.c rfl .n) (.c (.t .h) .n) (IZ _ _ _ (by first | assumption | omega)) (fun v1 B hv => ?_)
 obtain ⟨y2, rfl, y3, rfl⟩ := hv
 refine Ga rfl (Gn (.t3 0 3 4) (CA (Gt (Af HX rfl) (Gt (AF rfl CB .m2 Order.l4 rfl rfl) (Gt (DW rfl rfl) (Gn (.t4 0 3 4 14) ?_))))))
 refine Gc (fun c1 => ?_) (fun c1 => ?_)
 ·
  have c1p := kz c1
  refine Gs (Gm rfl (Gt (Af HX rfl) (Gt (AF rfl CB .m2 Order.l4 rfl rfl) ?_)))
  refine BD rfl X8 (.c rfl (.c rfl .n)) (.c .h (.c (.t (.t .h)) .n)) (MA _ T _ _ hg hF hu (by omega)) (fun w hS => ⟨gl0.pull gm0 hS (.c .h (.c (.t (.t .h)) .n)), gl1.pull gm1 hS (.c .h (.c (.t (.t .h)) .n))⟩) (fun v5 B hv => ?_)
  obtain ⟨y6, rfl, y7, rfl⟩ := hv
  refine Gm rfl (Gt (AM rfl rfl) (Gt (AM rfl rfl) (Ga rfl (Ga rfl (Gn (.t4 0 3 5 6) (CA (Gm rfl ?_)))))))
  refine Gt (BO rfl) (Gn (.t4 0 3 5 23) ?_)
  refine Gc (fun c2 => ?_) (fun c2 => ?_)
  ·
   have c2p := kz c2
   refine Ab (AD (AD ?_))
   refine AY rfl .n ?_
   intro w1 hS
   have hS := (hS.perm (Av.perm (.c .h (.c .h .n)))).Ay
   have hq : T.get o = _ := ((BB c1).trans (BB c2))
   refine ⟨_, ⟨?gq1, rfl, ?hl1, ?hB1⟩, hS⟩
   case hB1 => rw [hq]; (try rfl)
   case hl1 => rw [hq]; assumption
  have c2p := kz c2
  refine Aa ?_
  refine AB (.t3 0 3 5) ?_
  refine AA (AI (Gm rfl (Gt (BS rfl) (Gt (Af A6 rfl) (Gt (AZ rfl BT .m0 Ad.l0 rfl) (Gm rfl ?_))))))
  refine Ag rfl Q7 (.c rfl (.c rfl (.c rfl .n))) .n (Ex _ _ _) (fun v8 B hv => ?_)
  obtain ⟨y9, rfl, y10, rfl⟩ := hv
  refine Ga rfl (Gn (.t3 0 3 4) (Gs (Gm rfl (Gm rfl (Gt (Af Fx rfl) (Gt (AF rfl A1 .m4 Order.l1 rfl rfl) (Gt (Af FQ rfl) ?_)))))))
  refine Gt (AF rfl CB .m4 Order.l3 rfl rfl) (Gt (Af Ge rfl) (Gt (AF rfl Ct .m4 Order.l2 rfl rfl) ?_))
  refine Ag rfl Oz (.c rfl (.c rfl (.c rfl (.c rfl (.c rfl .n))))) (.c (.t .h) (.c .h .n)) (En _ (T.box o.second).1 _ _ ((T.box o.second).1.w.has 2 (T.box o.second).2.1) _ _ _ (hF.PW (T.Ob _).1 (T.Ob _).2) (by assumption) (Nat.le_trans (AH.Ho _ _ _) (by decide)) (fun i hi => AH.Gb hi)) (fun v12 B hv => ?_)
  obtain ⟨y13, rfl, y14, rfl⟩ := hv
  refine Ga rfl (Gn (.t2 0 4) (CA (Gm rfl (Gt (Aq rfl Tryz.underlying169 rfl) (Gt (Ai rfl rfl) (Gn (.t3 0 4 41) ?_))))))
  refine Gc (fun c3 => ?_) (fun c3 => ?_)
  ·
   have c3p := kz c3
   rw [y14] at c3
   refine AI (Gm rfl ?_)
   refine Ag rfl Dx (.c rfl (.c rfl .n)) (.c .h (.c (.t (.t .h)) .n)) (Bb _ (T.box o.second).1 _ _ (by assumption) (by rw [(T.Ob _).2]; exact hb) (by have := T.HP o.second; omega)) (fun v16 B hv => ?_)
   obtain ⟨y17, rfl, y18, rfl⟩ := hv
   refine Gn (.t2 0 4) (Gs (Gm rfl (Gt (Aq rfl Tryz.underlying169 rfl) (Gm rfl (Gn (.t4 0 44 45 46) (Ae ?_))))))
   refine Bj (.t4 46 0 44 45) ?_
   refine BU (.t .h) ?_
   refine BU (.t .h) ?_
   refine De (fun (k : Int) (X : AG) (h : Hd) => 0 ≤ k ∧ k ≤ ((AG.BQ (T.box o.second).1.w ((T.box o.second).1.w.has 2 (T.box o.second).2.1) o.nth o.name o.Bl).length : Int) ∧ T.get o = X.Df ((AG.BQ (T.box o.second).1.w ((T.box o.second).1.w.has 2 (T.box o.second).2.1) o.nth o.name o.Bl).drop k.toNat) ∧ X.b = T.b ∧ (X.out.length : Int) ≤ T.out.length + 2 + k ∧ h.len = X.out.length ∧ ((AG.BQ (T.box o.second).1.w ((T.box o.second).1.w.has 2 (T.box o.second).2.1) o.nth o.name o.Bl).length : Int) ≤ 9) (fun (k : Int) (X : AG) (h : Hd) => (((AG.BQ (T.box o.second).1.w ((T.box o.second).1.w.has 2 (T.box o.second).2.1) o.nth o.name o.Bl).length : Int) - k).toNat) (fun (k : Int) (X : AG) (h : Hd) => [(46, .int .i64 k)]) (fun (k : Int) (X : AG) (h : Hd) => [Ac.box b 163 (Ad.enc ⟨X.w, X.b, h⟩), Ac.own h 56 16 (X.out.flatMap Ing.Event.enc)]) (0) (_) (_) ?_ rfl rfl (fun k X h hI1 => ?_)
   · exact ⟨by omega, by omega, ((BB c1).trans (AU c2)).trans (congrArg (fun q => AG.Df q _) (BB c3)), (T.Ob _).2, by have := T.HP o.second; (try simp only [AG.CC]); omega, by assumption, by have := (AG.Ek (T.box o.second).1.w ((T.box o.second).1.w.has 2 (T.box o.second).2.1) o.nth o.name o.Bl).length_le; have := AH.Ho (T.box o.second).1.w 2 (T.box o.second).2.1; omega⟩
   obtain ⟨hI11, hI12, hI13, hI14, hI15, hI16, hI17⟩ := hI1
   refine Gs (Gt (A5 rfl rfl) (AP (AA (Ao ?_))))
   refine Gc (fun c4 => ?_) (fun c4 => ?_)
   ·
    have c4p := kz c4
    have hx : 0 ≤ (AG.BQ (T.box o.second).1.w ((T.box o.second).1.w.has 2 (T.box o.second).2.1) o.nth o.name o.Bl).getD k.toNat 0 ∧ (AG.BQ (T.box o.second).1.w ((T.box o.second).1.w.has 2 (T.box o.second).2.1) o.nth o.name o.Bl).getD k.toNat 0 < 9 := (fun i hi => AH.Gb (AG.Ea hi)) _ (Bc.Ei (xs := (AG.BQ (T.box o.second).1.w ((T.box o.second).1.w.has 2 (T.box o.second).2.1) o.nth o.name o.Bl)) (i := k.toNat) (by omega))
    refine Aa ?_
    refine AB (.t4 0 44 45 46) ?_
    refine AA (Ao (Ae (Gs ?_)))
    refine Gt (Bm F5 (by decide) (Kn.own .m3) rfl rfl (by omega) (by omega)) ?_
    refine Gt (C6 rfl A1 (Kn.own .m3) (by omega)) ?_
    refine Ga rfl (Gn (.t5 0 8 44 45 46) (Gs (Gm rfl (Gm rfl (Gt (BS rfl) (Gt (Af A6 rfl) (Gt (Af Cp rfl) ?_)))))))
    refine Gt (AQ Fo rfl rfl (by first | omega | exact hb.1 | exact hb.2 | (dsimp only; omega)) (by first | omega | exact hb.1 | exact hb.2 | (dsimp only; omega))) ?_
    refine Ga rfl (Gn (.t6 0 8 9 44 45 46) (Gs (Gm rfl (Gm rfl (Gm rfl (Gt (BS rfl) (Gt (Af CL rfl) ?_)))))))
    refine Gt (AF rfl A1 .m0 Ad.l1 rfl rfl) (Gt (BS rfl) (Gt (Af E5 rfl) ?_))
    refine AR (AK (((Ad.l0.comp AH.l1).comp (AS.ar (n := 9) Ak.fl (by first | omega | exact hb | (dsimp only; omega)))).comp Ak.l2) rfl rfl rfl C3 rfl .h) ?_
    refine Gt (BS rfl) (Gt (Af C5 rfl) ?_)
    refine AR (AK (((Ad.l0.comp AH.l1).comp (AS.ar (n := 9) Ak.fl (by first | omega | exact hb | (dsimp only; omega)))).comp Ak.l3) rfl rfl rfl C3 rfl .h) ?_
    refine Gn (.t5 0 8 44 45 46) ?_
    refine Fh (fun _ => .h) (congrArg (fun q => Ad.enc ⟨q, _, _⟩) (AG.Gp X hx.1 hx.2 1 X.b)) ?_
    refine AI (Gm rfl (Gm rfl ?_))
    refine Ag rfl Nu (.c rfl (.c rfl (.c rfl .n))) (.c .h (.c .h .n)) (Dm _ (X.place ((AG.BQ (T.box o.second).1.w ((T.box o.second).1.w.has 2 (T.box o.second).2.1) o.nth o.name o.Bl).getD k.toNat 0) 1 X.b) _ 3 ((AG.BQ (T.box o.second).1.w ((T.box o.second).1.w.has 2 (T.box o.second).2.1) o.nth o.name o.Bl).getD k.toNat 0) (by assumption) (show 0 ≤ X.b ∧ X.b < 6 by rw [hI14]; exact hb) hx (show X.out.length ≤ 100000 by omega)) (fun v19 B hv => ?_)
    obtain ⟨y20, rfl, y21, rfl⟩ := hv
    refine AP (AB (.t4 0 44 45 46) ?_)
    refine AT (AA (AI ?_))
    refine Gt (Aw rfl rfl (IntWalk.i64_in _ (by first | omega | exact hb.1 | exact hb.2 | (dsimp only; omega)))) ?_
    refine Gm rfl ?_
    refine AP (AB (.t4 0 44 45 46) ?_)
    refine Bw (k + 1) _ _ ?_ ?_ (.t4 46 0 44 45) (.refl _)
    · exact ⟨by omega, by omega, by rw [hI13, AG.Gf hI11 (by omega)], hI14, (by rw [AG.FE]; show ((X.out.length + 1 : Nat) : Int) ≤ _; omega), by assumption, hI17⟩
    · omega
   have c4p := kz c4
   obtain rfl : k = ((AG.BQ (T.box o.second).1.w ((T.box o.second).1.w.has 2 (T.box o.second).2.1) o.nth o.name o.Bl).length : Int) := by omega
   rw [AG.JE] at hI13
   refine Ba (AV (AV (Ah ?_)))
   refine Bf rfl .n ?_
   intro w1 hS
   have hS := (hS.perm (Av.perm (.c .h (.c .h .n)))).Ay
   refine ⟨_, ⟨?gq2, rfl, ?hl2, ?hB2⟩, hS⟩
   case hB2 => rw [hI13]; rfl
   case hl2 => rw [hI13]; exact hI16
  have c3p := kz c3
  rw [y14] at c3
  refine Aa ?_
  refine AB (.t2 0 4) ?_
  refine AA (Gs (Gm rfl (Gt (Aq rfl Tryz.underlying169 rfl) (Gm rfl (Gn (.t4 0 44 45 46) (Ae ?_))))))
  refine Bj (.t4 46 0 44 45) ?_
  refine BU (.t (.t (.t .h))) ?_
  refine BU (.t .h) ?_
  refine De (fun (k : Int) (X : AG) (h : Hd) => 0 ≤ k ∧ k ≤ ((AG.BQ (T.box o.second).1.w ((T.box o.second).1.w.has 2 (T.box o.second).2.1) o.nth o.name o.Bl).length : Int) ∧ T.get o = X.Df ((AG.BQ (T.box o.second).1.w ((T.box o.second).1.w.has 2 (T.box o.second).2.1) o.nth o.name o.Bl).drop k.toNat) ∧ X.b = T.b ∧ (X.out.length : Int) ≤ T.out.length + 2 + k ∧ h.len = X.out.length ∧ ((AG.BQ (T.box o.second).1.w ((T.box o.second).1.w.has 2 (T.box o.second).2.1) o.nth o.name o.Bl).length : Int) ≤ 9) (fun (k : Int) (X : AG) (h : Hd) => (((AG.BQ (T.box o.second).1.w ((T.box o.second).1.w.has 2 (T.box o.second).2.1) o.nth o.name o.Bl).length : Int) - k).toNat) (fun (k : Int) (X : AG) (h : Hd) => [(46, .int .i64 k)]) (fun (k : Int) (X : AG) (h : Hd) => [Ac.box b 163 (Ad.enc ⟨X.w, X.b, h⟩), Ac.own h 56 16 (X.out.flatMap Ing.Event.enc)]) (0) (_) (_) ?_ rfl rfl (fun k X h hI1 => ?_)
  · exact ⟨by omega, by omega, ((BB c1).trans (AU c2)).trans (congrArg (fun q => AG.Df q _) (AU c3)), (T.Ob _).2, by have := T.HP o.second; (try simp only [AG.CC]); omega, by assumption, by have := (AG.Ek (T.box o.second).1.w ((T.box o.second).1.w.has 2 (T.box o.second).2.1) o.nth o.name o.Bl).length_le; have := AH.Ho (T.box o.second).1.w 2 (T.box o.second).2.1; omega⟩
  obtain ⟨hI11, hI12, hI13, hI14, hI15, hI16, hI17⟩ := hI1
  refine Gs (Gt (A5 rfl rfl) (AP (AA (Ao ?_))))
  refine Gc (fun c5 => ?_) (fun c5 => ?_)
  ·
   have c5p := kz c5
   have hx : 0 ≤ (AG.BQ (T.box o.second).1.w ((T.box o.second).1.w.has 2 (T.box o.second).2.1) o.nth o.name o.Bl).getD k.toNat 0 ∧ (AG.BQ (T.box o.second).1.w ((T.box o.second).1.w.has 2 (T.box o.second).2.1) o.nth o.name o.Bl).getD k.toNat 0 < 9 := (fun i hi => AH.Gb (AG.Ea hi)) _ (Bc.Ei (xs := (AG.BQ (T.box o.second).1.w ((T.box o.second).1.w.has 2 (T.box o.second).2.1) o.nth o.name o.Bl)) (i := k.toNat) (by omega))
   refine Aa ?_
   refine AB (.t4 0 44 45 46) ?_
   refine AA (Ao (Ae (Gs ?_)))
   refine Gt (Bm F5 (by decide) (Kn.own .m3) rfl rfl (by omega) (by omega)) ?_
   refine Gt (C6 rfl A1 (Kn.own .m3) (by omega)) ?_
   refine Ga rfl (Gn (.t5 0 8 44 45 46) (Gs (Gm rfl (Gm rfl (Gt (BS rfl) (Gt (Af A6 rfl) (Gt (Af Cp rfl) ?_)))))))
   refine Gt (AQ Fo rfl rfl (by first | omega | exact hb.1 | exact hb.2 | (dsimp only; omega)) (by first | omega | exact hb.1 | exact hb.2 | (dsimp only; omega))) ?_
   refine Ga rfl (Gn (.t6 0 8 9 44 45 46) (Gs (Gm rfl (Gm rfl (Gm rfl (Gt (BS rfl) (Gt (Af CL rfl) ?_)))))))
   refine Gt (AF rfl A1 .m0 Ad.l1 rfl rfl) (Gt (BS rfl) (Gt (Af E5 rfl) ?_))
   refine AR (AK (((Ad.l0.comp AH.l1).comp (AS.ar (n := 9) Ak.fl (by first | omega | exact hb | (dsimp only; omega)))).comp Ak.l2) rfl rfl rfl C3 rfl .h) ?_
   refine Gt (BS rfl) (Gt (Af C5 rfl) ?_)
   refine AR (AK (((Ad.l0.comp AH.l1).comp (AS.ar (n := 9) Ak.fl (by first | omega | exact hb | (dsimp only; omega)))).comp Ak.l3) rfl rfl rfl C3 rfl .h) ?_
   refine Gn (.t5 0 8 44 45 46) ?_
   refine Fh (fun _ => .h) (congrArg (fun q => Ad.enc ⟨q, _, _⟩) (AG.Gp X hx.1 hx.2 1 X.b)) ?_
   refine AI (Gm rfl (Gm rfl ?_))
   refine Ag rfl Nu (.c rfl (.c rfl (.c rfl .n))) (.c .h (.c .h .n)) (Dm _ (X.place ((AG.BQ (T.box o.second).1.w ((T.box o.second).1.w.has 2 (T.box o.second).2.1) o.nth o.name o.Bl).getD k.toNat 0) 1 X.b) _ 3 ((AG.BQ (T.box o.second).1.w ((T.box o.second).1.w.has 2 (T.box o.second).2.1) o.nth o.name o.Bl).getD k.toNat 0) (by assumption) (show 0 ≤ X.b ∧ X.b < 6 by rw [hI14]; exact hb) hx (show X.out.length ≤ 100000 by omega)) (fun v22 B hv => ?_)
   obtain ⟨y23, rfl, y24, rfl⟩ := hv
   refine AP (AB (.t4 0 44 45 46) ?_)
   refine AT (AA (AI ?_))
   refine Gt (Aw rfl rfl (IntWalk.i64_in _ (by first | omega | exact hb.1 | exact hb.2 | (dsimp only; omega)))) ?_
   refine Gm rfl ?_
   refine AP (AB (.t4 0 44 45 46) ?_)
   refine Bw (k + 1) _ _ ?_ ?_ (.t4 46 0 44 45) (.refl _)
   · exact ⟨by omega, by omega, by rw [hI13, AG.Gf hI11 (by omega)], hI14, (by rw [AG.FE]; show ((X.out.length + 1 : Nat) : Int) ≤ _; omega), by assumption, hI17⟩
   · omega
  have c5p := kz c5
  obtain rfl : k = ((AG.BQ (T.box o.second).1.w ((T.box o.second).1.w.has 2 (T.box o.second).2.1) o.nth o.name o.Bl).length : Int) := by omega
  rw [AG.JE] at hI13
  refine Ba (AV (AV (Ah ?_)))
  refine Bf rfl .n ?_
  intro w1 hS
  have hS := (hS.perm (Av.perm (.c .h (.c .h .n)))).Ay
  refine ⟨_, ⟨?gq3, rfl, ?hl3, ?hB3⟩, hS⟩
  case hB3 => rw [hI13]; rfl
  case hl3 => rw [hI13]; exact hI16
 have c1p := kz c1
 refine Aa ?_
 refine AB (.t3 0 3 4) ?_
 refine AA (Gs (Gm rfl (Gm rfl (Gt (Af Fx rfl) (Gt (AF rfl A1 .m2 Order.l1 rfl rfl) (Gt (Af FQ rfl) (Gt (AF rfl CB .m2 Order.l3 rfl rfl) ?_)))))))
 refine Gt (Af Ge rfl) (Gt (AF rfl Ct .m2 Order.l2 rfl rfl) ?_)
 refine Ag rfl Oz (.c rfl (.c rfl (.c rfl (.c rfl (.c rfl .n))))) (.c .h (.c .h .n)) (En _ T _ _ T.seen _ _ _ hF (by assumption) (Nat.le_trans T.H0 (by decide)) (fun i hi => AG.N8 hi)) (fun v25 B hv => ?_)
 obtain ⟨y26, rfl, y27, rfl⟩ := hv
 refine Ga rfl (Gn (.t2 0 4) (CA (Gm rfl (Gt (Aq rfl Tryz.underlying169 rfl) (Gt (Ai rfl rfl) (Gn (.t3 0 4 41) ?_))))))
 refine Gc (fun c6 => ?_) (fun c6 => ?_)
 ·
  have c6p := kz c6
  rw [y27] at c6
  refine AI (Gm rfl ?_)
  refine Ag rfl Dx (.c rfl (.c rfl .n)) (.c .h (.c (.t (.t (.t .h))) .n)) (Bb _ T _ _ (by assumption) (by exact hb) (by have := T.HP o.second; omega)) (fun v29 B hv => ?_)
  obtain ⟨y30, rfl, y31, rfl⟩ := hv
  refine Gn (.t2 0 4) (Gs (Gm rfl (Gt (Aq rfl Tryz.underlying169 rfl) (Gm rfl (Gn (.t4 0 44 45 46) (Ae ?_))))))
  refine Bj (.t4 46 0 44 45) ?_
  refine BU (.t .h) ?_
  refine BU (.t .h) ?_
  refine De (fun (k : Int) (X : AG) (h : Hd) => 0 ≤ k ∧ k ≤ ((AG.BQ T.w T.seen o.nth o.name o.Bl).length : Int) ∧ T.get o = X.Df ((AG.BQ T.w T.seen o.nth o.name o.Bl).drop k.toNat) ∧ X.b = T.b ∧ (X.out.length : Int) ≤ T.out.length + 2 + k ∧ h.len = X.out.length ∧ ((AG.BQ T.w T.seen o.nth o.name o.Bl).length : Int) ≤ 9) (fun (k : Int) (X : AG) (h : Hd) => (((AG.BQ T.w T.seen o.nth o.name o.Bl).length : Int) - k).toNat) (fun (k : Int) (X : AG) (h : Hd) => [(46, .int .i64 k)]) (fun (k : Int) (X : AG) (h : Hd) => [Ac.box b 163 (Ad.enc ⟨X.w, X.b, h⟩), Ac.own h 56 16 (X.out.flatMap Ing.Event.enc)]) (0) (_) (_) ?_ rfl rfl (fun k X h hI1 => ?_)
  · exact ⟨by omega, by omega, (AU c1).trans (congrArg (fun q => AG.Df q _) (BB c6)), rfl, by have := T.HP o.second; (try simp only [AG.CC]); omega, by assumption, by have := (AG.Ek T.w T.seen o.nth o.name o.Bl).length_le; have := T.H0; omega⟩
  obtain ⟨hI11, hI12, hI13, hI14, hI15, hI16, hI17⟩ := hI1
  refine Gs (Gt (A5 rfl rfl) (AP (AA (Ao ?_))))
  refine Gc (fun c7 => ?_) (fun c7 => ?_)
  ·
   have c7p := kz c7
   have hx : 0 ≤ (AG.BQ T.w T.seen o.nth o.name o.Bl).getD k.toNat 0 ∧ (AG.BQ T.w T.seen o.nth o.name o.Bl).getD k.toNat 0 < 9 := (fun i hi => AG.N8 (AG.Ea hi)) _ (Bc.Ei (xs := (AG.BQ T.w T.seen o.nth o.name o.Bl)) (i := k.toNat) (by omega))
   refine Aa ?_
   refine AB (.t4 0 44 45 46) ?_
   refine AA (Ao (Ae (Gs ?_)))
   refine Gt (Bm F5 (by decide) (Kn.own .m3) rfl rfl (by omega) (by omega)) ?_
   refine Gt (C6 rfl A1 (Kn.own .m3) (by omega)) ?_
   refine Ga rfl (Gn (.t5 0 8 44 45 46) (Gs (Gm rfl (Gm rfl (Gt (BS rfl) (Gt (Af A6 rfl) (Gt (Af Cp rfl) ?_)))))))
   refine Gt (AQ Fo rfl rfl (by first | omega | exact hb.1 | exact hb.2 | (dsimp only; omega)) (by first | omega | exact hb.1 | exact hb.2 | (dsimp only; omega))) ?_
   refine Ga rfl (Gn (.t6 0 8 9 44 45 46) (Gs (Gm rfl (Gm rfl (Gm rfl (Gt (BS rfl) (Gt (Af CL rfl) ?_)))))))
   refine Gt (AF rfl A1 .m0 Ad.l1 rfl rfl) (Gt (BS rfl) (Gt (Af E5 rfl) ?_))
   refine AR (AK (((Ad.l0.comp AH.l1).comp (AS.ar (n := 9) Ak.fl (by first | omega | exact hb | (dsimp only; omega)))).comp Ak.l2) rfl rfl rfl C3 rfl .h) ?_
   refine Gt (BS rfl) (Gt (Af C5 rfl) ?_)
   refine AR (AK (((Ad.l0.comp AH.l1).comp (AS.ar (n := 9) Ak.fl (by first | omega | exact hb | (dsimp only; omega)))).comp Ak.l3) rfl rfl rfl C3 rfl .h) ?_
   refine Gn (.t5 0 8 44 45 46) ?_
   refine Fh (fun _ => .h) (congrArg (fun q => Ad.enc ⟨q, _, _⟩) (AG.Gp X hx.1 hx.2 1 X.b)) ?_
   refine AI (Gm rfl (Gm rfl ?_))
   refine Ag rfl Nu (.c rfl (.c rfl (.c rfl .n))) (.c .h (.c .h .n)) (Dm _ (X.place ((AG.BQ T.w T.seen o.nth o.name o.Bl).getD k.toNat 0) 1 X.b) _ 3 ((AG.BQ T.w T.seen o.nth o.name o.Bl).getD k.toNat 0) (by assumption) (show 0 ≤ X.b ∧ X.b < 6 by rw [hI14]; exact hb) hx (show X.out.length ≤ 100000 by omega)) (fun v32 B hv => ?_)
   obtain ⟨y33, rfl, y34, rfl⟩ := hv
   refine AP (AB (.t4 0 44 45 46) ?_)
   refine AT (AA (AI ?_))
   refine Gt (Aw rfl rfl (IntWalk.i64_in _ (by first | omega | exact hb.1 | exact hb.2 | (dsimp only; omega)))) ?_
   refine Gm rfl ?_
   refine AP (AB (.t4 0 44 45 46) ?_)
   refine Bw (k + 1) _ _ ?_ ?_ (.t4 46 0 44 45) (.refl _)
   · exact ⟨by omega, by omega, by rw [hI13, AG.Gf hI11 (by omega)], hI14, (by rw [AG.FE]; show ((X.out.length + 1 : Nat) : Int) ≤ _; omega), by assumption, hI17⟩
   · omega
  have c7p := kz c7
  obtain rfl : k = ((AG.BQ T.w T.seen o.nth o.name o.Bl).length : Int) := by omega
  rw [AG.JE] at hI13
  refine Ba (AV (AV (Ah ?_)))
  refine Bf rfl .n ?_
  intro w1 hS
  have hS := (hS.perm (Av.perm (.c .h (.c .h .n)))).Ay
  refine ⟨_, ⟨?gq4, rfl, ?hl4, ?hB4⟩, hS⟩
  case hB4 => rw [hI13]; rfl
  case hl4 => rw [hI13]; exact hI16
 have c6p := kz c6
 rw [y27] at c6
 refine Aa ?_
 refine AB (.t2 0 4) ?_
 refine AA (Gs (Gm rfl (Gt (Aq rfl Tryz.underlying169 rfl) (Gm rfl (Gn (.t4 0 44 45 46) (Ae ?_))))))
 refine Bj (.t4 46 0 44 45) ?_
 refine BU (.t (.t (.t (.t .h)))) ?_
 refine BU (.t .h) ?_
 refine De (fun (k : Int) (X : AG) (h : Hd) => 0 ≤ k ∧ k ≤ ((AG.BQ T.w T.seen o.nth o.name o.Bl).length : Int) ∧ T.get o = X.Df ((AG.BQ T.w T.seen o.nth o.name o.Bl).drop k.toNat) ∧ X.b = T.b ∧ (X.out.length : Int) ≤ T.out.length + 2 + k ∧ h.len = X.out.length ∧ ((AG.BQ T.w T.seen o.nth o.name o.Bl).length : Int) ≤ 9) (fun (k : Int) (X : AG) (h : Hd) => (((AG.BQ T.w T.seen o.nth o.name o.Bl).length : Int) - k).toNat) (fun (k : Int) (X : AG) (h : Hd) => [(46, .int .i64 k)]) (fun (k : Int) (X : AG) (h : Hd) => [Ac.box b 163 (Ad.enc ⟨X.w, X.b, h⟩), Ac.own h 56 16 (X.out.flatMap Ing.Event.enc)]) (0) (_) (_) ?_ rfl rfl (fun k X h hI1 => ?_)
 · exact ⟨by omega, by omega, (AU c1).trans (congrArg (fun q => AG.Df q _) (AU c6)), rfl, by have := T.HP o.second; (try simp only [AG.CC]); omega, by assumption, by have := (AG.Ek T.w T.seen o.nth o.name o.Bl).length_le; have := T.H0; omega⟩
 obtain ⟨hI11, hI12, hI13, hI14, hI15, hI16, hI17⟩ := hI1
 refine Gs (Gt (A5 rfl rfl) (AP (AA (Ao ?_))))
 refine Gc (fun c8 => ?_) (fun c8 => ?_)
 ·
  have c8p := kz c8
  have hx : 0 ≤ (AG.BQ T.w T.seen o.nth o.name o.Bl).getD k.toNat 0 ∧ (AG.BQ T.w T.seen o.nth o.name o.Bl).getD k.toNat 0 < 9 := (fun i hi => AG.N8 (AG.Ea hi)) _ (Bc.Ei (xs := (AG.BQ T.w T.seen o.nth o.name o.Bl)) (i := k.toNat) (by omega))
  refine Aa ?_
  refine AB (.t4 0 44 45 46) ?_
  refine AA (Ao (Ae (Gs ?_)))
  refine Gt (Bm F5 (by decide) (Kn.own .m3) rfl rfl (by omega) (by omega)) ?_
  refine Gt (C6 rfl A1 (Kn.own .m3) (by omega)) ?_
  refine Ga rfl (Gn (.t5 0 8 44 45 46) (Gs (Gm rfl (Gm rfl (Gt (BS rfl) (Gt (Af A6 rfl) (Gt (Af Cp rfl) ?_)))))))
  refine Gt (AQ Fo rfl rfl (by first | omega | exact hb.1 | exact hb.2 | (dsimp only; omega)) (by first | omega | exact hb.1 | exact hb.2 | (dsimp only; omega))) ?_
  refine Ga rfl (Gn (.t6 0 8 9 44 45 46) (Gs (Gm rfl (Gm rfl (Gm rfl (Gt (BS rfl) (Gt (Af CL rfl) ?_)))))))
  refine Gt (AF rfl A1 .m0 Ad.l1 rfl rfl) (Gt (BS rfl) (Gt (Af E5 rfl) ?_))
  refine AR (AK (((Ad.l0.comp AH.l1).comp (AS.ar (n := 9) Ak.fl (by first | omega | exact hb | (dsimp only; omega)))).comp Ak.l2) rfl rfl rfl C3 rfl .h) ?_
  refine Gt (BS rfl) (Gt (Af C5 rfl) ?_)
  refine AR (AK (((Ad.l0.comp AH.l1).comp (AS.ar (n := 9) Ak.fl (by first | omega | exact hb | (dsimp only; omega)))).comp Ak.l3) rfl rfl rfl C3 rfl .h) ?_
  refine Gn (.t5 0 8 44 45 46) ?_
  refine Fh (fun _ => .h) (congrArg (fun q => Ad.enc ⟨q, _, _⟩) (AG.Gp X hx.1 hx.2 1 X.b)) ?_
  refine AI (Gm rfl (Gm rfl ?_))
  refine Ag rfl Nu (.c rfl (.c rfl (.c rfl .n))) (.c .h (.c .h .n)) (Dm _ (X.place ((AG.BQ T.w T.seen o.nth o.name o.Bl).getD k.toNat 0) 1 X.b) _ 3 ((AG.BQ T.w T.seen o.nth o.name o.Bl).getD k.toNat 0) (by assumption) (show 0 ≤ X.b ∧ X.b < 6 by rw [hI14]; exact hb) hx (show X.out.length ≤ 100000 by omega)) (fun v35 B hv => ?_)
  obtain ⟨y36, rfl, y37, rfl⟩ := hv
  refine AP (AB (.t4 0 44 45 46) ?_)
  refine AT (AA (AI ?_))
  refine Gt (Aw rfl rfl (IntWalk.i64_in _ (by first | omega | exact hb.1 | exact hb.2 | (dsimp only; omega)))) ?_
  refine Gm rfl ?_
  refine AP (AB (.t4 0 44 45 46) ?_)
  refine Bw (k + 1) _ _ ?_ ?_ (.t4 46 0 44 45) (.refl _)
  · exact ⟨by omega, by omega, by rw [hI13, AG.Gf hI11 (by omega)], hI14, (by rw [AG.FE]; show ((X.out.length + 1 : Nat) : Int) ≤ _; omega), by assumption, hI17⟩
  · omega
 have c8p := kz c8
 obtain rfl : k = ((AG.BQ T.w T.seen o.nth o.name o.Bl).length : Int) := by omega
 rw [AG.JE] at hI13
 refine Ba (AV (AV (Ah ?_)))
 refine Bf rfl .n ?_
 intro w1 hS
 have hS := (hS.perm (Av.perm (.c .h (.c .h .n)))).Ay
 refine ⟨_, ⟨?gq5, rfl, ?hl5, ?hB5⟩, hS⟩
 case hB5 => rw [hI13]; rfl
 case hl5 => rw [hI13]; exact hI16
theorem Ln (X : AH) (i box : Int) (w : World) : EF Tryz.prog 137 #[.agg X.enc.toArray, .int .i64 i, .int .i64 box] w fun v w' => v = .bool (X.ZA i box) ∧ B3 w w' := by
 refine Aj [] [] Tryz.func137 rfl rfl rfl (St.start w []) ?_
 refine Gs ?_
 refine Bu rfl rfl rfl (fun b1 => ?_)
 refine Ga rfl (Gn (.t3 1 2 3) (CA (Gm rfl (AP (AA (Ae ?_))))))
 refine Bj (.t4 1 7 2 3) ?_
 refine G5 (fun (k : Int) (j : Int) => 0 ≤ k ∧ k ≤ 10 ∧ X.ZA i box = X.inside box (10 - k).toNat j) (fun (k : Int) (j : Int) => (10 - k).toNat) (fun (k : Int) (j : Int) => [(1, .int .i64 j), (7, .int .i64 k)]) (fun (k : Int) (j : Int) => []) (0) (i) ?_ rfl rfl (fun k j hI1 => ?_)
 · exact ⟨Int.le_refl _, by omega, rfl⟩
 obtain ⟨hI11, hI12, hI13⟩ := hI1
 refine Gs (Gt (A5 rfl rfl) (AP (AA (Ao ?_))))
 refine Gc (fun c1 => ?_) (fun c1 => ?_)
 ·
  have c1p := kz c1
  rw [show (10 - k).toNat = (10 - (k + 1)).toNat + 1 from by omega, AH.inside] at hI13
  refine Aa ?_
  refine AB (.t4 1 2 3 7) ?_
  refine AA (Ao (Ae (CA (Gm rfl (Gm rfl (Gt (Ai rfl rfl) (Gn (.t5 1 2 3 7 11) ?_)))))))
  refine Gc (fun c2 => ?_) (fun c2 => ?_)
  ·
   refine Gs (Ga rfl (Gn (.t1 6) (Ab (AD (AO (AD (AD ?_)))))))
   refine AO (AD ?_)
   refine AY rfl (.tmp rfl .n) ?_
   intro w1 hS; refine ⟨congrArg Value.bool ?_, hS.Am⟩; rw [hI13]; simp only [c1, c2, ↓reduceIte, Bool.false_eq_true]
  have c2p := kz c2
  refine Aa ?_
  refine AB (.t4 1 2 3 7) ?_
  refine AA (CA (Gm rfl (Gt (A5 rfl rfl) (Gm rfl (BW 14 rfl rfl (fun q => AE rfl) (BW 14 rfl rfl (fun q => CH (cF rfl q) rfl) ?_))))))
  refine Gt (BR rfl rfl (fun h => by rw [h]; rfl)) ?_
  refine Gm rfl (BW 18 rfl rfl (fun q => AE rfl) (BW 18 rfl rfl (fun q => Af Cp rfl) ?_))
  refine BW 18 rfl rfl (fun q => by have q1 := q; (try simp at q1); exact AQ Fo (cF rfl q) (cF rfl q) (by omega) (by omega)) ?_
  refine BW 18 rfl rfl (fun q => Af E5 (cF rfl q)) ?_
  refine BW 18 rfl rfl (fun q => by have q1 := q; (try simp at q1); exact AF (cF rfl q) A1 .m0 ((AH.l1.comp (AS.ar (n := 9) Ak.fl (by omega))).comp Ak.l2) rfl rfl) ?_
  refine BW 18 rfl rfl (fun q => CK (cF rfl q) rfl) ?_
  refine Gt (BR rfl rfl (fun h => by rw [h]; rfl)) ?_
  refine Gn (.t5 1 2 3 7 25) ?_
  refine Gc (fun c3 => ?_) (fun c3 => ?_)
  ·
   refine Gs (Ga rfl (Gn (.t1 6) (Ab (AD (AO (AD (AD ?_)))))))
   refine AO (AD ?_)
   refine AY rfl (.tmp rfl .n) ?_
   intro w1 hS; refine ⟨congrArg Value.bool ?_, hS.Am⟩; rw [hI13]; simp only [c1, c2, c3, ↓reduceIte, Bool.false_eq_true]
  have c3p := kz c3
  have h9 : 0 ≤ j ∧ j < 9 := by simp at c3; omega
  refine Aa ?_
  refine AB (.t4 1 2 3 7) ?_
  refine AA (AI (Gm rfl (Gt (Af Cp rfl) ?_)))
  refine Gt (AQ Fo rfl rfl (by omega) (by omega)) ?_
  refine Gt (Af C5 rfl) ?_
  refine Gt (AF rfl A1 .m0 ((AH.l1.comp (AS.ar (n := 9) Ak.fl (by omega))).comp Ak.l3) rfl rfl) ?_
  refine Ga rfl ?_
  refine AP (AB (.t4 1 2 3 7) ?_)
  refine AT (AA (AI ?_))
  refine Gt (Aw rfl rfl (IntWalk.i64_in _ (by omega))) ?_
  refine Gm rfl ?_
  refine AP (AB (.t4 1 2 3 7) ?_)
  refine DP (k + 1) ((X.AX.at j).at_) ?_ ?_ (.t4 1 7 2 3) (.refl _)
  · exact ⟨by omega, by omega, by rw [hI13]; simp only [c1, c2, c3, ↓reduceIte, Bool.false_eq_true]⟩
  · omega
 have c1p := kz c1
 obtain rfl : k = 10 := by omega
 refine Ba (AV (AV (Ah ?_)))
 refine AB (.nil _) ?_
 refine AA (Gs (Ga rfl (AP (AA (Ab ?_)))))
 refine AY rfl (.tmp rfl .n) ?_
 intro w1 hS; refine ⟨congrArg Value.bool ?_, hS.Am⟩; rw [hI13]; rfl
end Go.Proofs.YtoidpggbbfncpaaGreatDoor
