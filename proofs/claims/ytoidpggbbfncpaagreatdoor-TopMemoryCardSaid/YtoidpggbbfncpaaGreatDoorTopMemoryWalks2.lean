/- What the functions that the law TopMemory reaches compute: walks, part 2. No condition. -/
import Derived.Test.YtoidpggbbfncpaaGreatDoorCards
import Derived.Test.YtoidpggbbfncpaaGreatDoorTie
import Derived.Deep.DeepHandedRow
import Derived.Test.YtoidpggbbfncpaaGreatDoorRows
import Derived.Test.YtoidpggbbfncpaaGreatDoorTopMemoryEc3
import Derived.Test.YtoidpggbbfncpaaGreatDoorTopMemoryRa1
import Derived.Test.YtoidpggbbfncpaaGreatDoorTopMemoryRb1
import Derived.Test.YtoidpggbbfncpaaGreatDoorTopMemoryRc1
import Derived.Test.YtoidpggbbfncpaaGreatDoorTopMemoryWalks
set_option linter.unusedSimpArgs false
set_option linter.unusedVariables false
set_option maxRecDepth 100000
set_option maxHeartbeats 1000000
namespace Go.Proofs.YtoidpggbbfncpaaGreatDoor
open Go Go.Ing Go.RowKit Go.ChangeShapes Go.WideShapes Go.ChangeAt
theorem GZ (b : Nat) (T : AG) (g : Hd) (hg : g.len = T.out.length) (hb : 0 ≤ T.b ∧ T.b < 6) (hw : T.w.D4) (hn : T.out.length ≤ 90000) : Ev Tryz.prog 100 #[.pointer (some ⟨b, 0, none⟩)] [Ab.box b 163 (Ad.enc ⟨T.w, T.b, g⟩), Ab.own g 56 16 (T.out.flatMap Ing.Event.enc)] (fun w => (GV 0 AI.C2 w ∧ 0 ∉ CR [Ab.box b 163 (Ad.enc ⟨T.w, T.b, g⟩), Ab.own g 56 16 (T.out.flatMap Ing.Event.enc)])) (fun v B => ∃ g' : Hd, v = .tuple #[] ∧ g'.len = (T.look).out.length ∧ B = [Ab.box b 163 (Ad.enc ⟨(T.look).w, (T.look).b, g'⟩), Ab.own g' 56 16 ((T.look).out.flatMap Ing.Event.enc)]) := by
 intro w hS0 hH
 obtain ⟨gl0, gm0⟩ := hH
 refine Ai _ _ Tryz.func100 rfl rfl rfl (hS0) ?_
 refine Ao ?_
 refine BE (N := 12) [0, 0, 2, 6, 14, 1, 33, 97, 255, 511, 0, 2047] mix (by kernel_rfl) rfl ?_
 refine Pf 0 rfl (AE rfl) (Pf 1 rfl (AE rfl) (Pf 2 rfl (BS rfl) (Pf 3 rfl (Ah CM rfl) (Pf 4 rfl (AF rfl A1 .m0 Ad.l1 rfl rfl) (Pf 5 rfl (BS rfl) (Pf 6 rfl (Ah A6 rfl) (Pf 7 rfl (Ah Bk rfl) ?_)))))))
 refine Pf 8 rfl (AR Cy rfl rfl (by (try dsimp only at *); (try simp only [List.length_append, List.length_cons, List.length_nil]); omega) (by (try dsimp only at *); (try simp only [List.length_append, List.length_cons, List.length_nil]); omega)) ?_
 refine Pf 9 rfl (AZ rfl FF .m0 ((Ad.l0.comp AI.l2).comp (AS.arr (n := 6) Al.fl (by (try dsimp only at *); (try simp only [List.length_append, List.length_cons, List.length_nil]); omega) (by (try dsimp only at *); (try simp only [List.length_append, List.length_cons, List.length_nil]); omega))) rfl) ?_
 refine An 10 rfl (by kernel_rfl) ?_
 refine BB rfl K2 rfl (fun b1 => ?_)
 refine Bm rfl ⟨?_, ?_⟩
 · exact (Po rfl (AZ rfl FF .m1 ((Ad.l0.comp AI.l2).comp (AS.arr (n := 6) Al.fl (by (try dsimp only at *); (try simp only [List.length_append, List.length_cons, List.length_nil]); omega) (by (try dsimp only at *); (try simp only [List.length_append, List.length_cons, List.length_nil]); omega))) rfl) rfl rfl (Po rfl (AR Cy rfl rfl (by (try dsimp only at *); (try simp only [List.length_append, List.length_cons, List.length_nil]); omega) (by (try dsimp only at *); (try simp only [List.length_append, List.length_cons, List.length_nil]); omega)) rfl rfl (Po rfl (Ah Bk rfl) rfl rfl (Po rfl (Ah A6 rfl) rfl rfl (Po rfl (BS rfl) rfl rfl (Po rfl (AF rfl A1 .m1 Ad.l1 rfl rfl) rfl rfl (Po rfl (Ah CM rfl) rfl rfl (Po rfl (BS rfl) rfl rfl (Po rfl (AE rfl) rfl rfl (Po rfl (AE rfl) rfl rfl As))))))))))
 refine An 11 rfl (by kernel_rfl) ?_
 refine AQ (AK (AS.id Al.fl.len Al.fl.one) rfl rfl rfl Jv rfl .h) ?_
 refine BK rfl ⟨?_, ?_⟩
 · exact (Pk (Pk (Pk (Pk (Pk (Pk (Pk (Pk (Pk (Pk As))))))))))
 refine A3 (by kernel_rfl) ?_
 refine AB (.t2 0 2) ?_
 refine AA (Ao (Ao ?_))
 refine BE (N := 8) [0, 1, 3, 7, 0, 16, 63, 127] mix (by kernel_rfl) rfl ?_
 refine Pf 0 rfl (AE rfl) (Pf 1 rfl (BS rfl) (Pf 2 rfl (Ah A6 rfl) (Pf 3 rfl (AZ rfl BT .m1 Ad.l0 rfl) (Pf 4 rfl (Ah Cv rfl) (Pf 5 rfl (AF rfl A1 .m0 Al.l3 rfl rfl) ?_)))))
 refine BW 6 rfl rfl (by kernel_rfl) (LH (Ka (Dv S9 (.c rfl (.c rfl .n)) (fun w hS => EL _ _ w)))) ?_
 refine Pf 7 rfl (BQ rfl) ?_
 refine A3 (by kernel_rfl) ?_
 refine AB (.t3 0 2 26) ?_
 refine AA ?_
 refine Gc (fun c1 => ?_) (fun c1 => ?_)
 ·
  have c1p := kz c1
  refine Gs (Gm rfl ?_)
  refine Ag rfl D3 (.c rfl (.c rfl .n)) (.c (.t .h) (.c (.t .h) .n)) (Bb _ _ _ _ (by assumption) (by first | exact hb | (rw [hXb]; exact hb)) (by (try simp only [AG.CD, AG.CU, (AG.IP _ _ _).2.2] at *); (try dsimp only at *); omega)) (fun v1 B hv => ?_)
  obtain ⟨y2, rfl, y3, rfl⟩ := hv
  refine Gn (.nil _) (Ac (AD ?_))
  refine AY rfl .n ?_
  intro w1 hS
  have hS := (hS.perm (Av.perm (.c .h (.c .h .n)))).Ay
  refine ⟨_, ⟨?gq1, rfl, ?hl1, ?hB1⟩, hS⟩
  case hB1 => rw [show T.look = _ from BC c1]; rfl
  case hl1 => rw [show T.look = _ from BC c1]; assumption
 have c1p := kz c1
 have hr := AI.R1 c1
 have hnr := hw.ro (T.w.AW.at T.b).room
 refine Aa ?_
 refine AB (.t2 0 2) ?_
 refine AA (Ao ?_)
 refine BE (N := 10) [0, 0, 2, 1, 9, 25, 63, 127, 0, 511] mix (by kernel_rfl) rfl ?_
 refine Pf 0 rfl (AE rfl) (Pf 1 rfl (Ah Cv rfl) (Pf 2 rfl (AF rfl A1 .m0 Al.l3 rfl rfl) (Pf 3 rfl (BS rfl) (Pf 4 rfl (Ah A6 rfl) (Pf 5 rfl (Ah GJ rfl) ?_)))))
 refine Pf 6 rfl (AR N6 rfl rfl (by (try dsimp only at *); (try simp only [List.length_append, List.length_cons, List.length_nil]); omega) (by (try dsimp only at *); (try simp only [List.length_append, List.length_cons, List.length_nil]); omega)) ?_
 refine Pf 7 rfl (AZ rfl MK .m1 ((Ad.l0.comp AI.l0).comp (AS.arr (n := 6) Room.fl (by (try dsimp only at *); (try simp only [List.length_append, List.length_cons, List.length_nil]); omega) (by (try dsimp only at *); (try simp only [List.length_append, List.length_cons, List.length_nil]); omega))) rfl) ?_
 refine An 8 rfl (by kernel_rfl) ?_
 refine BB rfl NV rfl (fun b2 => ?_)
 refine Bm rfl ⟨?_, ?_⟩
 · exact (Po rfl (AZ rfl MK .m2 ((Ad.l0.comp AI.l0).comp (AS.arr (n := 6) Room.fl (by (try dsimp only at *); (try simp only [List.length_append, List.length_cons, List.length_nil]); omega) (by (try dsimp only at *); (try simp only [List.length_append, List.length_cons, List.length_nil]); omega))) rfl) rfl rfl (Po rfl (AR N6 rfl rfl (by (try dsimp only at *); (try simp only [List.length_append, List.length_cons, List.length_nil]); omega) (by (try dsimp only at *); (try simp only [List.length_append, List.length_cons, List.length_nil]); omega)) rfl rfl (Po rfl (Ah GJ rfl) rfl rfl (Po rfl (Ah A6 rfl) rfl rfl (Po rfl (BS rfl) rfl rfl (Po rfl (AF rfl A1 .m1 Al.l3 rfl rfl) rfl rfl (Po rfl (Ah Cv rfl) rfl rfl (Po rfl (AE rfl) rfl rfl As))))))))
 refine An 9 rfl (by kernel_rfl) ?_
 refine AQ (AK (AS.id Room.fl.len Room.fl.one) rfl rfl rfl Pt rfl .h) ?_
 refine BK rfl ⟨?_, ?_⟩
 · exact (Pk (Pk (Pk (Pk (Pk (Pk (Pk (Pk As))))))))
 refine A3 (by kernel_rfl) ?_
 refine AB (.t3 0 2 3) ?_
 refine AA (Gs (Gm rfl (Gt (Ah Yf rfl) (Gt (AF rfl CC .m0 Room.l0 rfl rfl) ?_))))
 refine Gt (CQ rfl rfl (by (try dsimp only at *); (try simp only [List.length_append, List.length_cons, List.length_nil]); omega)) ?_
 refine Gt (CQ rfl rfl (by (try dsimp only at *); (try simp only [List.length_append, List.length_cons, List.length_nil]); omega)) ?_
 refine Ag rfl D3 (.c rfl (.c rfl .n)) (.c (.t (.t .h)) (.c (.t (.t .h)) .n)) (Bb _ _ _ _ (by assumption) (by first | exact hb | (rw [hXb]; exact hb)) (by (try simp only [AG.CD, AG.CU, (AG.IP _ _ _).2.2] at *); (try dsimp only at *); omega)) (fun v4 B hv => ?_)
 obtain ⟨y5, rfl, y6, rfl⟩ := hv
 refine Gn (.t3 0 2 3) (Gs (Ga rfl (AM (AA (CB (Gt (Ah L5 rfl) (Gt (AZ rfl U5 .m2 Room.l2 rfl) ?_)))))))
 refine Gm rfl (Gn (.t6 0 2 3 4 44 45) (Ae ?_))
 refine Bf (.t6 4 45 0 2 3 44) ?_
 refine ET (fun (k : Int) (x : Au) => 0 ≤ k ∧ k ≤ 6 ∧ x = AG.H6 (T.w.By.at T.me.room) k.toNat) (fun (k : Int) (x : Au) => (6 - k).toNat) (fun (k : Int) (x : Au) => [(4, BO x), (45, .int .i64 k)]) (fun (k : Int) (x : Au) => []) (0) (_) ?_ rfl rfl (fun k x hI1 => ?_)
 · exact ⟨by omega, by omega, rfl⟩
 obtain ⟨hI11, hI12, hI13⟩ := hI1
 refine Gs (Gt (A5 rfl rfl) (AM (AA (Ao ?_))))
 refine Gc (fun c2 => ?_) (fun c2 => ?_)
 ·
  have c2p := kz c2
  have hcl := AI.IU k
  have hwl := AG.Ld (T.w.By.at T.me.room) k.toNat
  rw [← hI13] at hwl
  have hst := AG.Rr (r := T.w.By.at T.me.room) hI11
  refine Aa ?_
  refine AB (.t6 0 2 3 4 44 45) ?_
  refine AA (Ao (Ae (Gs (Gm rfl ?_))))
  refine Gt (JY Bz Tryz.underlying23 C5 A1 rfl rfl (by (try dsimp only at *); (try simp only [List.length_append, List.length_cons, List.length_nil]); omega) (by (try dsimp only at *); (try simp only [List.length_append, List.length_cons, List.length_nil]); omega) rfl) ?_
  refine Ga rfl (Ga rfl (Gn (.t8 0 2 3 4 5 6 44 45) (CB (Gm rfl (Gt (Aj rfl rfl) (Gn (.t8 0 2 3 4 5 44 45 50) ?_))))))
  refine Gc (fun c3 => ?_) (fun c3 => ?_)
  ·
   have c3p := kz c3
   have cp3 : decide ((T.w.By.at T.me.room).Db.at k = 0) = true := c3
   rw [BC cp3] at hst
   refine BV (AT (Af ?_))
   refine AB (.t6 0 2 3 4 44 45) ?_
   refine AA (AJ ?_)
   refine Gt (Aw rfl rfl (IntWalk.i64_in _ (by (try dsimp only at *); (try simp only [List.length_append, List.length_cons, List.length_nil]); omega))) ?_
   refine Gm rfl ?_
   refine AM (AB (.t6 0 2 3 4 44 45) ?_)
   refine Cn (k + 1) _ ?_ ?_ (.t6 4 45 0 2 3 44) (.refl _)
   · exact ⟨by omega, by omega, by rw [hst, ← hI13]⟩
   · omega
  have c3p := kz c3
  have cp3 : decide ((T.w.By.at T.me.room).Db.at k = 0) = false := c3
  rw [AV cp3] at hst
  refine Aa ?_
  refine AB (.t7 0 2 3 4 5 44 45) ?_
  refine AA (Gs (Gm rfl (Gm rfl ?_)))
  refine A8 rfl Zt (.c rfl .n) (fun w hS => HP _ w (gl0.stM gm0 hS)) ?_
  refine Gt (CQ rfl rfl (by (try dsimp only at *); (try simp only [List.length_append, List.length_cons, List.length_nil]); omega)) ?_
  refine Gt (CQ rfl rfl (by (try dsimp only at *); (try simp only [List.length_append, List.length_cons, List.length_nil]); omega)) ?_
  refine Ga rfl (Gn (.t7 0 2 3 4 5 44 45) (Gs (Gm rfl (Gt (Ah L0 rfl) ?_))))
  refine Gt (AR Tu rfl rfl (by (try dsimp only at *); (try simp only [List.length_append, List.length_cons, List.length_nil]); omega) (by (try dsimp only at *); (try simp only [List.length_append, List.length_cons, List.length_nil]); omega)) ?_
  refine Gt (AF rfl Ct .m2 (Room.l3.comp (AS.arr (n := 6) Gh (by (try dsimp only at *); (try simp only [List.length_append, List.length_cons, List.length_nil]); omega) (by (try dsimp only at *); (try simp only [List.length_append, List.length_cons, List.length_nil]); omega))) rfl rfl) ?_
  refine Gn (.t7 0 2 3 4 44 45 59) ?_
  refine Gc (fun c4 => ?_) (fun c4 => ?_)
  ·
   have c4p := kz c4
   have cp4 : (T.w.By.at T.me.room).shut.at k = true := c4
   rw [BC cp4] at hst
   refine AJ (Gm rfl ?_)
   refine Gt (CQ rfl rfl (by (try dsimp only at *); (try simp only [List.length_append, List.length_cons, List.length_nil]); omega)) ?_
   refine Ga rfl ?_
   refine AM (AB (.t6 0 2 3 4 44 45) ?_)
   refine AU (AA (AJ ?_))
   refine Gt (Aw rfl rfl (IntWalk.i64_in _ (by (try dsimp only at *); (try simp only [List.length_append, List.length_cons, List.length_nil]); omega))) ?_
   refine Gm rfl ?_
   refine AM (AB (.t6 0 2 3 4 44 45) ?_)
   refine Cn (k + 1) _ ?_ ?_ (.t6 4 45 0 2 3 44) (.refl _)
   · exact ⟨by omega, by omega, by rw [hst, ← hI13]⟩
   · omega
  have c4p := kz c4
  have cp4 : (T.w.By.at T.me.room).shut.at k = false := c4
  rw [AV cp4] at hst
  refine Aa ?_
  refine AB (.t6 0 2 3 4 44 45) ?_
  refine AU (AA (AJ ?_))
  refine Gt (Aw rfl rfl (IntWalk.i64_in _ (by (try dsimp only at *); (try simp only [List.length_append, List.length_cons, List.length_nil]); omega))) ?_
  refine Gm rfl ?_
  refine AM (AB (.t6 0 2 3 4 44 45) ?_)
  refine Cn (k + 1) _ ?_ ?_ (.t6 4 45 0 2 3 44) (.refl _)
  · exact ⟨by omega, by omega, by rw [hst, ← hI13]⟩
  · omega
 have c2p := kz c2
 obtain rfl : k = 6 := by omega
 subst hI13
 refine BV (AT (AT (Af ?_)))
 refine AB (.t3 0 2 4) ?_
 refine AA (Gs (Gm rfl (Gm rfl ?_)))
 refine Ag rfl D3 (.c rfl (.c rfl .n)) (.c .h (.c .h .n)) (Bb _ _ _ _ (by assumption) (by first | exact hb | (rw [hXb]; exact hb)) (by (try simp only [AG.CD, AG.CU, (AG.IP _ _ _).2.2] at *); (try dsimp only at *); omega)) (fun v7 B hv => ?_)
 obtain ⟨y8, rfl, y9, rfl⟩ := hv
 refine Gn (.t2 0 2) (Ao (Ao ?_))
 refine BE (N := 8) [0, 1, 3, 7, 0, 16, 63, 127] mix (by kernel_rfl) rfl ?_
 refine Pf 0 rfl (AE rfl) (Pf 1 rfl (BS rfl) (Pf 2 rfl (Ah A6 rfl) (Pf 3 rfl (AZ rfl BT .m0 Ad.l0 rfl) (Pf 4 rfl (Ah Cv rfl) (Pf 5 rfl (AF rfl A1 .m3 Al.l3 rfl rfl) ?_)))))
 refine An 6 rfl (by kernel_rfl) ?_
 refine Ag rfl Qi (.c rfl (.c rfl (.c rfl .n))) .n (Ey _ _ _) (fun v10 B hv => ?_)
 obtain ⟨y11, rfl, y12, rfl⟩ := hv
 refine Bm rfl ⟨?_, ?_⟩
 · exact (Pk (Pk (Pk (Pk (Pk (Pk As))))))
 refine Pf 7 rfl (Az rfl) ?_
 refine A3 (by kernel_rfl) ?_
 refine AB (.t2 0 7) ?_
 refine AA (Gs (Gm rfl (Gt (Aq rfl Tryz.underlying169 rfl) (Gt (Cf rfl rfl) (Gn (.t3 0 7 75) ?_)))))
 refine Gc (fun c5 => ?_) (fun c5 => ?_)
 ·
  have c5p := kz c5
  rw [y12] at c5
  refine AJ (Gm rfl (Gm rfl ?_))
  refine Ag rfl YI (.c rfl (.c rfl (.c rfl .n))) (.c (.t .h) (.c (.t .h) (.c .h .n))) (Kp _ T.J0 _ [72, 101, 114, 101, 32, 105, 115] _ (T.w.has 0 T.me.room) (by assumption) hb (by assumption) (AI.Hq _ _ _) (fun i hi => AI.Gb hi) hw (by decide) (by rw [(AG.Sq T).2.2]; omega)) (fun v14 B hv => ?_)
  obtain ⟨y15, rfl, y16, rfl⟩ := hv
  refine Gn (.t1 0) (Gs (Gm rfl (AM (AA (Ae ?_)))))
  refine Bf (.t2 79 0) ?_
  refine BU (.t .h) ?_
  refine BU (.t .h) ?_
  refine Dh (fun (k : Int) (X : AG) (h : Hd) => 0 ≤ k ∧ k ≤ 6 ∧ X = T.D0.FZ k.toNat ∧ h.len = X.out.length) (fun (k : Int) (X : AG) (h : Hd) => (6 - k).toNat) (fun (k : Int) (X : AG) (h : Hd) => [(79, .int .i64 k)]) (fun (k : Int) (X : AG) (h : Hd) => [Ab.box b 163 (Ad.enc ⟨X.w, X.b, h⟩), Ab.own h 56 16 (X.out.flatMap Ing.Event.enc)]) (0) (_) (_) ?_ rfl rfl (fun k X h hI2 => ?_)
  · exact ⟨by omega, by omega, (show T.D0 = _ from BC c5).symm, by assumption⟩
  obtain ⟨hI21, hI22, hI23, hI24⟩ := hI2
  refine Gs (Gt (A5 rfl rfl) (AM (AA (Ao ?_))))
  refine Gc (fun c6 => ?_) (fun c6 => ?_)
  ·
   have c6p := kz c6
   have hnb := hw.be k
   have hXl := AG.Ks T.D0 k.toNat
   have hBl := AG.QR T
   rw [← hI23] at hXl
   have hXw : X.w = T.w := hXl.1.trans hBl.1
   have hXb : X.b = T.b := hXl.2.1.trans hBl.2.1
   rw [← hXw] at hnb
   refine Aa ?_
   refine AB (.t2 0 79) ?_
   refine AA (Ao (Ae (Gs (Gm rfl (Ga rfl (Gn (.t3 0 8 79) (Ao ?_)))))))
   refine BE (N := 18) [0, 0, 2, 6, 14, 31, 63, 127, 255, 511, 1023, 127, 2175, 6271, 14463, 127, 65535, 131071] mix (by kernel_rfl) rfl ?_
   refine Pf 0 rfl (AE rfl) (Pf 1 rfl (AE rfl) (Pf 2 rfl (BS rfl) (Pf 3 rfl (Ah CM rfl) (Pf 4 rfl (AF rfl A1 .m0 Ad.l1 rfl rfl) (Pf 5 rfl (CT rfl rfl) (Pf 6 rfl (AE rfl) (Lc 7 88 rfl rfl rfl (fun q => AE rfl) ?_)))))))
   refine Lc 8 88 rfl rfl rfl (fun q => BS (BX rfl q)) (Lc 9 88 rfl rfl rfl (fun q => Ah A6 (BX rfl q)) (Lc 10 88 rfl rfl rfl (fun q => AZ (BX rfl q) BT .m0 Ad.l0 rfl) (Lc 11 88 rfl rfl rfl (fun q => AE rfl) (Lc 12 88 rfl rfl rfl (fun q => BS (BX rfl q)) (Lc 13 88 rfl rfl rfl (fun q => Ah CM (BX rfl q)) (Lc 14 88 rfl rfl rfl (fun q => AF (BX rfl q) A1 .m0 Ad.l1 rfl rfl) (Lc 15 88 rfl rfl rfl (fun q => AE rfl) ?_)))))))
   refine BW 16 rfl rfl (by kernel_rfl) (Q0 (t := 88) rfl rfl (fun q => Ka (Dv Mv (.c (BX rfl q) (.c (BX rfl q) (.c (BX rfl q) .n))) (fun w hS => DF _ _ _ w)))) ?_
   refine Pf 17 rfl (BH rfl rfl (fun h => h)) ?_
   refine A3 (by kernel_rfl) ?_
   refine AB (.t4 0 8 79 99) ?_
   refine AA ?_
   refine Gc (fun c7 => ?_) (fun c7 => ?_)
   ·
    have c7p := kz c7
    have cp7 : (!decide (k = T.D0.b) && T.D0.w.H5 T.D0.b k) = true := by rw [hBl.1, hBl.2.1, ← hXw, ← hXb]; exact c7
    refine AJ (Gm rfl (Gm rfl (Gm rfl (Gt (BS rfl) (Gt (Ah A6 rfl) (Gt (Ah Bk rfl) ?_))))))
    refine Gt (AR Cy rfl rfl (by (try dsimp only at *); (try simp only [List.length_append, List.length_cons, List.length_nil]); omega) (by (try dsimp only at *); (try simp only [List.length_append, List.length_cons, List.length_nil]); omega)) ?_
    refine Gt (Ah KX rfl) ?_
    refine Gt (AF rfl CC .m0 (((Ad.l0.comp AI.l2).comp (AS.arr (n := 6) Al.fl (by (try dsimp only at *); (try simp only [List.length_append, List.length_cons, List.length_nil]); omega) (by (try dsimp only at *); (try simp only [List.length_append, List.length_cons, List.length_nil]); omega))).comp Al.l0) rfl rfl) ?_
    refine Gt (CQ rfl rfl (by (try dsimp only at *); (try simp only [List.length_append, List.length_cons, List.length_nil]); omega)) ?_
    refine Ag rfl D3 (.c rfl (.c rfl .n)) (.c .h (.c .h .n)) (Bb _ _ _ _ (by assumption) (by first | exact hb | (rw [hXb]; exact hb)) (by (try simp only [AG.CD, AG.CU, (AG.IP _ _ _).2.2] at *); (try dsimp only at *); omega)) (fun v17 B hv => ?_)
    obtain ⟨y18, rfl, y19, rfl⟩ := hv
    refine AM (AB (.t2 0 79) ?_)
    refine AU (AA (AJ ?_))
    refine Gt (Aw rfl rfl (IntWalk.i64_in _ (by (try dsimp only at *); (try simp only [List.length_append, List.length_cons, List.length_nil]); omega))) ?_
    refine Gm rfl ?_
    refine AM (AB (.t2 0 79) ?_)
    refine Bu (k + 1) _ _ ?_ ?_ (.t2 79 0) (.refl _)
    · exact ⟨by omega, by omega, by rw [AG.Il hI21, BC cp7, ← hI23, hBl.1, ← hXw], by assumption⟩
    · omega
   have c7p := kz c7
   have cp7 : (!decide (k = T.D0.b) && T.D0.w.H5 T.D0.b k) = false := by rw [hBl.1, hBl.2.1, ← hXw, ← hXb]; exact c7
   refine Aa ?_
   refine AB (.t2 0 79) ?_
   refine AU (AA (AJ ?_))
   refine Gt (Aw rfl rfl (IntWalk.i64_in _ (by (try dsimp only at *); (try simp only [List.length_append, List.length_cons, List.length_nil]); omega))) ?_
   refine Gm rfl ?_
   refine AM (AB (.t2 0 79) ?_)
   refine Bu (k + 1) _ _ ?_ ?_ (.t2 79 0) (.refl _)
   · exact ⟨by omega, by omega, by rw [AG.Il hI21, AV cp7, ← hI23], by assumption⟩
   · omega
  have c6p := kz c6
  obtain rfl : k = 6 := by omega
  refine BV (AT (AT (Af ?_)))
  refine Bh rfl .n ?_
  intro w1 hS
  have hS := (hS.perm (Av.perm (.c .h (.c .h .n)))).Ay
  have hq : T.look = X := (show T.look = _ from AV c1).trans hI23.symm
  refine ⟨_, ⟨?gqc6, rfl, ?hlc6, ?hBc6⟩, hS⟩
  case hBc6 => rw [hq]
  case hlc6 => rw [hq]; assumption
 have c5p := kz c5
 rw [y12] at c5
 refine Aa ?_
 refine AB (.t1 0) ?_
 refine AA (Gs (Gm rfl (AM (AA (Ae ?_)))))
 refine Bf (.t2 79 0) ?_
 refine BU (.t (.t .h)) ?_
 refine BU (.t (.t .h)) ?_
 refine Dh (fun (k : Int) (X : AG) (h : Hd) => 0 ≤ k ∧ k ≤ 6 ∧ X = T.D0.FZ k.toNat ∧ h.len = X.out.length) (fun (k : Int) (X : AG) (h : Hd) => (6 - k).toNat) (fun (k : Int) (X : AG) (h : Hd) => [(79, .int .i64 k)]) (fun (k : Int) (X : AG) (h : Hd) => [Ab.box b 163 (Ad.enc ⟨X.w, X.b, h⟩), Ab.own h 56 16 (X.out.flatMap Ing.Event.enc)]) (0) (_) (_) ?_ rfl rfl (fun k X h hI2 => ?_)
 · exact ⟨by omega, by omega, (show T.D0 = _ from AV c5).symm, by assumption⟩
 obtain ⟨hI21, hI22, hI23, hI24⟩ := hI2
 refine Gs (Gt (A5 rfl rfl) (AM (AA (Ao ?_))))
 refine Gc (fun c8 => ?_) (fun c8 => ?_)
 ·
  have c8p := kz c8
  have hnb := hw.be k
  have hXl := AG.Ks T.D0 k.toNat
  have hBl := AG.QR T
  rw [← hI23] at hXl
  have hXw : X.w = T.w := hXl.1.trans hBl.1
  have hXb : X.b = T.b := hXl.2.1.trans hBl.2.1
  rw [← hXw] at hnb
  refine Aa ?_
  refine AB (.t2 0 79) ?_
  refine AA (Ao (Ae (Gs (Gm rfl (Ga rfl (Gn (.t3 0 8 79) (Ao ?_)))))))
  refine BE (N := 18) [0, 0, 2, 6, 14, 31, 63, 127, 255, 511, 1023, 127, 2175, 6271, 14463, 127, 65535, 131071] mix (by kernel_rfl) rfl ?_
  refine Pf 0 rfl (AE rfl) (Pf 1 rfl (AE rfl) (Pf 2 rfl (BS rfl) (Pf 3 rfl (Ah CM rfl) (Pf 4 rfl (AF rfl A1 .m0 Ad.l1 rfl rfl) (Pf 5 rfl (CT rfl rfl) (Pf 6 rfl (AE rfl) (Lc 7 88 rfl rfl rfl (fun q => AE rfl) ?_)))))))
  refine Lc 8 88 rfl rfl rfl (fun q => BS (BX rfl q)) (Lc 9 88 rfl rfl rfl (fun q => Ah A6 (BX rfl q)) (Lc 10 88 rfl rfl rfl (fun q => AZ (BX rfl q) BT .m0 Ad.l0 rfl) (Lc 11 88 rfl rfl rfl (fun q => AE rfl) (Lc 12 88 rfl rfl rfl (fun q => BS (BX rfl q)) (Lc 13 88 rfl rfl rfl (fun q => Ah CM (BX rfl q)) (Lc 14 88 rfl rfl rfl (fun q => AF (BX rfl q) A1 .m0 Ad.l1 rfl rfl) (Lc 15 88 rfl rfl rfl (fun q => AE rfl) ?_)))))))
  refine BW 16 rfl rfl (by kernel_rfl) (Q0 (t := 88) rfl rfl (fun q => Ka (Dv Mv (.c (BX rfl q) (.c (BX rfl q) (.c (BX rfl q) .n))) (fun w hS => DF _ _ _ w)))) ?_
  refine Pf 17 rfl (BH rfl rfl (fun h => h)) ?_
  refine A3 (by kernel_rfl) ?_
  refine AB (.t4 0 8 79 99) ?_
  refine AA ?_
  refine Gc (fun c9 => ?_) (fun c9 => ?_)
  ·
   have c9p := kz c9
   have cp7 : (!decide (k = T.D0.b) && T.D0.w.H5 T.D0.b k) = true := by rw [hBl.1, hBl.2.1, ← hXw, ← hXb]; exact c9
   refine AJ (Gm rfl (Gm rfl (Gm rfl (Gt (BS rfl) (Gt (Ah A6 rfl) (Gt (Ah Bk rfl) ?_))))))
   refine Gt (AR Cy rfl rfl (by (try dsimp only at *); (try simp only [List.length_append, List.length_cons, List.length_nil]); omega) (by (try dsimp only at *); (try simp only [List.length_append, List.length_cons, List.length_nil]); omega)) ?_
   refine Gt (Ah KX rfl) ?_
   refine Gt (AF rfl CC .m0 (((Ad.l0.comp AI.l2).comp (AS.arr (n := 6) Al.fl (by (try dsimp only at *); (try simp only [List.length_append, List.length_cons, List.length_nil]); omega) (by (try dsimp only at *); (try simp only [List.length_append, List.length_cons, List.length_nil]); omega))).comp Al.l0) rfl rfl) ?_
   refine Gt (CQ rfl rfl (by (try dsimp only at *); (try simp only [List.length_append, List.length_cons, List.length_nil]); omega)) ?_
   refine Ag rfl D3 (.c rfl (.c rfl .n)) (.c .h (.c .h .n)) (Bb _ _ _ _ (by assumption) (by first | exact hb | (rw [hXb]; exact hb)) (by (try simp only [AG.CD, AG.CU, (AG.IP _ _ _).2.2] at *); (try dsimp only at *); omega)) (fun v20 B hv => ?_)
   obtain ⟨y21, rfl, y22, rfl⟩ := hv
   refine AM (AB (.t2 0 79) ?_)
   refine AU (AA (AJ ?_))
   refine Gt (Aw rfl rfl (IntWalk.i64_in _ (by (try dsimp only at *); (try simp only [List.length_append, List.length_cons, List.length_nil]); omega))) ?_
   refine Gm rfl ?_
   refine AM (AB (.t2 0 79) ?_)
   refine Bu (k + 1) _ _ ?_ ?_ (.t2 79 0) (.refl _)
   · exact ⟨by omega, by omega, by rw [AG.Il hI21, BC cp7, ← hI23, hBl.1, ← hXw], by assumption⟩
   · omega
  have c9p := kz c9
  have cp7 : (!decide (k = T.D0.b) && T.D0.w.H5 T.D0.b k) = false := by rw [hBl.1, hBl.2.1, ← hXw, ← hXb]; exact c9
  refine Aa ?_
  refine AB (.t2 0 79) ?_
  refine AU (AA (AJ ?_))
  refine Gt (Aw rfl rfl (IntWalk.i64_in _ (by (try dsimp only at *); (try simp only [List.length_append, List.length_cons, List.length_nil]); omega))) ?_
  refine Gm rfl ?_
  refine AM (AB (.t2 0 79) ?_)
  refine Bu (k + 1) _ _ ?_ ?_ (.t2 79 0) (.refl _)
  · exact ⟨by omega, by omega, by rw [AG.Il hI21, AV cp7, ← hI23], by assumption⟩
  · omega
 have c8p := kz c8
 obtain rfl : k = 6 := by omega
 refine BV (AT (AT (Af ?_)))
 refine Bh rfl .n ?_
 intro w1 hS
 have hS := (hS.perm (Av.perm (.c .h (.c .h .n)))).Ay
 have hq : T.look = X := (show T.look = _ from AV c1).trans hI23.symm
 refine ⟨_, ⟨?gqc8, rfl, ?hlc8, ?hBc8⟩, hS⟩
 case hBc8 => rw [hq]
 case hlc8 => rw [hq]; assumption
theorem La (X : AI) (s : Au) (hw : X.D4) (hs : s.length ≤ 100000000) : Ev Tryz.prog 114 #[.agg X.enc.toArray, BO s] [] (fun w => (GV 0 AI.C2 w ∧ 0 ∉ CR [])) (fun v B => ∃ h : Hd, v = .tuple #[.agg ((AG.Bj X s).1.enc).toArray, .int .i64 (AG.Bj X s).2.1, h.val, .int .i64 (AG.Bj X s).2.2.2] ∧ h.len = (AG.Bj X s).2.2.1.length ∧ B = [Ab.own h 56 16 ((AG.Bj X s).2.2.1.flatMap Ing.Event.enc)]) := by
 intro w hS0 hH
 obtain ⟨gl0, gm0⟩ := hH
 refine Ai _ _ Tryz.func114 rfl rfl rfl (hS0) ?_
 refine Gs ?_
 refine Bw rfl rfl rfl (fun b1 => ?_)
 refine BB rfl LX rfl (fun b2 => ?_)
 refine Ga rfl (Ga rfl (Ga rfl (Gn (.t3 1 2 4) (CB (Gt (AZ rfl BT .m1 (AS.id AI.fl.len AI.fl.one) rfl) ?_)))))
 refine A8 rfl YM (.c rfl .n) (fun w hS => Gv _ w) ?_
 refine Gt (BQ rfl) (Gn (.t4 1 2 4 14) ?_)
 refine Gc (fun c1 => ?_) (fun c1 => ?_)
 ·
  refine Gs (Gt (AZ rfl BT .m1 (AS.id AI.fl.len AI.fl.one) rfl) ?_)
  refine AQ (AK (AS.id AI.fl.len AI.fl.one) rfl rfl rfl Dw rfl .h) ?_
  refine Ga rfl (Ga rfl (Ga rfl (Gn (.t4 4 5 6 7) (Ac (AD ?_)))))
  refine AY rfl (.cell rfl .m0 (.inl ⟨(by rw [AI.fl.len]; exact BT), rfl⟩) (.tmp rfl (.tmp rfl (.tmp rfl .n)))) ?_
  intro w1 hS
  have hS := hS.Cj 56 16
  have hS := (hS.perm (Av.perm (.c .h .n))).Ay
  have hq : AG.Bj X s = _ := BC c1
  refine ⟨_, ⟨⟨none, 0, 0⟩, ?hv, ?hl, ?hB⟩, hS⟩
  case hv => rw [hq]; rfl
  case hl => rw [hq]; rfl
  case hB => rw [hq]; rfl
 have c1p := kz c1
 refine Aa ?_
 refine AB (.t3 1 2 4) ?_
 refine AA (CB (Gm rfl ?_))
 refine A8 rfl bI (.c rfl .n) (fun w hS => L2 _ (by first | assumption | omega) w) ?_
 refine Gt (BQ rfl) (Gn (.t4 1 2 4 18) ?_)
 refine Gc (fun c2 => ?_) (fun c2 => ?_)
 ·
  refine Gs (Gt (AZ rfl BT .m1 (AS.id AI.fl.len AI.fl.one) rfl) ?_)
  refine AQ (AK (AS.id AI.fl.len AI.fl.one) rfl rfl rfl Dw rfl .h) ?_
  refine Ga rfl (Ga rfl (Ga rfl (Gn (.t4 4 5 6 7) (Ac (AD ?_)))))
  refine AY rfl (.cell rfl .m0 (.inl ⟨(by rw [AI.fl.len]; exact BT), rfl⟩) (.tmp rfl (.tmp rfl (.tmp rfl .n)))) ?_
  intro w1 hS
  have hS := hS.Cj 56 16
  have hS := (hS.perm (Av.perm (.c .h .n))).Ay
  have hq : AG.Bj X s = _ := (AV c1).trans (BC c2)
  refine ⟨_, ⟨⟨none, 0, 0⟩, ?hv, ?hl, ?hB⟩, hS⟩
  case hv => rw [hq]; rfl
  case hl => rw [hq]; rfl
  case hB => rw [hq]; rfl
 have c2p := kz c2
 refine Aa ?_
 refine AB (.t3 1 2 4) ?_
 refine AA (CB (Gt (Ah Bk rfl) (Gt (AZ rfl Vp .m1 AI.l2 rfl) (Gm rfl (Gn (.t5 1 2 4 21 22) (Ae ?_))))))
 refine Bf (.t5 22 1 2 4 21) ?_
 refine CJ (fun (k : Int) => 0 ≤ k ∧ k ≤ 6 ∧ CA 6 (fun k => !AG.K3 X s k) 6 = CA 6 (fun k => !AG.K3 X s k) (6 - k).toNat) (fun (k : Int) => (6 - k).toNat) (fun (k : Int) => [(22, .int .i64 k)]) (fun (k : Int) => []) (0) ?_ rfl rfl (fun k hI1 => ?_)
 · exact ⟨by omega, by omega, rfl⟩
 obtain ⟨hI11, hI12, hI13⟩ := hI1
 refine Gs (Gt (A5 rfl rfl) (AM (AA (Ao ?_))))
 refine Gc (fun c3 => ?_) (fun c3 => ?_)
 ·
  have c3p := kz c3
  refine Aa ?_
  refine AB (.t5 1 2 4 21 22) ?_
  refine AA (Ao (Ae (Gs ?_)))
  refine Gt (Fm Al.fl Tryz.underlying33 FF rfl rfl (by first | omega | exact hb.1 | exact hb.2 | (dsimp only; omega)) (by first | omega | exact hb.1 | exact hb.2 | (dsimp only; omega))) ?_
  refine BB rfl K2 rfl (fun b3 => ?_)
  refine AQ (AK (AS.id Al.fl.len Al.fl.one) rfl rfl rfl Jv rfl .h) ?_
  refine Gn (.t6 1 2 4 9 21 22) (Gs (Gt (Ah Hp rfl) (Gt (AF rfl Ct .m0 Al.l1 rfl rfl) (Gm rfl (Ba 27 rfl rfl (fun q => Ah KX rfl) (Ba 27 rfl rfl (fun q => AF (BX rfl q) CC .m0 Al.l0 rfl rfl) (Ba 27 rfl rfl (fun q => AE rfl) ?_)))))))
  refine Ba 27 rfl rfl (fun q => Bo (BX rfl q) (BX rfl q)) (Gt (BH rfl rfl (fun h => h)) (Gn (.t6 1 2 4 21 22 32) ?_))
  refine Gc (fun c4 => ?_) (fun c4 => ?_)
  ·
   have c4p := kz c4
   refine Gs (Gt (AZ rfl BT .m2 (AS.id AI.fl.len AI.fl.one) rfl) ?_)
   refine AQ (AK (AS.id AI.fl.len AI.fl.one) rfl rfl rfl Dw rfl (.t .h)) ?_
   refine Ga rfl (Ga rfl (Ga rfl (Gn (.t4 4 5 6 7) (Ac (AP (AD (AD ?_)))))))
   refine AP (AD ?_)
   refine AY rfl (.cell rfl .m1 (.inl ⟨(by rw [AI.fl.len]; exact BT), rfl⟩) (.tmp rfl (.tmp rfl (.tmp rfl .n)))) ?_
   intro w1 hS
   have hS := hS.Cj 56 16
   have hS := (hS.perm (Av.perm (.c .h .n))).Ay
   have ha : (!CA 6 (fun k => !AG.K3 X s k) 6) = true := by rw [hI13, C6 (fun k => !AG.K3 X s k) (show k < 6 by omega), show AG.K3 X s k = true from c4]; rfl
   have hq : AG.Bj X s = _ := (AV c1).trans ((AV c2).trans (BC ha))
   refine ⟨_, ⟨⟨none, 0, 0⟩, ?hv, ?hl, ?hB⟩, hS⟩
   case hv => rw [hq]; rfl
   case hl => rw [hq]; rfl
   case hB => rw [hq]; rfl
  have c4p := kz c4
  refine Aa ?_
  refine AB (.t5 1 2 4 21 22) ?_
  refine AU (AA (AJ ?_))
  refine Gt (Aw rfl rfl (IntWalk.i64_in _ (by first | omega | exact hb.1 | exact hb.2 | (dsimp only; omega)))) ?_
  refine Gm rfl ?_
  refine AM (AB (.t5 1 2 4 21 22) ?_)
  refine Bx (k + 1) ?_ ?_ (.t5 22 1 2 4 21) (.cons _ (.refl _))
  · exact ⟨by omega, by omega, by rw [hI13, C6 (fun k => !AG.K3 X s k) (show k < 6 by omega), show AG.K3 X s k = false from c4]; rfl⟩
  · omega
 have c3p := kz c3
 have hno : (!CA 6 (fun k => !AG.K3 X s k) 6) = false := by rw [hI13, show (6 - k).toNat = 0 by omega]; rfl
 refine BV (AT (AT (Af ?_)))
 refine AB (.t3 1 2 4) ?_
 refine AA (CB (Ga rfl (AM (AA (Ae ?_)))))
 refine Bf (.t4 10 1 2 4) ?_
 refine CJ (fun (k : Int) => 2 ≤ k ∧ k ≤ 6 ∧ AG.DK X 6 = AG.DK X (5 - (k - 1)).toNat) (fun (k : Int) => (6 - k).toNat) (fun (k : Int) => [(10, .int .i64 k)]) (fun (k : Int) => []) (2) ?_ rfl rfl (fun k hI2 => ?_)
 · exact ⟨by omega, by omega, AG.UC X⟩
 obtain ⟨hI21, hI22, hI23⟩ := hI2
 refine CB (Gm rfl (Gt (A5 rfl rfl) (Gn (.t5 1 2 4 10 36) ?_)))
 refine Gc (fun c5 => ?_) (fun c5 => ?_)
 ·
  have c5p := kz c5
  refine Aa ?_
  refine AB (.t4 1 2 4 10) ?_
  refine AA (Ao (Ae (Gs (Gm rfl (Gt (Ah Bk rfl) ?_)))))
  refine Gt (AR Cy rfl rfl (by first | omega | exact hb.1 | exact hb.2 | (dsimp only; omega)) (by first | omega | exact hb.1 | exact hb.2 | (dsimp only; omega))) ?_
  refine Gt (Ah Hp rfl) ?_
  refine Gt (AF rfl Ct .m1 ((AI.l2.comp (AS.ar (n := 6) Al.fl (by first | omega | exact hb | (dsimp only; omega)))).comp Al.l1) rfl rfl) ?_
  refine Gt (BQ rfl) (Gn (.t5 1 2 4 10 44) ?_)
  refine Gc (fun c6 => ?_) (fun c6 => ?_)
  ·
   have c6p := kz c6
   have hF := AG.U0 (s := s) (by simpa using c1) hw (by omega) (show 0 ≤ k by omega) (show k < 6 by omega)
   have hb := hF.b
   refine Gs (Gt (AZ rfl BT .m1 (AS.id AI.fl.len AI.fl.one) rfl) (Gm rfl (Gt (BD TH S5 rfl (.cons Ad.l0 rfl rfl rfl (.cons Ad.l1 rfl rfl rfl .nil))) ?_)))
   refine Bw rfl rfl rfl (fun b4 => ?_)
   refine Ga rfl (Gn (.t4 1 4 10 11) (Gs (Gm rfl (Gm rfl (Gm rfl (Gt (BD VF K2 rfl (.cons Al.l0 rfl rfl rfl (.cons Al.l1 rfl rfl rfl (.cons Al.l4 rfl rfl rfl .nil)))) (Gt (BS rfl) ?_)))))))
   refine Gt (Ah A6 rfl) (Gt (Ah Bk rfl) ?_)
   refine Gt (AR Cy rfl rfl (by first | omega | exact hb.1 | exact hb.2 | (dsimp only; omega)) (by first | omega | exact hb.1 | exact hb.2 | (dsimp only; omega))) ?_
   refine AQ (AK ((Ad.l0.comp AI.l2).comp (AS.ar (n := 6) Al.fl (by first | omega | exact hb | (dsimp only; omega)))) rfl rfl rfl Jv rfl .h) ?_
   refine Gn (.t3 4 10 11) (Gs (Gm rfl ?_))
   refine DC Ing.Event.enc 56 16 ?_
   refine Ag rfl TK (.c rfl (.c rfl .n)) (.c (.t .h) (.c .h .n)) (F0 _ (⟨X.C1 k (AG.KQ s), k, []⟩ : AG) _ 17 rfl hb (Nat.zero_le _)) (fun v5 B hv => ?_)
   obtain ⟨y6, rfl, y7, rfl⟩ := hv
   refine Gn (.t3 4 10 11) (Gs (Gm rfl ?_))
   refine BF rfl Sr (.c rfl .n) (.c .h (.c .h .n)) (GZ _ (AG.kind (⟨X.C1 k (AG.KQ s), k, []⟩ : AG) 17) _ y7 hb hF.br (by decide : (0 : Nat) + 1 ≤ 90000)) (fun w hS => gl0.pull gm0 hS (.c .h (.c .h .n))) (fun v8 B hv => ?_)
   obtain ⟨y9, rfl, y10, rfl⟩ := hv
   refine Gn (.t3 4 10 11) (Ao ?_)
   refine BE (N := 13) [0, 1, 3, 7, 0, 0, 32, 96, 224, 15, 543, 2047, 4095] mix (by kernel_rfl) rfl ?_
   refine Pf 0 rfl (AE rfl) (Pf 1 rfl (BS rfl) (Pf 2 rfl (Ah A6 rfl) (Pf 3 rfl (AZ rfl BT .m0 Ad.l0 rfl) (Pf 4 rfl (AE rfl) (Pf 5 rfl (AE rfl) (Pf 6 rfl (BS rfl) (Pf 7 rfl (Ah CH rfl) ?_)))))))
   refine Pf 8 rfl (AF rfl DU .m0 Ad.l2 rfl rfl) ?_
   refine An 9 rfl (by kernel_rfl) ?_
   refine AQ (AK (AS.id AI.fl.len AI.fl.one) rfl rfl rfl Dw rfl (.t (.t .h))) ?_
   refine BK rfl ⟨?_, ?_⟩
   · exact (Po rfl (AF rfl DU .m0 Ad.l2 rfl rfl) rfl rfl (Po rfl (Ah CH rfl) rfl rfl (Po rfl (BS rfl) rfl rfl (Po rfl (AE rfl) rfl rfl (Po rfl (AE rfl) rfl rfl (Pk (Pk (Pk (Pk As)))))))))
   refine Pf 10 rfl (Az rfl) (Pf 11 rfl (Az rfl) (Pf 12 rfl (Az rfl) ?_))
   refine A3 (by kernel_rfl) ?_
   refine AB (.t4 4 5 6 7) ?_
   refine AA (Ac (AP (AD (AD (AP (AD ?_))))))
   refine AY rfl (.cell rfl .m2 (.inl ⟨(by rw [AI.fl.len]; exact BT), rfl⟩) (.tmp rfl (.tmp rfl (.tmp rfl .n)))) ?_
   intro w1 hS
   have hS := (hS.perm (Av.perm (.c (.t .h) .n))).Ay
   have hfr : AG.DK X 6 = k := hI23.trans (AG.Tc hI21 (by omega) c6)
   have hf0 : decide (AG.DK X 6 < 0) = false := decide_eq_false (by omega)
   have hq : AG.Bj X s = _ := (AV c1).trans ((AV c2).trans ((AV hno).trans (AV hf0)))
   rw [hfr] at hq
   refine ⟨_, ⟨y9, ?hv, ?hl, ?hB⟩, hS⟩
   case hv => rw [hq]; (try rfl)
   case hl => rw [hq]; exact y10
   case hB => rw [hq]; (try rfl)
  have c6p := kz c6
  refine Aa ?_
  refine AB (.t4 1 2 4 10) ?_
  refine AU (AA (AJ (Gm rfl ?_)))
  refine Gt (Aw rfl rfl (IntWalk.i64_in _ (by first | omega | exact hb.1 | exact hb.2 | (dsimp only; omega)))) ?_
  refine Ga rfl ?_
  refine AM (AB (.t4 1 2 4 10) ?_)
  refine Bx (k + 1) ?_ ?_ (.t4 10 1 2 4) (.refl _)
  · exact ⟨by omega, by omega, by rw [hI23, AG.VB hI21 (by omega) c6, show (5 - (k + 1 - 1)) = 5 - k by omega]⟩
  · omega
 have c5p := kz c5
 obtain rfl : k = 6 := by omega
 refine BV (AT (AT (Af ?_)))
 refine AB (.t2 2 4) ?_
 refine AA (Gs (Gt (AZ rfl BT .m1 (AS.id AI.fl.len AI.fl.one) rfl) ?_))
 refine AQ (AK (AS.id AI.fl.len AI.fl.one) rfl rfl rfl Dw rfl .h) ?_
 refine Ga rfl (Ga rfl (Ga rfl (Gn (.t4 4 5 6 7) (Ac ?_))))
 refine AY rfl (.cell rfl .m0 (.inl ⟨(by rw [AI.fl.len]; exact BT), rfl⟩) (.tmp rfl (.tmp rfl (.tmp rfl .n)))) ?_
 intro w1 hS
 have hS := hS.Cj 56 16
 have hS := (hS.perm (Av.perm (.c .h .n))).Ay
 have hf0 : decide (AG.DK X 6 < 0) = true := by rw [hI23]; rfl
 have hq : AG.Bj X s = _ := (AV c1).trans ((AV c2).trans ((AV hno).trans (BC hf0)))
 refine ⟨_, ⟨⟨none, 0, 0⟩, ?hv, ?hl, ?hB⟩, hS⟩
 case hv => rw [hq]; rfl
 case hl => rw [hq]; rfl
 case hB => rw [hq]; rfl
theorem MU (z : Int) (w : World) : EG Tryz.prog 49 #[.int .i64 z] w fun v w' => v = .tuple #[BO (AI.form z).1, BO (AI.form z).2] ∧ B6 w w' := by
 refine Ai [] [] Tryz.func49 rfl rfl rfl (St.start w []) ?_
 refine Gs (Ga rfl (Ga rfl (Gn (.t1 0) (CB (Gm rfl (Gn (.t1 4) (Ae ?_)))))))
 refine Gs (Gt (Aj rfl rfl) (Ga rfl (Gn (.t2 4 5) ?_)))
 refine Gc (fun c1 => ?_) (fun c1 => ?_)
 ·
  refine Gs (Ga rfl (Ga rfl (Gn (.t2 2 3) (Ac (AP (AD ?_))))))
  refine AY rfl (.tmp rfl (.tmp rfl .n)) ?_
  intro w1 hS; refine ⟨?_, hS.Am⟩; rw [show AI.form z = _ from (BC c1)]; rfl
 refine Gs (Gt (Aj rfl rfl) (Ga rfl (Gn (.t2 4 7) ?_)))
 refine Gc (fun c2 => ?_) (fun c2 => ?_)
 ·
  refine Gs (Ga rfl (Ga rfl (Gn (.t2 2 3) (Ac (AP (AD ?_))))))
  refine AY rfl (.tmp rfl (.tmp rfl .n)) ?_
  intro w1 hS; refine ⟨?_, hS.Am⟩; rw [show AI.form z = _ from ((AV c1).trans (BC c2))]; rfl
 refine Gs (Gt (Aj rfl rfl) (Ga rfl (Gn (.t2 4 9) ?_)))
 refine Gc (fun c3 => ?_) (fun c3 => ?_)
 ·
  refine Gs (Ga rfl (Ga rfl (Gn (.t2 2 3) (Ac (AP (AD ?_))))))
  refine AY rfl (.tmp rfl (.tmp rfl .n)) ?_
  intro w1 hS; refine ⟨?_, hS.Am⟩; rw [show AI.form z = _ from ((AV c1).trans ((AV c2).trans (BC c3)))]; rfl
 refine Gs (Gt (Aj rfl rfl) (Ga rfl (Gn (.t2 4 11) ?_)))
 refine Gc (fun c4 => ?_) (fun c4 => ?_)
 ·
  refine Gs (Ga rfl (Ga rfl (Gn (.t2 2 3) (Ac (AP (AD ?_))))))
  refine AY rfl (.tmp rfl (.tmp rfl .n)) ?_
  intro w1 hS; refine ⟨?_, hS.Am⟩; rw [show AI.form z = _ from ((AV c1).trans ((AV c2).trans ((AV c3).trans (BC c4))))]; rfl
 refine Gs (Gt (Aj rfl rfl) (Ga rfl (Gn (.t2 4 13) ?_)))
 refine Gc (fun c5 => ?_) (fun c5 => ?_)
 ·
  refine Gs (Ga rfl (Ga rfl (Gn (.t2 2 3) (Ac (AP (AD ?_))))))
  refine AY rfl (.tmp rfl (.tmp rfl .n)) ?_
  intro w1 hS; refine ⟨?_, hS.Am⟩; rw [show AI.form z = _ from ((AV c1).trans ((AV c2).trans ((AV c3).trans ((AV c4).trans (BC c5)))))]; rfl
 refine Gs (Gt (Aj rfl rfl) (Ga rfl (Gn (.t2 4 15) ?_)))
 refine Gc (fun c6 => ?_) (fun c6 => ?_)
 ·
  refine Gs (Ga rfl (Ga rfl (Gn (.t2 2 3) (Ac (AP (AD ?_))))))
  refine AY rfl (.tmp rfl (.tmp rfl .n)) ?_
  intro w1 hS; refine ⟨?_, hS.Am⟩; rw [show AI.form z = _ from ((AV c1).trans ((AV c2).trans ((AV c3).trans ((AV c4).trans ((AV c5).trans (BC c6))))))]; rfl
 refine Gs (Gt (Aj rfl rfl) (Ga rfl (Gn (.t2 4 17) ?_)))
 refine Gc (fun c7 => ?_) (fun c7 => ?_)
 ·
  refine Gs (Ga rfl (Ga rfl (Gn (.t2 2 3) (Ac (AP (AD ?_))))))
  refine AY rfl (.tmp rfl (.tmp rfl .n)) ?_
  intro w1 hS; refine ⟨?_, hS.Am⟩; rw [show AI.form z = _ from ((AV c1).trans ((AV c2).trans ((AV c3).trans ((AV c4).trans ((AV c5).trans ((AV c6).trans (BC c7)))))))]; rfl
 refine Gs (Gt (Aj rfl rfl) (Ga rfl (Gn (.t2 4 19) ?_)))
 refine Gc (fun c8 => ?_) (fun c8 => ?_)
 ·
  refine Gs (Ga rfl (Ga rfl (Gn (.t2 2 3) (Ac (AP (AD ?_))))))
  refine AY rfl (.tmp rfl (.tmp rfl .n)) ?_
  intro w1 hS; refine ⟨?_, hS.Am⟩; rw [show AI.form z = _ from ((AV c1).trans ((AV c2).trans ((AV c3).trans ((AV c4).trans ((AV c5).trans ((AV c6).trans ((AV c7).trans (BC c8))))))))]; rfl
 refine Gs (Gt (Aj rfl rfl) (Ga rfl (Gn (.t2 4 21) ?_)))
 refine Gc (fun c9 => ?_) (fun c9 => ?_)
 ·
  refine Gs (Ga rfl (Ga rfl (Gn (.t2 2 3) (Ac (AP (AD ?_))))))
  refine AY rfl (.tmp rfl (.tmp rfl .n)) ?_
  intro w1 hS; refine ⟨?_, hS.Am⟩; rw [show AI.form z = _ from ((AV c1).trans ((AV c2).trans ((AV c3).trans ((AV c4).trans ((AV c5).trans ((AV c6).trans ((AV c7).trans ((AV c8).trans (BC c9)))))))))]; rfl
 refine Gs (Gt (Aj rfl rfl) (Ga rfl (Gn (.t2 4 23) ?_)))
 refine Gc (fun c10 => ?_) (fun c10 => ?_)
 ·
  refine Gs (Ga rfl (Ga rfl (Gn (.t2 2 3) (Ac (AP (AD ?_))))))
  refine AY rfl (.tmp rfl (.tmp rfl .n)) ?_
  intro w1 hS; refine ⟨?_, hS.Am⟩; rw [show AI.form z = _ from ((AV c1).trans ((AV c2).trans ((AV c3).trans ((AV c4).trans ((AV c5).trans ((AV c6).trans ((AV c7).trans ((AV c8).trans ((AV c9).trans (BC c10))))))))))]; rfl
 refine Gs (Gt (Aj rfl rfl) (Ga rfl (Gn (.t2 4 25) ?_)))
 refine Gc (fun c11 => ?_) (fun c11 => ?_)
 ·
  refine Gs (Ga rfl (Ga rfl (Gn (.t2 2 3) (Ac (AP (AD ?_))))))
  refine AY rfl (.tmp rfl (.tmp rfl .n)) ?_
  intro w1 hS; refine ⟨?_, hS.Am⟩; rw [show AI.form z = _ from ((AV c1).trans ((AV c2).trans ((AV c3).trans ((AV c4).trans ((AV c5).trans ((AV c6).trans ((AV c7).trans ((AV c8).trans ((AV c9).trans ((AV c10).trans (BC c11)))))))))))]; rfl
 refine Gs (Gt (Aj rfl rfl) (Ga rfl (Gn (.t2 4 27) ?_)))
 refine Gc (fun c12 => ?_) (fun c12 => ?_)
 ·
  refine Gs (Ga rfl (Ga rfl (Gn (.t2 2 3) (Ac (AP (AD ?_))))))
  refine AY rfl (.tmp rfl (.tmp rfl .n)) ?_
  intro w1 hS; refine ⟨?_, hS.Am⟩; rw [show AI.form z = _ from ((AV c1).trans ((AV c2).trans ((AV c3).trans ((AV c4).trans ((AV c5).trans ((AV c6).trans ((AV c7).trans ((AV c8).trans ((AV c9).trans ((AV c10).trans ((AV c11).trans (BC c12))))))))))))]; rfl
 refine Gs (Gt (Aj rfl rfl) (Ga rfl (Gn (.t2 4 29) ?_)))
 refine Gc (fun c13 => ?_) (fun c13 => ?_)
 ·
  refine Gs (Ga rfl (Ga rfl (Gn (.t2 2 3) (Ac (AP (AD ?_))))))
  refine AY rfl (.tmp rfl (.tmp rfl .n)) ?_
  intro w1 hS; refine ⟨?_, hS.Am⟩; rw [show AI.form z = _ from ((AV c1).trans ((AV c2).trans ((AV c3).trans ((AV c4).trans ((AV c5).trans ((AV c6).trans ((AV c7).trans ((AV c8).trans ((AV c9).trans ((AV c10).trans ((AV c11).trans ((AV c12).trans (BC c13)))))))))))))]; rfl
 refine Gs (Gt (Aj rfl rfl) (Ga rfl (Gn (.t2 4 31) ?_)))
 refine Gc (fun c14 => ?_) (fun c14 => ?_)
 ·
  refine Gs (Ga rfl (Ga rfl (Gn (.t2 2 3) (Ac (AP (AD ?_))))))
  refine AY rfl (.tmp rfl (.tmp rfl .n)) ?_
  intro w1 hS; refine ⟨?_, hS.Am⟩; rw [show AI.form z = _ from ((AV c1).trans ((AV c2).trans ((AV c3).trans ((AV c4).trans ((AV c5).trans ((AV c6).trans ((AV c7).trans ((AV c8).trans ((AV c9).trans ((AV c10).trans ((AV c11).trans ((AV c12).trans ((AV c13).trans (BC c14))))))))))))))]; rfl
 refine Gs (Gt (Aj rfl rfl) (Ga rfl (Gn (.t2 4 33) ?_)))
 refine Gc (fun c15 => ?_) (fun c15 => ?_)
 ·
  refine Gs (Ga rfl (Ga rfl (Gn (.t2 2 3) (Ac (AP (AD ?_))))))
  refine AY rfl (.tmp rfl (.tmp rfl .n)) ?_
  intro w1 hS; refine ⟨?_, hS.Am⟩; rw [show AI.form z = _ from ((AV c1).trans ((AV c2).trans ((AV c3).trans ((AV c4).trans ((AV c5).trans ((AV c6).trans ((AV c7).trans ((AV c8).trans ((AV c9).trans ((AV c10).trans ((AV c11).trans ((AV c12).trans ((AV c13).trans ((AV c14).trans (BC c15)))))))))))))))]; rfl
 refine Gs (Gt (Aj rfl rfl) (Ga rfl (Gn (.t2 4 35) ?_)))
 refine Gc (fun c16 => ?_) (fun c16 => ?_)
 ·
  refine Gs (Ga rfl (Ga rfl (Gn (.t2 2 3) (Ac (AP (AD ?_))))))
  refine AY rfl (.tmp rfl (.tmp rfl .n)) ?_
  intro w1 hS; refine ⟨?_, hS.Am⟩; rw [show AI.form z = _ from ((AV c1).trans ((AV c2).trans ((AV c3).trans ((AV c4).trans ((AV c5).trans ((AV c6).trans ((AV c7).trans ((AV c8).trans ((AV c9).trans ((AV c10).trans ((AV c11).trans ((AV c12).trans ((AV c13).trans ((AV c14).trans ((AV c15).trans (BC c16))))))))))))))))]; rfl
 refine Gs (Gt (Aj rfl rfl) (Ga rfl (Gn (.t2 4 37) ?_)))
 refine Gc (fun c17 => ?_) (fun c17 => ?_)
 ·
  refine Gs (Ga rfl (Ga rfl (Gn (.t2 2 3) (Ac (AP (AD ?_))))))
  refine AY rfl (.tmp rfl (.tmp rfl .n)) ?_
  intro w1 hS; refine ⟨?_, hS.Am⟩; rw [show AI.form z = _ from ((AV c1).trans ((AV c2).trans ((AV c3).trans ((AV c4).trans ((AV c5).trans ((AV c6).trans ((AV c7).trans ((AV c8).trans ((AV c9).trans ((AV c10).trans ((AV c11).trans ((AV c12).trans ((AV c13).trans ((AV c14).trans ((AV c15).trans ((AV c16).trans (BC c17)))))))))))))))))]; rfl
 refine Gs (Gt (Aj rfl rfl) (Ga rfl (Gn (.t1 39) ?_)))
 refine Gc (fun c18 => ?_) (fun c18 => ?_)
 ·
  refine Gs (Ga rfl (Ga rfl (Gn (.t2 2 3) (Ac (AP (AD ?_))))))
  refine AY rfl (.tmp rfl (.tmp rfl .n)) ?_
  intro w1 hS; refine ⟨?_, hS.Am⟩; rw [show AI.form z = _ from ((AV c1).trans ((AV c2).trans ((AV c3).trans ((AV c4).trans ((AV c5).trans ((AV c6).trans ((AV c7).trans ((AV c8).trans ((AV c9).trans ((AV c10).trans ((AV c11).trans ((AV c12).trans ((AV c13).trans ((AV c14).trans ((AV c15).trans ((AV c16).trans ((AV c17).trans (BC c18))))))))))))))))))]; rfl
 refine Aa ?_
 refine AB (.nil _) ?_
 refine AU (AA (Gs (Ga rfl (Ga rfl (AM (AA (Ac ?_)))))))
 refine AY rfl (.tmp rfl (.tmp rfl .n)) ?_
 intro w1 hS; refine ⟨?_, hS.Am⟩; rw [show AI.form z = _ from ((AV c1).trans ((AV c2).trans ((AV c3).trans ((AV c4).trans ((AV c5).trans ((AV c6).trans ((AV c7).trans ((AV c8).trans ((AV c9).trans ((AV c10).trans ((AV c11).trans ((AV c12).trans ((AV c13).trans ((AV c14).trans ((AV c15).trans ((AV c16).trans ((AV c17).trans (AV c18))))))))))))))))))]; rfl
theorem C0 (b : Nat) (p : Option Addr) (h : Hd) (hp : p = none ∨ p = some ⟨b, 0, none⟩) : Ic Tryz.prog 71 #[.pointer (some ⟨b, 0, none⟩)] [Ab.box b 107 (DJ.enc ⟨p, h⟩)] (fun v B => v = .tuple #[] ∧ B = [Ab.box b 107 (DJ.enc ⟨some ⟨b, 0, none⟩, h⟩)]) := by
 intro w hS0
 refine Ai _ _ Tryz.func71 rfl rfl rfl (hS0) ?_
 refine Gs (Gm rfl (Gt (BS rfl) (Gt (Ah QE rfl) (Gt (AF rfl Wo .m0 DJ.l0 rfl rfl) (Gt (Dl Tryz.underlying104 rfl) (Gn (.t2 0 6) ?_))))))
 refine Gc (fun c1 => ?_) (fun c1 => ?_)
 ·
  obtain rfl : p = none := by simpa using c1
  refine AJ (Gm rfl (Gm rfl ?_))
  refine Gt ((let ⟨_, h, h2⟩ := SI; Qj Tryz.underlying104 Tryz.underlying152 h h2 rfl .m0 (by rw [DJ.fl.len]; decide))) ?_
  refine Gt (RJ Tryz.func85 (by kernel_rfl) (by kernel_rfl) (by kernel_rfl) (by kernel_rfl) rfl) ?_
  refine Gt ((let ⟨_, h, _⟩ := SI; OT Tryz.underlying152 Tryz.underlying104 h rfl .m0 (by rw [DJ.fl.len]; kernel_rfl))) ?_
  refine Gt (BS rfl) (Gt (Ah QE rfl) ?_)
  refine AQ (AK DJ.l0 rfl rfl rfl YK rfl .h) ?_
  refine AM ?_
  refine Bh rfl .n ?_
  intro w1 hS
  have hS := (hS.perm (Av.perm (.c .h .n))).Ay
  exact ⟨_, ⟨rfl, rfl⟩, hS⟩
 obtain rfl : p = some ⟨b, 0, none⟩ := by rcases hp with h | h; (subst h; simp at c1); exact h
 refine Gs (Gm rfl (Gt (BS rfl) (Gt (Ah QE rfl) (Gt (AF rfl Wo .m0 DJ.l0 rfl rfl) (Gm rfl (Gt ((let ⟨_, h, _⟩ := SI; PR Tryz.underlying104 h rfl rfl)) (Gn (.t1 19) ?_)))))))
 refine Da rfl rfl ?_
 refine Aa ?_
 refine Bh rfl .n ?_
 intro w1 hS
 have hS := (hS.perm (Av.perm (.c .h .n))).Ay
 exact ⟨_, ⟨rfl, rfl⟩, hS⟩
theorem Cb (b : Nat) (p : Option Addr) (h : Hd) (s : Au) (hp : p = none ∨ p = some ⟨b, 0, none⟩) (hz : h.Z) (hl : h.len = s.length) (c : UInt8) (hb : s.length < 140737488355000) : Ic Tryz.prog 50 #[.pointer (some ⟨b, 0, none⟩), .int .u8 (c.toNat : Int)] [Ab.box b 107 (DJ.enc ⟨p, h⟩), Ab.own h 5 1 (s.flatMap DH)] (fun v B => ∃ p' h', v = .nilIface ∧ (p' = none ∨ p' = some ⟨b, 0, none⟩) ∧ h'.Z ∧ h'.len = (s ++ [c]).length ∧ B = [Ab.box b 107 (DJ.enc ⟨p', h'⟩), Ab.own h' 5 1 ((s ++ [c]).flatMap DH)]) := by
 intro w hS0
 refine Ai _ _ Tryz.func50 rfl rfl rfl (hS0) ?_
 refine Gs (Ga rfl (Gn (.t2 0 1) (Gs (Gm rfl ?_))))
 refine Ag rfl Yz (.c rfl .n) (.c .h .n) (C0 _ _ _ (by first | assumption | omega)) (fun v1 B hv => ?_)
 obtain ⟨rfl, rfl⟩ := hv
 refine Gn (.t2 0 1) (Gs (Gm rfl (Gm rfl (Gt (BS rfl) (Gt (Ah Eo rfl) (Gt (AF rfl Hh .m0 DJ.l1 rfl rfl) (Gm rfl ?_)))))))
 refine SW rfl Tryz.underlying105 Us YT rfl (by decide) (by decide) rfl rfl rfl (fun b1 => ?_)
 refine M4 rfl Tryz.underlying105 Us YT rfl bg (by decide) (by decide) rfl rfl (fun w hS => Src.De Tryz.underlying105 ((Kn.own .m0) w hS)) (by intro v hv; simp at hv; subst hv; rfl) (by dsimp only; omega) (fun _ => (.t (.t .h))) (fun h2 h2l h2z => ?_)
 have h2z := h2z hz; dsimp only at h2l
 refine Gt (BS rfl) (Gt (Ah Eo rfl) ?_)
 refine AQ (AK DJ.l1 rfl rfl rfl TO rfl (.t .h)) ?_
 refine Gn (.nil _) (Gs (Ga rfl (AM (AA (Ac ?_)))))
 refine AY rfl (.tmp rfl .n) ?_
 intro w1 hS
 have hS := (hS.perm (Av.perm (.c (.t .h) (.c (.t .h) .n)))).Ay
 exact ⟨_, ⟨_, _, rfl, .inr rfl, by assumption, by simp; omega, by rw [List.flatMap_append]; rfl⟩, hS⟩
theorem BJ (b : Nat) (p : Option Addr) (h : Hd) (s : Au) (hp : p = none ∨ p = some ⟨b, 0, none⟩) (hz : h.Z) (hl : h.len = s.length) (t : Au) (hb : s.length + t.length < 140737488355000) : Ic Tryz.prog 51 #[.pointer (some ⟨b, 0, none⟩), BO t] [Ab.box b 107 (DJ.enc ⟨p, h⟩), Ab.own h 5 1 (s.flatMap DH)] (fun v B => ∃ p' h', v = .tuple #[.int .i64 t.length, .nilIface] ∧ (p' = none ∨ p' = some ⟨b, 0, none⟩) ∧ h'.Z ∧ h'.len = (s ++ t).length ∧ B = [Ab.box b 107 (DJ.enc ⟨p', h'⟩), Ab.own h' 5 1 ((s ++ t).flatMap DH)]) := by
 intro w hS0
 refine Ai _ _ Tryz.func51 rfl rfl rfl (hS0) ?_
 refine Gs (Ga rfl (Ga rfl (Gn (.t2 0 1) (Gs (Gm rfl ?_)))))
 refine Ag rfl Yz (.c rfl .n) (.c .h .n) (C0 _ _ _ (by first | assumption | omega)) (fun v1 B hv => ?_)
 obtain ⟨rfl, rfl⟩ := hv
 refine Gn (.t2 0 1) (Gs (Gm rfl (Gm rfl (Gt (BS rfl) (Gt (Ah Eo rfl) (Gt (AF rfl Hh .m0 DJ.l1 rfl rfl) (Gm rfl ?_)))))))
 refine CW U4 rfl Tryz.underlying105 Us YT rfl bg (by decide) (by decide) rfl rfl (fun _ _ => Src.str Tryz.underlying9) (by dsimp only; omega) (fun _ => (.t .h)) (fun h2 h2l h2z => ?_)
 have h2z := h2z hz; dsimp only at h2l
 refine Gt (BS rfl) (Gt (Ah Eo rfl) ?_)
 refine AQ (AK DJ.l1 rfl rfl rfl TO rfl .h) ?_
 refine Gn (.t1 1) (Gs (Gm rfl (Gt (BI rfl Tryz.underlying9 rfl) (Ga rfl (Ga rfl (Gn (.t2 4 5) (Ac ?_)))))))
 refine AY rfl (.tmp rfl (.tmp rfl .n)) ?_
 intro w1 hS
 have hS := (hS.perm (Av.perm (.c .h (.c .h .n)))).Ay
 exact ⟨_, ⟨_, _, rfl, .inr rfl, by assumption, by simp; omega, by rw [List.flatMap_append]⟩, hS⟩
def Px : Go.Shelf.Ren := ⟨fun | 171 => 53 | 243 => 72 | 246 => 86 | 283 => 108 | 284 => 109 | 285 => 110 | 286 => 111 | 129 => 142 | 317 => 141 | 318 => 143 | 319 => 144 | 320 => 145 | 337 => 162 | 338 => 163 | n => n, fun | 3 => 3 | 9 => 9 | 2 => 2 | 4 => 4 | 171 => 172 | 0 => 0 | 53 => 173 | 37 => 105 | 5 => 5 | 173 => 176 | 212 => 205 | 51 => 178 | 20 => 20 | 213 => 206 | 46 => 140 | 232 => 226 | 233 => 227 | n => n, fun | 17 => 2 | 18 => 3 | 19 => 4 | n => n⟩
theorem VU : LaysM.n171 Tryz.prog Px where
  mixed := by kernel_rfl
  f129 := Tryz.func142.trans (congrArg some (by kernel_rfl))
  f171 := Tryz.func53.trans (congrArg some (by kernel_rfl))
  f243 := Tryz.func72.trans (congrArg some (by kernel_rfl))
  f246 := Tryz.func86.trans (congrArg some (by kernel_rfl))
  f283 := Tryz.func108.trans (congrArg some (by kernel_rfl))
  f284 := Tryz.func109.trans (congrArg some (by kernel_rfl))
  f285 := Tryz.func110.trans (congrArg some (by kernel_rfl))
  f286 := Tryz.func111.trans (congrArg some (by kernel_rfl))
  f317 := Tryz.func141.trans (congrArg some (by kernel_rfl))
  f318 := Tryz.func143.trans (congrArg some (by kernel_rfl))
  f319 := Tryz.func144.trans (congrArg some (by kernel_rfl))
  f320 := Tryz.func145.trans (congrArg some (by kernel_rfl))
  f337 := Tryz.func162.trans (congrArg some (by kernel_rfl))
  f338 := Tryz.func163.trans (congrArg some (by kernel_rfl))
  t0 := Tryz.underlying0
  a0 := Tryz.isAgg0
  z0 := Tryz.sizeOf0
  v0 := Tryz.zeroValue0
  t2 := Tryz.underlying2
  a2 := Tryz.isAgg2
  z2 := Tryz.sizeOf2
  v2 := Tryz.zeroValue2
  t3 := Tryz.underlying3
  a3 := Tryz.isAgg3
  z3 := Tryz.sizeOf3
  v3 := Tryz.zeroValue3
  t4 := Tryz.underlying4
  a4 := Tryz.isAgg4
  z4 := Tryz.sizeOf4
  v4 := Tryz.zeroValue4
  t5 := Tryz.underlying5
  a5 := Tryz.isAgg5
  z5 := Tryz.sizeOf5
  v5 := Tryz.zeroValue5
  t9 := Tryz.underlying9
  a9 := Tryz.isAgg9
  z9 := Tryz.sizeOf9
  v9 := Tryz.zeroValue9
  t20 := Tryz.underlying20
  a20 := Tryz.isAgg20
  z20 := Tryz.sizeOf20
  v20 := Tryz.zeroValue20
  t37 := Tryz.underlying105
  a37 := Tryz.isAgg105
  z37 := Tryz.sizeOf105
  v37 := Tryz.zeroValue105
  t46 := Tryz.underlying140
  a46 := Tryz.isAgg140
  z46 := Tryz.sizeOf140
  v46 := Tryz.zeroValue140
  t51 := Tryz.underlying178
  a51 := Tryz.isAgg178
  z51 := Tryz.sizeOf178
  v51 := Tryz.zeroValue178
  t53 := Tryz.underlying173
  a53 := Tryz.isAgg173
  z53 := Tryz.sizeOf173
  v53 := Tryz.zeroValue173
  t171 := Tryz.underlying172
  a171 := Tryz.isAgg172
  z171 := Tryz.sizeOf172
  v171 := Tryz.zeroValue172
  t173 := Tryz.underlying176
  a173 := Tryz.isAgg176
  z173 := Tryz.sizeOf176
  v173 := Tryz.zeroValue176
  t212 := Tryz.underlying205
  a212 := Tryz.isAgg205
  z212 := Tryz.sizeOf205
  v212 := Tryz.zeroValue205
  t213 := Tryz.underlying206
  a213 := Tryz.isAgg206
  z213 := Tryz.sizeOf206
  t232 := Tryz.underlying226
  a232 := Tryz.isAgg226
  z232 := Tryz.sizeOf226
  v232 := Tryz.zeroValue226
  t233 := Tryz.underlying227
  a233 := Tryz.isAgg227
  z233 := Tryz.sizeOf227
  v233 := Tryz.zeroValue227
  g17 := by kernel_rfl
  g18 := by kernel_rfl
  g19 := by kernel_rfl
  i0 := by kernel_rfl
  i2 := by kernel_rfl
  i3 := by kernel_rfl
  i4 := by kernel_rfl
  i5 := by kernel_rfl
  i9 := by kernel_rfl
  i20 := by kernel_rfl
  i37 := by kernel_rfl
  i46 := by kernel_rfl
  i51 := by kernel_rfl
  i53 := by kernel_rfl
  i171 := by kernel_rfl
  i173 := by kernel_rfl
  i212 := by kernel_rfl
  i232 := by kernel_rfl
  i233 := by kernel_rfl
  m17 := by kernel_rfl
  m18 := by kernel_rfl
  m19 := by kernel_rfl
theorem LM (n : Int) (h0 : -9223372036854775808 ≤ n) (hy : n ≤ 9223372036854775807) (w : World) (gl0 : GV 2 E7 w) : EG Tryz.prog 53 #[.int .i64 n] w fun v w' => v = BO (Lib.itoa n) ∧ B6 w w' :=
  EG.XE (Any.strconv_Itoa VU n h0 hy w (Sk (by kernel_rfl) gl0))
theorem Cp (b : Nat) (p : Option Addr) (h : Hd) (s : Au) (hz : h.Z) (hl : h.len = s.length) (hb : s.length < 140737488355000) : Ic Tryz.prog 54 #[.pointer (some ⟨b, 0, none⟩)] [Ab.box b 107 (DJ.enc ⟨p, h⟩), Ab.own h 5 1 (s.flatMap DH)] (fun v B => v = BO s ∧ B = [Ab.box b 107 (DJ.enc ⟨p, h⟩)]) := by
 intro w hS0
 refine Ai _ _ Tryz.func54 rfl rfl rfl (hS0) ?_
 refine Gs (Ga rfl (Gn (.t1 0) (Ao ?_)))
 refine BE (N := 12) [0, 1, 3, 7, 15, 0, 32, 96, 224, 480, 1023, 2047] mix (by kernel_rfl) rfl ?_
 refine Pf 0 rfl (AE rfl) (Pf 1 rfl (BS rfl) (Pf 2 rfl (Ah Eo rfl) (Pf 3 rfl (AF rfl Hh .m0 DJ.l1 rfl rfl) ?_)))
 refine Pf 4 rfl (PV rfl (by assumption)) ?_
 refine Pf 5 rfl (AE rfl) (Pf 6 rfl (BS rfl) (Pf 7 rfl (Ah Eo rfl) (Pf 8 rfl (AF rfl Hh .m0 DJ.l1 rfl rfl) (Pf 9 rfl (Aq rfl Tryz.underlying105 rfl) ?_))))
 refine An 10 rfl (by kernel_rfl) ?_
 refine MX rfl Tryz.underlying134 cg rfl rfl (by assumption) (by omega) (.t .h) ?_
 refine Bm rfl ⟨?_, ?_⟩
 · exact (Pk (Pk (Pk (Pk (Pk (Pk (Pk (Pk (Pk (Pk As))))))))))
 refine Pf 11 rfl (Az rfl) ?_
 refine A3 (by kernel_rfl) ?_
 refine AB (.t1 2) ?_
 refine AA (Ac ?_)
 refine AY rfl (.tmp rfl .n) ?_
 intro w1 hS
 have hS := (hS.perm (Av.perm (.c .h .n))).Ay
 exact ⟨_, ⟨rfl, rfl⟩, hS⟩
theorem Mc (e : Ing.Event) (b : Int) (hs : (decide (b < 0) || decide (6 ≤ b) || decide (AI.Q1 (e.HF.at b) 1 = 0)) = false → AI.Small e) (w : World) (gl0 : GV 2 E7 w) (gl1 : GV 0 AI.C2 w) : EG Tryz.prog 23 #[.agg e.enc.toArray, .int .i64 b] w fun v w' => v = .tuple #[BO (AI.tell e b).1, .bool (AI.tell e b).2] ∧ B6 w w' := by
 refine Ai [] [] Tryz.func23 rfl rfl rfl (St.start w []) ?_
 refine Gs ?_
 refine Bw rfl rfl rfl (fun b1 => ?_)
 refine Ga rfl (Ga rfl (Gn (.t2 1 2) (CB (Gm rfl (Gt (A5 rfl rfl) (Gm rfl (BZ 17 rfl rfl (fun q => AE rfl) ?_)))))))
 refine BZ 17 rfl rfl (fun q => CI (cF rfl q) rfl) ?_
 refine Gt (BR rfl rfl (fun h => by rw [h]; rfl)) ?_
 refine Gm rfl (BZ 21 rfl rfl (fun q => AE rfl) (BZ 21 rfl rfl (fun q => Ah Mm rfl) ?_))
 refine BZ 21 rfl rfl (fun q => by have q1 := q; (try simp at q1); exact AR Rg (cF rfl q) (cF rfl q) (by first | omega | (simp only [List.length_cons, List.length_nil]; omega)) (by first | omega | (simp only [List.length_cons, List.length_nil]; omega))) ?_
 refine BZ 21 rfl rfl (fun q => by have q1 := q; (try simp at q1); exact AF (cF rfl q) A1 .m0 (Ing.Event.l10.comp (AS.arr (n := 6) Bz (by first | omega | (simp only [List.length_cons, List.length_nil]; omega)) (by first | omega | (simp only [List.length_cons, List.length_nil]; omega)))) rfl rfl) ?_
 refine BZ 21 rfl rfl (fun q => QL (cF rfl q) rfl (show _ = AI.Q1 _ _ from rfl)) (BZ 21 rfl rfl (fun q => Aj (cF rfl q) rfl) ?_)
 refine Gt (BR rfl rfl (fun h => by rw [h]; rfl)) ?_
 refine Gn (.t3 1 2 28) ?_
 refine Gc (fun c1 => ?_) (fun c1 => ?_)
 ·
  refine Gs (Ga rfl (Ga rfl (Gn (.t2 4 5) (Ac (AD ?_)))))
  refine AY rfl (.tmp rfl (.tmp rfl .n)) ?_
  intro w1 hS; refine ⟨?_, hS.Am⟩; rw [show AI.tell e b = _ from BC c1]; rfl
 have c1p := kz c1
 have hs := hs c1
 have hr : 0 ≤ b ∧ b < 6 := by simp at c1; omega
 have htl := AI.M5 e b
 have h1l := AI.O3 hs b
 have h2l := AI.M8 hs b
 have h3l := hs.B2
 have h4l := hs.text
 have h5l := AI.IU e.dir
 have h6l := Lib.itoa_length_le e.n hs.n0 hs.n1
 refine Aa ?_
 refine AB (.t2 1 2) ?_
 refine AA (Gs (Gt (Ah SP rfl) (Gt (AF rfl A1 .m0 Ing.Event.l0 rfl rfl) ?_)))
 refine A8 rfl bQ (.c rfl .n) (fun w hS => MU _ w) ?_
 refine Gm rfl (Gt (AL rfl rfl) (Gt (AL rfl rfl) (Ga rfl (Ga rfl (Gn (.t4 1 2 6 7) (Gs (Gm rfl ?_)))))))
 refine Ga rfl (Gn (.t4 1 2 6 8) (CB (Gm rfl (Gt (Ah QM rfl) (Gt (AF rfl A1 .m0 Ing.Event.l2 rfl rfl) (Gt (Aj rfl rfl) (Gn (.t5 1 2 6 8 39) ?_)))))))
 refine Y6 (BO) (s := (AI.D5 e b)) rfl rfl rfl rfl rfl rfl rfl ?_
 refine AB (.t3 1 2 8) ?_
 refine AA (CB (Gm rfl (Gt (Bo rfl rfl) (Gn (.t4 1 2 8 42) ?_))))
 refine Gc (fun c2 => ?_) (fun c2 => ?_)
 ·
  refine Gs (Ga rfl (Ga rfl (Gn (.t2 4 5) (Ac (AD ?_)))))
  refine AY rfl (.tmp rfl (.tmp rfl .n)) ?_
  intro w1 hS; refine ⟨?_, hS.Am⟩; rw [show AI.tell e b = _ from (AV c1).trans (BC c2)]; rfl
 have c2p := kz c2
 refine Aa ?_
 refine AB (.t3 1 2 8) ?_
 refine AA (Ao ?_)
 refine BE (N := 6) [0, 1, 0, 4, 3, 31] mix (by kernel_rfl) rfl ?_
 refine Pf 0 rfl (Ah V5 rfl) (Pf 1 rfl (AF rfl CC .m0 Ing.Event.l6 rfl rfl) (Pf 2 rfl (Ah Wq rfl) (Pf 3 rfl (AF rfl CC .m0 Ing.Event.l7 rfl rfl) (Pf 4 rfl (Az rfl) (Pf 5 rfl (Az rfl) ?_)))))
 refine A3 (by kernel_rfl) ?_
 refine AB (.t5 1 2 8 9 10) ?_
 refine AA (CB (Gm rfl (Gt (Ah Mm rfl) ?_)))
 refine Gt (AR Rg rfl rfl (by first | omega | (simp only [List.length_cons, List.length_nil]; omega)) (by first | omega | (simp only [List.length_cons, List.length_nil]; omega))) ?_
 refine Gt (AF rfl A1 .m0 (Ing.Event.l10.comp (AS.arr (n := 6) Bz (by first | omega | (simp only [List.length_cons, List.length_nil]; omega)) (by first | omega | (simp only [List.length_cons, List.length_nil]; omega)))) rfl rfl) ?_
 refine Gt (QL rfl rfl (show _ = AI.Q1 _ _ from rfl)) (Gt (CT rfl rfl) (Gn (.t6 1 2 8 9 10 52) ?_))
 refine QD (BO) (s := (AI.Hz e b)) rfl rfl rfl rfl rfl ?_
 refine AB (.t5 1 2 8 9 10) ?_
 refine AA (CB (Gm rfl (Gt (Ah Mm rfl) ?_)))
 refine Gt (AR Rg rfl rfl (by first | omega | (simp only [List.length_cons, List.length_nil]; omega)) (by first | omega | (simp only [List.length_cons, List.length_nil]; omega))) ?_
 refine Gt (AF rfl A1 .m0 (Ing.Event.l10.comp (AS.arr (n := 6) Bz (by first | omega | (simp only [List.length_cons, List.length_nil]; omega)) (by first | omega | (simp only [List.length_cons, List.length_nil]; omega)))) rfl rfl) ?_
 refine Gt (QL rfl rfl (show _ = AI.Q1 _ _ from rfl)) (Gt (CT rfl rfl) (Gn (.t6 1 2 8 9 10 58) ?_))
 refine QD (BO) (s := AI.U8 e b) rfl rfl rfl rfl rfl ?_
 refine AB (.t5 1 2 8 9 10) ?_
 refine AA (CB (Gm rfl (Gt (Ah GO rfl) (Gt (AF rfl A1 .m0 Ing.Event.l3 rfl rfl) (Gt (Aj rfl rfl) (Gn (.t5 2 8 9 10 62) ?_))))))
 refine QD (BO) (s := (AI.Fi e b)) rfl rfl rfl rfl rfl ?_
 refine AB (.t4 2 8 9 10) ?_
 refine AA (Gs ?_)
 refine BB rfl Su rfl (fun b2 => ?_)
 refine DC DH 5 1 ?_
 refine AM (AA (CB (Gm rfl (Gt (BI rfl Tryz.underlying9 rfl) (Gm rfl (Gn (.t7 2 8 9 10 11 64 65) (Ae ?_)))))))
 refine Bf (.t7 65 2 8 9 10 11 64) ?_
 refine BU (.t .h) ?_
 refine BU (.t .h) ?_
 refine IF (fun (k : Int) (x : Au) (p : Option Addr) (h : Hd) => 0 ≤ k ∧ k ≤ ((AI.D5 e b).length : Int) ∧ x = AI.told e (AI.Hz e b) (AI.Fi e b) (AI.D5 e b) k.toNat ∧ (p = none ∨ p = some ⟨b2, 0, none⟩) ∧ h.Z ∧ h.len = x.length) (fun (k : Int) (x : Au) (p : Option Addr) (h : Hd) => (((AI.D5 e b).length : Int) - k).toNat) (fun (k : Int) (x : Au) (p : Option Addr) (h : Hd) => [(65, .int .i64 k)]) (fun (k : Int) (x : Au) (p : Option Addr) (h : Hd) => [Ab.own h 5 1 (x.flatMap DH), Ab.box b2 107 (DJ.enc ⟨p, h⟩)]) (0) ([]) (none) (⟨none, 0, 0⟩) ?_ rfl rfl (fun k x p h hI1 => ?_)
 · exact ⟨by omega, by omega, rfl, .inl rfl, Hd.TC, rfl⟩
 obtain ⟨hI11, hI12, hI13, hp, hz, hl⟩ := hI1; have hxl := AI.NJ hs h1l h2l (AI.D5 e b) k.toNat; rw [← hI13] at hxl; have hxm : k.toNat * 2000000 ≤ 60000000 := by omega
 refine Gs (Gt (A5 rfl rfl) (AM (AA (Ao ?_))))
 refine Gc (fun c3 => ?_) (fun c3 => ?_)
 ·
  have c3p := kz c3
  refine Aa ?_
  refine AB (.t7 2 8 9 10 11 64 65) ?_
  refine AA (Ao (Ae (Gs (Gm rfl (Ga rfl (Gn (.t8 2 8 9 10 11 12 64 65) (Gs ?_)))))))
  refine Gm rfl (Gm rfl ?_)
  refine Gt (Bi Tryz.underlying9 rfl rfl (by first | omega | (simp only [List.length_cons, List.length_nil]; omega)) (by first | omega | (simp only [List.length_cons, List.length_nil]; omega))) ?_
  refine Ga rfl (Gn (.t9 2 8 9 10 11 12 13 64 65) (Gs (Gm rfl (Gt (Aj rfl rfl) (Gm rfl (BZ 73 rfl rfl (fun q => AE rfl) (BZ 73 rfl rfl (fun q => AE rfl) ?_)))))))
  refine BZ 73 rfl rfl (fun q => by have q1 := q; (try simp at q1); exact E8 (cF rfl q) rfl (IntWalk.i64_in _ (by first | omega | (simp only [List.length_cons, List.length_nil]; omega)))) ?_
  refine BZ 73 rfl rfl (fun q => by have q1 := q; (try simp at q1); exact Bi Tryz.underlying9 (cF rfl q) (cF rfl q) (by first | omega | (simp only [List.length_cons, List.length_nil]; omega)) (by first | omega | (simp only [List.length_cons, List.length_nil]; omega))) ?_
  refine BZ 73 rfl rfl (fun q => Aj (cF rfl q) rfl) ?_
  refine Gt (BR rfl rfl (fun h => by rw [h]; rfl)) ?_
  refine Gm rfl (Ba 80 rfl rfl (fun q => AE rfl) ?_)
  refine Ba 80 rfl rfl (fun q => by have q1 := q; (try simp at q1); exact Aw (BX rfl q) rfl (IntWalk.i64_in _ (by first | omega | (simp only [List.length_cons, List.length_nil]; omega)))) ?_
  refine Ba 80 rfl rfl (fun q => AE rfl) (Ba 80 rfl rfl (fun q => BI rfl Tryz.underlying9 (BX rfl q)) (Ba 80 rfl rfl (fun q => Aj (BX rfl q) (BX rfl q)) (Ba 80 rfl rfl (fun q => AE (BX rfl q)) ?_)))
  refine Cw (t := 86) rfl rfl rfl (fun qc q => AE rfl) ?_
  refine Cw (t := 86) rfl rfl rfl (fun qc q => AE rfl) ?_
  refine Cw (t := 86) rfl rfl rfl (fun qc q => by have q1 := q; have qc1 := qc; (try simp at q1 qc1); exact Aw (BX rfl (by rw [qc, q]; rfl)) rfl (IntWalk.i64_in _ (by first | omega | (simp only [List.length_cons, List.length_nil]; omega)))) ?_
  refine Cw (t := 86) rfl rfl rfl (fun qc q => by have q1 := q; have qc1 := qc; (try simp at q1 qc1); exact Bi Tryz.underlying9 (BX rfl (by rw [qc, q]; rfl)) (BX rfl (by rw [qc, q]; rfl)) (by first | omega | (simp only [List.length_cons, List.length_nil]; omega)) (by first | omega | (simp only [List.length_cons, List.length_nil]; omega))) ?_
  refine Cw (t := 86) rfl rfl rfl (fun qc q => Aj (BX rfl (by rw [qc, q]; rfl)) rfl) ?_
  refine Ba 80 rfl rfl (fun q => BR (BX rfl q) rfl (fun h => by rw [q, h]; rfl)) ?_
  refine Ba 80 rfl rfl (fun q => AE (BX rfl q)) ?_
  refine Cw (t := 93) rfl rfl rfl (fun qc q => AE rfl) ?_
  refine Cw (t := 93) rfl rfl rfl (fun qc q => AE rfl) ?_
  refine Cw (t := 93) rfl rfl rfl (fun qc q => by have q1 := q; have qc1 := qc; (try simp at q1 qc1); exact Aw (BX rfl (by rw [qc, q]; rfl)) rfl (IntWalk.i64_in _ (by first | omega | (simp only [List.length_cons, List.length_nil]; omega)))) ?_
  refine Cw (t := 93) rfl rfl rfl (fun qc q => by have q1 := q; have qc1 := qc; (try simp at q1 qc1); exact Bi Tryz.underlying9 (BX rfl (by rw [qc, q]; rfl)) (BX rfl (by rw [qc, q]; rfl)) (by first | omega | (simp only [List.length_cons, List.length_nil]; omega)) (by first | omega | (simp only [List.length_cons, List.length_nil]; omega))) ?_
  refine Cw (t := 93) rfl rfl rfl (fun qc q => Aj (BX rfl (by rw [qc, q]; rfl)) rfl) ?_
  refine Ba 80 rfl rfl (fun q => BR (BX rfl q) rfl (fun h => by rw [q, h]; rfl)) ?_
  refine Gt (BH rfl rfl (fun h => h)) (Ga rfl (Gn (.t9 2 8 9 10 11 13 14 64 65) (Ae (Gs (Gm rfl (Gt (BQ rfl) (Ga rfl ?_)))))))
  refine Gn (.t9 2 8 9 10 11 13 64 65 103) ?_
  refine Gc (fun c4 => ?_) (fun c4 => ?_)
  ·
   have c4p := kz c4
   refine AJ (Gm rfl ?_)
   refine Ag rfl Xf (.c rfl (.c rfl .n)) (.c (.t .h) (.c .h .n)) (Cb _ _ _ _ (by assumption) (by assumption) (by assumption) _ (by omega)) (fun v1 B hv => ?_)
   obtain ⟨y2, y3, rfl, y4, y5, y6, rfl⟩ := hv
   refine AM (AB (.t7 2 8 9 10 11 64 65) ?_)
   refine AU (AU (AA (AJ ?_)))
   refine Gt (Aw rfl rfl (IntWalk.i64_in _ (by first | omega | (simp only [List.length_cons, List.length_nil]; omega)))) ?_
   refine Gm rfl ?_
   refine AM (AB (.t7 2 8 9 10 11 64 65) ?_)
   refine CG (.c (.t .h) (.c .h (.c .h .n))) ?_
   refine CV ?_
   refine Cz (k + 1) _ _ _ ?_ ?_ (.t7 65 2 8 9 10 11 64) (.refl _)
   · exact ⟨by omega, by omega, by rw [AI.FE hI11, ← hI13, show AI.piece e (AI.Hz e b) (AI.Fi e b) (AI.D5 e b) k = _ from (BC c4)], by assumption, by assumption, by assumption⟩
   · omega
  have c4p := kz c4
  refine Gs (Gm rfl (Gt (Aj rfl rfl) (Ga rfl (Gn (.t9 2 8 9 10 11 13 64 65 108) ?_))))
  refine Gc (fun c5 => ?_) (fun c5 => ?_)
  ·
   have c5p := kz c5
   refine AJ (Gm rfl ?_)
   refine Ag rfl OX (.c rfl (.c rfl .n)) (.c (.t .h) (.c .h .n)) (BJ _ _ _ _ (by assumption) (by assumption) (by assumption) _ (by omega)) (fun v7 B hv => ?_)
   obtain ⟨y8, y9, rfl, y10, y11, y12, rfl⟩ := hv
   refine AM (AB (.t7 2 8 9 10 11 64 65) ?_)
   refine AU (AU (AA (AJ ?_)))
   refine Gt (Aw rfl rfl (IntWalk.i64_in _ (by first | omega | (simp only [List.length_cons, List.length_nil]; omega)))) ?_
   refine Gm rfl ?_
   refine AM (AB (.t7 2 8 9 10 11 64 65) ?_)
   refine CG (.c (.t .h) (.c .h (.c .h .n))) ?_
   refine CV ?_
   refine Cz (k + 1) _ _ _ ?_ ?_ (.t7 65 2 8 9 10 11 64) (.refl _)
   · exact ⟨by omega, by omega, by rw [AI.FE hI11, ← hI13, show AI.piece e (AI.Hz e b) (AI.Fi e b) (AI.D5 e b) k = _ from ((AV c4).trans (BC c5))], by assumption, by assumption, by assumption⟩
   · omega
  have c5p := kz c5
  refine Gs (Gm rfl (Gt (Aj rfl rfl) (Ga rfl (Gn (.t9 2 8 9 10 11 13 64 65 113) ?_))))
  refine Gc (fun c6 => ?_) (fun c6 => ?_)
  ·
   have c6p := kz c6
   refine AJ (Gm rfl ?_)
   refine Ag rfl OX (.c rfl (.c rfl .n)) (.c (.t .h) (.c .h .n)) (BJ _ _ _ _ (by assumption) (by assumption) (by assumption) _ (by omega)) (fun v13 B hv => ?_)
   obtain ⟨y14, y15, rfl, y16, y17, y18, rfl⟩ := hv
   refine AM (AB (.t7 2 8 9 10 11 64 65) ?_)
   refine AU (AU (AA (AJ ?_)))
   refine Gt (Aw rfl rfl (IntWalk.i64_in _ (by first | omega | (simp only [List.length_cons, List.length_nil]; omega)))) ?_
   refine Gm rfl ?_
   refine AM (AB (.t7 2 8 9 10 11 64 65) ?_)
   refine CG (.c (.t .h) (.c .h (.c .h .n))) ?_
   refine CV ?_
   refine Cz (k + 1) _ _ _ ?_ ?_ (.t7 65 2 8 9 10 11 64) (.refl _)
   · exact ⟨by omega, by omega, by rw [AI.FE hI11, ← hI13, show AI.piece e (AI.Hz e b) (AI.Fi e b) (AI.D5 e b) k = _ from ((AV c4).trans ((AV c5).trans (BC c6)))], by assumption, by assumption, by assumption⟩
   · omega
  have c6p := kz c6
  refine Gs (Gm rfl (Gt (Aj rfl rfl) (Ga rfl (Gn (.t9 2 8 9 10 11 13 64 65 118) ?_))))
  refine Gc (fun c7 => ?_) (fun c7 => ?_)
  ·
   have c7p := kz c7
   refine AJ (Gt (Ah Ym rfl) (Gt (AF rfl CC .m2 Ing.Event.l8 rfl rfl) ?_))
   refine Ag rfl OX (.c rfl (.c rfl .n)) (.c (.t .h) (.c .h .n)) (BJ _ _ _ _ (by assumption) (by assumption) (by assumption) _ (by omega)) (fun v19 B hv => ?_)
   obtain ⟨y20, y21, rfl, y22, y23, y24, rfl⟩ := hv
   refine AM (AB (.t7 2 8 9 10 11 64 65) ?_)
   refine AU (AU (AA (AJ ?_)))
   refine Gt (Aw rfl rfl (IntWalk.i64_in _ (by first | omega | (simp only [List.length_cons, List.length_nil]; omega)))) ?_
   refine Gm rfl ?_
   refine AM (AB (.t7 2 8 9 10 11 64 65) ?_)
   refine CG (.c (.t .h) (.c .h (.c .h .n))) ?_
   refine CV ?_
   refine Cz (k + 1) _ _ _ ?_ ?_ (.t7 65 2 8 9 10 11 64) (.refl _)
   · exact ⟨by omega, by omega, by rw [AI.FE hI11, ← hI13, show AI.piece e (AI.Hz e b) (AI.Fi e b) (AI.D5 e b) k = _ from ((AV c4).trans ((AV c5).trans ((AV c6).trans (BC c7))))], by assumption, by assumption, by assumption⟩
   · omega
  have c7p := kz c7
  refine Gs (Gm rfl (Gt (Aj rfl rfl) (Ga rfl (Gn (.t9 2 8 9 10 11 13 64 65 124) ?_))))
  refine Gc (fun c8 => ?_) (fun c8 => ?_)
  ·
   have c8p := kz c8
   refine AJ (Gt (Ah YO rfl) (Gt (AF rfl A1 .m2 Ing.Event.l4 rfl rfl) ?_))
   refine A8 rfl Zt (.c rfl .n) (fun w hS => HP _ w (gl1.st hS)) ?_
   refine Ag rfl OX (.c rfl (.c rfl .n)) (.c (.t .h) (.c .h .n)) (BJ _ _ _ _ (by assumption) (by assumption) (by assumption) _ (by omega)) (fun v25 B hv => ?_)
   obtain ⟨y26, y27, rfl, y28, y29, y30, rfl⟩ := hv
   refine AM (AB (.t7 2 8 9 10 11 64 65) ?_)
   refine AU (AU (AA (AJ ?_)))
   refine Gt (Aw rfl rfl (IntWalk.i64_in _ (by first | omega | (simp only [List.length_cons, List.length_nil]; omega)))) ?_
   refine Gm rfl ?_
   refine AM (AB (.t7 2 8 9 10 11 64 65) ?_)
   refine CG (.c (.t .h) (.c .h (.c .h .n))) ?_
   refine CV ?_
   refine Cz (k + 1) _ _ _ ?_ ?_ (.t7 65 2 8 9 10 11 64) (.refl _)
   · exact ⟨by omega, by omega, by rw [AI.FE hI11, ← hI13, show AI.piece e (AI.Hz e b) (AI.Fi e b) (AI.D5 e b) k = _ from ((AV c4).trans ((AV c5).trans ((AV c6).trans ((AV c7).trans (BC c8)))))], by assumption, by assumption, by assumption⟩
   · omega
  have c8p := kz c8
  refine Gs (Gm rfl (Gt (Aj rfl rfl) (Ga rfl (Gn (.t9 2 8 9 10 11 13 64 65 131) ?_))))
  refine Gc (fun c9 => ?_) (fun c9 => ?_)
  ·
   have c9p := kz c9
   refine AJ (Gt (Ah WU rfl) (Gt (AF rfl CC .m2 Ing.Event.l9 rfl rfl) ?_))
   refine Ag rfl OX (.c rfl (.c rfl .n)) (.c (.t .h) (.c .h .n)) (BJ _ _ _ _ (by assumption) (by assumption) (by assumption) _ (by omega)) (fun v31 B hv => ?_)
   obtain ⟨y32, y33, rfl, y34, y35, y36, rfl⟩ := hv
   refine AM (AB (.t7 2 8 9 10 11 64 65) ?_)
   refine AU (AU (AA (AJ ?_)))
   refine Gt (Aw rfl rfl (IntWalk.i64_in _ (by first | omega | (simp only [List.length_cons, List.length_nil]; omega)))) ?_
   refine Gm rfl ?_
   refine AM (AB (.t7 2 8 9 10 11 64 65) ?_)
   refine CG (.c (.t .h) (.c .h (.c .h .n))) ?_
   refine CV ?_
   refine Cz (k + 1) _ _ _ ?_ ?_ (.t7 65 2 8 9 10 11 64) (.refl _)
   · exact ⟨by omega, by omega, by rw [AI.FE hI11, ← hI13, show AI.piece e (AI.Hz e b) (AI.Fi e b) (AI.D5 e b) k = _ from ((AV c4).trans ((AV c5).trans ((AV c6).trans ((AV c7).trans ((AV c8).trans (BC c9))))))], by assumption, by assumption, by assumption⟩
   · omega
  have c9p := kz c9
  refine Gs (Gm rfl (Gt (Aj rfl rfl) (Ga rfl (Gn (.t9 2 8 9 10 11 13 64 65 137) ?_))))
  refine Gc (fun c10 => ?_) (fun c10 => ?_)
  ·
   have c10p := kz c10
   refine AJ (Gt (Ah Y7 rfl) (Gt (AF rfl A1 .m2 Ing.Event.l5 rfl rfl) ?_))
   refine A8 rfl bN (.c rfl .n) (fun w hS => LM _ hs.n0 hs.n1 w (gl0.st hS)) ?_
   refine Ag rfl OX (.c rfl (.c rfl .n)) (.c (.t .h) (.c .h .n)) (BJ _ _ _ _ (by assumption) (by assumption) (by assumption) _ (by omega)) (fun v37 B hv => ?_)
   obtain ⟨y38, y39, rfl, y40, y41, y42, rfl⟩ := hv
   refine AM (AB (.t7 2 8 9 10 11 64 65) ?_)
   refine AU (AU (AA (AJ ?_)))
   refine Gt (Aw rfl rfl (IntWalk.i64_in _ (by first | omega | (simp only [List.length_cons, List.length_nil]; omega)))) ?_
   refine Gm rfl ?_
   refine AM (AB (.t7 2 8 9 10 11 64 65) ?_)
   refine CG (.c (.t .h) (.c .h (.c .h .n))) ?_
   refine CV ?_
   refine Cz (k + 1) _ _ _ ?_ ?_ (.t7 65 2 8 9 10 11 64) (.refl _)
   · exact ⟨by omega, by omega, by rw [AI.FE hI11, ← hI13, show AI.piece e (AI.Hz e b) (AI.Fi e b) (AI.D5 e b) k = _ from ((AV c4).trans ((AV c5).trans ((AV c6).trans ((AV c7).trans ((AV c8).trans ((AV c9).trans (BC c10)))))))], by assumption, by assumption, by assumption⟩
   · omega
  have c10p := kz c10
  refine AJ (Gm rfl ?_)
  refine Ag rfl Xf (.c rfl (.c rfl .n)) (.c (.t .h) (.c .h .n)) (Cb _ _ _ _ (by assumption) (by assumption) (by assumption) _ (by omega)) (fun v43 B hv => ?_)
  obtain ⟨y44, y45, rfl, y46, y47, y48, rfl⟩ := hv
  refine AM (AB (.t7 2 8 9 10 11 64 65) ?_)
  refine AU (AU (AA (AJ ?_)))
  refine Gt (Aw rfl rfl (IntWalk.i64_in _ (by first | omega | (simp only [List.length_cons, List.length_nil]; omega)))) ?_
  refine Gm rfl ?_
  refine AM (AB (.t7 2 8 9 10 11 64 65) ?_)
  refine CG (.c (.t .h) (.c .h (.c .h .n))) ?_
  refine CV ?_
  refine Cz (k + 1) _ _ _ ?_ ?_ (.t7 65 2 8 9 10 11 64) (.refl _)
  · exact ⟨by omega, by omega, by rw [AI.FE hI11, ← hI13, show AI.piece e (AI.Hz e b) (AI.Fi e b) (AI.D5 e b) k = _ from ((AV c4).trans ((AV c5).trans ((AV c6).trans ((AV c7).trans ((AV c8).trans ((AV c9).trans (AV c10)))))))], by assumption, by assumption, by assumption⟩
  · omega
 have c3p := kz c3
 obtain rfl : k = ((AI.D5 e b).length : Int) := by omega
 refine BV (AT (AT (Af ?_)))
 refine AB (.t1 11) ?_
 refine AA (Gs ?_)
 refine Ag rfl Xm (.c rfl .n) (.c (.t .h) (.c .h .n)) (Cp _ _ _ _ (by assumption) (by assumption) (by omega)) (fun v49 B hv => ?_)
 obtain ⟨rfl, rfl⟩ := hv
 refine Ga rfl (Ga rfl (Gn (.t2 4 5) (Ac ?_)))
 refine AY rfl (.tmp rfl (.tmp rfl .n)) ?_
 intro w1 hS; refine ⟨?_, hS.Am⟩; rw [show AI.tell e b = _ from (AV c1).trans (AV c2), hI13]; rfl
theorem GM (p : Ar) (w : World) : EG Tryz.prog 44 #[.agg p.enc.toArray] w fun v w' => v = .bool (Page.Br p) ∧ B6 w w' := by
 refine Ai [] [] Tryz.func44 rfl rfl rfl (St.start w []) ?_
 refine Gs ?_
 refine Bw rfl rfl rfl (fun b1 => ?_)
 refine Ga rfl (Gn (.t1 1) (Gs (Gt (Ah FO rfl) (Gt (AF rfl Du .m0 Ar.l0 rfl rfl) (Gt (Aq rfl Tryz.underlying52 rfl) (Gt (Hr rfl rfl) (Gm rfl ?_)))))))
 refine Ba 7 rfl rfl (fun q => Ah Hs rfl) (Ba 7 rfl rfl (fun q => AF (BX rfl q) CC .m0 Ar.l3 rfl rfl) (Ba 7 rfl rfl (fun q => BI rfl Tryz.underlying9 (BX rfl q)) (Ba 7 rfl rfl (fun q => Hr (BX rfl q) rfl) (Gt (BH rfl rfl (fun h => h)) (Gm rfl (Ba 13 rfl rfl (fun q => Ah JJ rfl) (Ba 13 rfl rfl (fun q => AF (BX rfl q) A1 .m0 Ar.l1 rfl rfl) ?_)))))))
 refine Ba 13 rfl rfl (fun q => CI (BX rfl q) rfl) (Gt (BH rfl rfl (fun h => h)) (Gm rfl (Ba 18 rfl rfl (fun q => Ah JJ rfl) (Ba 18 rfl rfl (fun q => AF (BX rfl q) A1 .m0 Ar.l1 rfl rfl) (Ba 18 rfl rfl (fun q => Hr (BX rfl q) rfl) (Gt (BH rfl rfl (fun h => h)) (Ga rfl ?_)))))))
 refine Gn (.t1 2) (Ac ?_)
 refine AY rfl (.tmp rfl .n) ?_
 intro w1 hS; refine ⟨congrArg Value.bool ?_, hS.Am⟩; rfl
theorem MO {t0 : Nat} (p : Ar) (qs : List Au) (s : Au) : Ev Tryz.prog 82 #[.agg p.enc.toArray, BO s] [] (fun w => Rd w p.wait t0 1 (qs.flatMap A4)) (fun v B => (Page.Br p = false ∧ v = .tuple #[.agg p.enc.toArray, .int .i64 2] ∧ B = []) ∨ (Page.Br p = true ∧ p.cut = true ∧ v = .tuple #[.agg p.enc.toArray, .int .i64 6] ∧ B = []) ∨ (Page.Br p = true ∧ p.cut = false ∧ 60 ≤ qs.length ∧ v = .tuple #[.agg (Ar.enc ⟨p.wait, p.shown, p.B5, p.ring, true⟩).toArray, .int .i64 0] ∧ B = []) ∨ (Page.Br p = true ∧ p.cut = false ∧ qs.length < 60 ∧ ∃ h' : Hd, v = .tuple #[.agg (Ar.enc ⟨h', p.shown, p.B5, p.ring, p.cut⟩).toArray, .int .i64 0] ∧ h'.len = qs.length + 1 ∧ B = [Ab.own h' 9 1 ((qs ++ [s]).flatMap A4)])) := by
 intro w hS0 hH
 have r0 := hH
 have hl := r0.KV DB (by decide)
 refine Ai _ _ Tryz.func82 rfl rfl rfl (hS0) ?_
 refine Gs ?_
 refine Bw rfl rfl rfl (fun b1 => ?_)
 refine BB rfl Qf rfl (fun b2 => ?_)
 refine Ga rfl (Gn (.t3 1 2 4) (Ao (Ae (Gs (Gt (AZ rfl Cm .m1 (AS.id Ar.fl.len Ar.fl.one) rfl) ?_)))))
 refine A8 rfl Yj (.c rfl .n) (fun w hS => GM _ w) ?_
 refine Gt (BQ rfl) (Ga rfl (Gn (.t4 1 2 4 6) ?_))
 refine Gc (fun c1 => ?_) (fun c1 => ?_)
 ·
  refine Gs (Gt (AZ rfl Cm .m1 (AS.id Ar.fl.len Ar.fl.one) rfl) ?_)
  refine AQ (AK (AS.id Ar.fl.len Ar.fl.one) rfl rfl rfl Ez rfl .h) ?_
  refine Ga rfl (Gn (.t2 4 5) (Ac (AP (AD ?_))))
  refine AY rfl (.cell rfl .m0 (.inl ⟨(by rw [Ar.fl.len]; exact Cm), rfl⟩) (.tmp rfl .n)) ?_
  intro w1 hS
  have hS := (hS.perm (Av.perm .n)).Ay
  exact ⟨_, .inl ⟨by simpa using c1, rfl, rfl⟩, hS⟩
 have c1p := kz c1
 have hgd : Page.Br p = true := by simpa using c1
 have hg := (Page.Gz p).1 hgd
 refine Gs (Gt (Ah Ih rfl) (Gt (AF rfl Ct .m1 Ar.l4 rfl rfl) (Ga rfl (Gn (.t4 1 2 4 11) ?_))))
 refine Gc (fun c2 => ?_) (fun c2 => ?_)
 ·
  refine Gs (Gt (AZ rfl Cm .m1 (AS.id Ar.fl.len Ar.fl.one) rfl) ?_)
  refine AQ (AK (AS.id Ar.fl.len Ar.fl.one) rfl rfl rfl Ez rfl .h) ?_
  refine Ga rfl (Gn (.t2 4 5) (Ac (AP (AD ?_))))
  refine AY rfl (.cell rfl .m0 (.inl ⟨(by rw [Ar.fl.len]; exact Cm), rfl⟩) (.tmp rfl .n)) ?_
  intro w1 hS
  have hS := (hS.perm (Av.perm .n)).Ay
  exact ⟨_, .inr (.inl ⟨hgd, c2, rfl, rfl⟩), hS⟩
 have c2p := kz c2
 refine Gs (Gt (Ah FO rfl) (Gt (AF rfl Du .m1 Ar.l0 rfl rfl) (Gt (Aq rfl Tryz.underlying52 rfl) (Gt (CI rfl rfl) (Ga rfl (Gn (.t4 1 2 4 15) ?_))))))
 refine Gc (fun c3 => ?_) (fun c3 => ?_)
 ·
  have c3p := kz c3
  refine Gs (Gt (Ah Ih rfl) ?_)
  refine AQ (AK Ar.l4 rfl rfl rfl Jt rfl (.t .h)) ?_
  refine Gn (.t2 2 4) (Gs (Gt (AZ rfl Cm .m1 (AS.id Ar.fl.len Ar.fl.one) rfl) ?_))
  refine AQ (AK (AS.id Ar.fl.len Ar.fl.one) rfl rfl rfl Ez rfl .h) ?_
  refine Ga rfl (Gn (.t2 4 5) (Ac (AP (AD ?_))))
  refine AY rfl (.cell rfl .m0 (.inl ⟨(by rw [Ar.fl.len]; exact Cm), rfl⟩) (.tmp rfl .n)) ?_
  intro w1 hS
  have hS := (hS.perm (Av.perm .n)).Ay
  exact ⟨_, .inr (.inr (.inl ⟨hgd, by simpa using c2, by simp at c3; omega, rfl, rfl⟩)), hS⟩
 have c3p := kz c3
 refine Aa ?_
 refine AB (.t3 1 2 4) ?_
 refine AU (AA (Gs (Gt (Ah FO rfl) (Gt (AF rfl Du .m1 Ar.l0 rfl rfl) ?_))))
 refine BF rfl UE (.c rfl .n) .n (Bv _ _ (by first | assumption | omega)) (fun w hS => (Kn.Gx r0) w hS) (fun v1 B hv => ?_)
 obtain ⟨y2, rfl, y3, rfl⟩ := hv
 refine Gm rfl ?_
 refine FP A4 DB rfl Tryz.underlying52 EM Qe rfl (by decide) (by decide) rfl rfl (fun b3 => ?_)
 refine CW DB rfl Tryz.underlying52 EM Qe rfl WS (by decide) (by decide) rfl rfl (fun w hS => Src.De Tryz.underlying52 ((Kn.own .m0) w hS)) (by (try dsimp only); omega) (fun _ => (.t .h)) (fun h5 h5l h5z => ?_)
 refine Gt (Ah FO rfl) ?_
 refine AQ (AK Ar.l0 rfl rfl rfl Lj rfl (.t (.t (.t .h)))) ?_
 refine Gn (.t2 2 4) (Gs (Gt (AZ rfl Cm .m3 (AS.id Ar.fl.len Ar.fl.one) rfl) ?_))
 refine AQ (AK (AS.id Ar.fl.len Ar.fl.one) rfl rfl rfl Ez rfl (.t (.t .h))) ?_
 refine Ga rfl (Gn (.t2 4 5) (Ac ?_))
 refine AY rfl (.cell rfl .m2 (.inl ⟨(by rw [Ar.fl.len]; exact Cm), rfl⟩) (.tmp rfl .n)) ?_
 intro w1 hS
 have hS := (hS.perm (Av.perm (.c (.t .h) .n))).Ay
 exact ⟨_, .inr (.inr (.inr ⟨hgd, by simpa using c2, by simp at c3; omega, _, rfl, by (try dsimp only at *); (try simp only [List.length_cons, List.length_nil] at *); omega, rfl⟩)), hS⟩
theorem D7 (b : Nat) (V : AH) (ls : Vector BG 4) (ev : List Ing.Event) (k : Int) (u : Au) (hk : 0 ≤ k ∧ k < 4) (ht : (ls.at k).told.length ≤ 1000000) : Ic Tryz.prog 64 #[.pointer (some ⟨b, 0, none⟩), .pointer (some ⟨b, 165 + k.toNat * 22, none⟩), BO u] [Ab.box b 101 (AH.enc V), Ab.C3 (Bt 9 (AH.Ap V) ls), Ab.own (AH.last V) 56 16 ((ev).flatMap Ing.Event.enc)] (fun v B => ∃ V' ls' ev', v = .tuple #[] ∧ A2 V' ls' ev' = AN.tell (A2 V ls ev) k u ∧ B = [Ab.box b 101 (AH.enc V'), Ab.C3 (Bt 9 (AH.Ap V') ls'), Ab.own (AH.last V') 56 16 ((ev').flatMap Ing.Event.enc)]) := by
 intro w hS0
 refine Ai _ _ Tryz.func64 rfl rfl rfl (hS0) ?_
 refine Eu (k := k) hk.1 hk.2 (fun sv sl hsv hlv hln => ?_)
 refine BU (.t (.t (.t .h))) ?_
 refine BU (.t (.t .h)) ?_
 refine XB (Lm := [_, _]) (fun (o : Ar) (w0 : Hd) (ws : List Au) => Ch { sv with out := o } ⟨sl.queue, ws, sl.told⟩ = (Ch sv sl).line u ∧ o.wait = w0) (fun (o : Ar) (w0 : Hd) (ws : List Au) => []) (fun (o : Ar) (w0 : Hd) (ws : List Au) => [Ab.own w0 9 1 (ws.flatMap A4), Ab.box b 101 (I4 V k { sv with out := o })]) (.t2 1 2) rfl ?_ (fun o w0 ws hC => ?_)
 ·
  refine AJ (Gm rfl (Gm rfl (Gt (BS rfl) (Gt (Ah Df rfl) (Gt (AZ rfl Cm .m1 ((AS.BL V hk.1 hk.2).comp A0.l4) rfl) (Gm rfl ?_))))))
  refine BF rfl bP (.c rfl (.c rfl .n)) .n (MO _ _ _) (fun w hS => (Kn.own .m0) w hS) (fun v1 B hv => ?_)
  rcases hv with ⟨y2, rfl, rfl⟩ | ⟨y3, y4, rfl, rfl⟩ | ⟨y5, y6, y7, rfl, rfl⟩ | ⟨y8, y9, y10, y11, rfl, y12, rfl⟩
  ·
   refine Gm rfl (Gt (AL rfl rfl) (Gt (AL rfl rfl) (Gt (BS rfl) (Gt (Ah Df rfl) ?_))))
   refine AQ (AK ((AS.BL V hk.1 hk.2).comp A0.l4) rfl rfl rfl Ez rfl (.t .h)) ?_
   refine AM (AB (.t2 1 2) ?_)
   refine Mh _ _ _ ?_ (.t2 1 2) (.refl _)
   · exact ⟨(Vu hln.2.1 y2).symm, rfl⟩
  ·
   refine Gm rfl (Gt (AL rfl rfl) (Gt (AL rfl rfl) (Gt (BS rfl) (Gt (Ah Df rfl) ?_))))
   refine AQ (AK ((AS.BL V hk.1 hk.2).comp A0.l4) rfl rfl rfl Ez rfl (.t .h)) ?_
   refine AM (AB (.t2 1 2) ?_)
   refine Mh _ _ _ ?_ (.t2 1 2) (.refl _)
   · exact ⟨(Vj hln.2.1 y3 y4).symm, rfl⟩
  ·
   refine Gm rfl (Gt (AL rfl rfl) (Gt (AL rfl rfl) (Gt (BS rfl) (Gt (Ah Df rfl) ?_))))
   refine AQ (AK ((AS.BL V hk.1 hk.2).comp A0.l4) rfl rfl rfl Ez rfl (.t .h)) ?_
   refine AM (AB (.t2 1 2) ?_)
   refine Mh _ _ _ ?_ (.t2 1 2) (.refl _)
   · exact ⟨(Tb hln.2.1 y5 y6 y7).symm, rfl⟩
  refine Gm rfl (Gt (AL rfl rfl) (Gt (AL rfl rfl) (Gt (BS rfl) (Gt (Ah Df rfl) ?_))))
  refine AQ (AK ((AS.BL V hk.1 hk.2).comp A0.l4) rfl rfl rfl Ez rfl (.t (.t .h))) ?_
  refine AM (AB (.t2 1 2) ?_)
  refine CG (.c .h (.c (.t .h) (.c (.t .h) (.c (.t .h) (.c (.t .h) (.c (.t .h) .n)))))) ?_
  refine CV ?_
  refine Mh _ _ _ ?_ (.t2 1 2) (.refl _)
  · exact ⟨(Uz hln.2.1 y8 y9 y10 _).symm, rfl⟩
 obtain ⟨hE1, hE2⟩ := hC
 have ht2 : sl.told.length ≤ 1000000 := by rw [← hlv]; exact ht
 refine Gs (Gm rfl (Gt (BS rfl) (Gt (Ah Df rfl) (Gt (Ah Ih rfl) (Gt (AF rfl Ct .m1 (((AS.BL V hk.1 hk.2).comp A0.l4).comp Ar.l4) rfl rfl) (Gt (BQ rfl) (Gn (.t3 1 2 23) ?_)))))))
 refine Gc (fun c1 => ?_) (fun c1 => ?_)
 ·
  have c1p := kz c1
  refine AJ (Gm rfl (Gm rfl (Gt (BS rfl) (Gt (Ah QO rfl) (Gt (AF rfl Du .m1 ((AS.BL V hk.1 hk.2).comp A0.l5) rfl rfl) (Gm rfl ?_))))))
  refine FP A4 DB rfl Tryz.underlying52 EM Qe rfl (by decide) (by decide) rfl rfl (fun b1 => ?_)
  refine CW DB rfl Tryz.underlying52 EM Qe rfl WS (by decide) (by decide) rfl rfl (fun w hS => Src.De Tryz.underlying52 ((Kn.own .m0) w hS)) (by (try dsimp only); omega) (fun _ => (.t (.t (.t (.t .h))))) (fun h14 h14l h14z => ?_)
  refine Gt (BS rfl) (Gt (Ah QO rfl) ?_)
  refine AQ (AK ((AS.BL V hk.1 hk.2).comp A0.l5) rfl rfl rfl Lj rfl (.t (.t .h))) ?_
  refine AM ?_
  refine Bh rfl .n ?_
  intro w1 hS
  have hS := (hS.perm (Av.perm (.c (.t (.t (.t .h))) (.c (.t .h) (.c (.t (.t .h)) (.c (.t .h) (.c (.t .h) (.c (.t .h) .n)))))))).Ay
  have hS := hS.close' hk.1 hk.2 (by rfl) (by exact hE2) (by rfl)
  refine ⟨_, ⟨V.BL k _, ls.put k ⟨_, _, _⟩, ev, rfl, ?ga1, rfl⟩, hS⟩
  case ga1 => exact EW hk.1 hk.2 hsv hlv (f := fun x => x.tell u) (by show _ = ((Ch sv sl).line u).note u; rw [← hE1]; exact (Yc (l := ⟨sl.queue, ws, sl.told⟩) c1 _).symm)
 refine Aa ?_
 refine Bh rfl .n ?_
 intro w1 hS
 have hS := (hS.perm (Av.perm (.c (.t (.t .h)) (.c .h (.c (.t .h) (.c .h (.c .h (.c .h .n)))))))).Ay
 have hS := hS.close' hk.1 hk.2 (by rfl) (by exact hE2) (by rfl)
 refine ⟨_, ⟨V.BL k _, ls.put k ⟨_, _, _⟩, ev, rfl, ?ga2, rfl⟩, hS⟩
 case ga2 => exact EW hk.1 hk.2 hsv hlv (f := fun x => x.tell u) (by show _ = ((Ch sv sl).line u).note u; rw [← hE1]; exact (Y8 (l := ⟨sl.queue, ws, sl.told⟩) c1).symm)
theorem En (b : Nat) (V : AH) (ls : Vector BG 4) (ev : List Ing.Event) (f : Hd) (es : List Ing.Event) (n : Nat) (hf : f.len = es.length) (hn : VE ls n) (hm : n + es.length ≤ 1000000) (hl : ev.length ≤ 1000000) (he : (∀ e ∈ es, ∀ c : Int, (decide (c < 0) || decide (6 ≤ c) || decide (AI.Q1 (e.HF.at c) 1 = 0)) = false → AI.Small e)) : Ev Tryz.prog 79 #[.pointer (some ⟨b, 0, none⟩), f.val] [Ab.box b 101 (AH.enc V), Ab.C3 (Bt 9 (AH.Ap V) ls), Ab.own (AH.last V) 56 16 ((ev).flatMap Ing.Event.enc), Ab.own f 56 16 (es.flatMap Ing.Event.enc)] (fun w => (GV 2 E7 w ∧ 2 ∉ CR [Ab.box b 101 (AH.enc V), Ab.C3 (Bt 9 (AH.Ap V) ls), Ab.own (AH.last V) 56 16 ((ev).flatMap Ing.Event.enc), Ab.own f 56 16 (es.flatMap Ing.Event.enc)]) ∧ (GV 0 AI.C2 w ∧ 0 ∉ CR [Ab.box b 101 (AH.enc V), Ab.C3 (Bt 9 (AH.Ap V) ls), Ab.own (AH.last V) 56 16 ((ev).flatMap Ing.Event.enc), Ab.own f 56 16 (es.flatMap Ing.Event.enc)])) (fun v B => ∃ V' ls' ev', v = .tuple #[] ∧ A2 V' ls' ev' = AN.HI (A2 V ls ev) es ∧ B = [Ab.box b 101 (AH.enc V'), Ab.C3 (Bt 9 (AH.Ap V') ls'), Ab.own (AH.last V') 56 16 ((ev').flatMap Ing.Event.enc), Ab.own f 56 16 (es.flatMap Ing.Event.enc)]) := by
 intro w hS0 hH
 obtain ⟨⟨gl0, gm0⟩, ⟨gl1, gm1⟩⟩ := hH
 refine Ai _ _ Tryz.func79 rfl rfl rfl (hS0) ?_
 refine Ao ?_
 refine Vv (fun w hS => (Kn.own .m2 w hS).KV Ing.Event.fl (by decide)) (fun hLl => ?_)
 refine AJ (Gm rfl (Gm rfl (Gt (BS rfl) (Gt (Ah Mq rfl) (Gt (AF rfl DU .m0 AH.l3 rfl rfl) (Gm rfl ?_))))))
 refine CW Ing.Event.fl rfl Tryz.underlying53 MN Hj rfl Tp (by decide) (by decide) rfl rfl (fun w hS => Src.De Tryz.underlying53 ((Kn.own .m3) w hS)) (by (try dsimp only); omega) (fun _ => (.t (.t .h))) (fun h1 h1l h1z => ?_)
 refine Gt (BS rfl) (Gt (Ah Mq rfl) ?_)
 refine AQ (AK AH.l3 rfl rfl rfl RS rfl .h) ?_
 refine Gn (.t2 0 1) (Gs (Gm rfl (Gt (Aq rfl Tryz.underlying53 rfl) (Gm rfl (Gn (.t4 0 19 20 21) (Ae ?_))))))
 refine Bf (.t4 21 0 19 20) ?_
 refine BU (.t (.t .h)) ?_
 refine BU (.t (.t .h)) ?_
 refine BU (.t (.t .h)) ?_
 refine IF (fun (k : Int) (V1 : AH) (ls1 : Vector BG 4) (ev1 : List Ing.Event) => 0 ≤ k ∧ k ≤ (es.length : Int) ∧ A2 V1 ls1 ev1 = ({ (A2 V ls ev) with last := ev ++ es } : AN).Is (es.take k.toNat) ∧ VE ls1 (n + k.toNat)) (fun (k : Int) (V1 : AH) (ls1 : Vector BG 4) (ev1 : List Ing.Event) => ((es.length : Int) - k).toNat) (fun (k : Int) (V1 : AH) (ls1 : Vector BG 4) (ev1 : List Ing.Event) => [(21, .int .i64 k)]) (fun (k : Int) (V1 : AH) (ls1 : Vector BG 4) (ev1 : List Ing.Event) => [Ab.box b 101 (AH.enc V1), Ab.C3 (Bt 9 (AH.Ap V1) ls1), Ab.own (AH.last V1) 56 16 (ev1.flatMap Ing.Event.enc)]) (0) (_) (_) (_) ?_ rfl rfl (fun k V1 ls1 ev1 hI1 => ?_)
 · exact ⟨by omega, by omega, rfl, hn⟩
 obtain ⟨hI11, hI12, hI13, hI14⟩ := hI1
 refine Gs (Gt (A5 rfl rfl) (AM (AA (Ao ?_))))
 refine Gc (fun c1 => ?_) (fun c1 => ?_)
 ·
  have c1p := kz c1
  refine Aa ?_
  refine AB (.t4 0 19 20 21) ?_
  refine AA (Ao (Ae (Gs ?_)))
  refine Gt (Bg aX (by decide) (Kn.own .m3) rfl rfl (by omega) (by omega)) ?_
  refine Gt (Nd rfl Na (by decide) Ing.Event.fl (Kn.own .m3) (by omega)) ?_
  refine BB rfl Hj rfl (fun b1 => ?_)
  refine AQ (AK (AS.id Ing.Event.fl.len Ing.Event.fl.one) rfl rfl rfl MN rfl .h) ?_
  refine Gn (.t5 0 5 19 20 21) (Gs (Gm rfl (AM (AA (Ae ?_)))))
  refine Bf (.t6 25 0 5 19 20 21) ?_
  refine BU (.t (.t (.t .h))) ?_
  refine BU (.t (.t (.t .h))) ?_
  refine BU (.t (.t (.t .h))) ?_
  refine IF (fun (i : Int) (V2 : AH) (ls2 : Vector BG 4) (ev2 : List Ing.Event) => 0 ≤ i ∧ i ≤ 4 ∧ A2 V2 ls2 ev2 = AN.Cl (es.getD k.toNat default) (A2 V1 ls1 ev1) i.toNat ∧ (∀ j : Int, i ≤ j → j < 4 → (ls2.at j).told.length ≤ n + k.toNat) ∧ (∀ j : Int, 0 ≤ j → j < 4 → (ls2.at j).told.length ≤ n + k.toNat + 1)) (fun (i : Int) (V2 : AH) (ls2 : Vector BG 4) (ev2 : List Ing.Event) => (4 - i).toNat) (fun (i : Int) (V2 : AH) (ls2 : Vector BG 4) (ev2 : List Ing.Event) => [(25, .int .i64 i)]) (fun (i : Int) (V2 : AH) (ls2 : Vector BG 4) (ev2 : List Ing.Event) => [Ab.box b 101 (AH.enc V2), Ab.C3 (Bt 9 (AH.Ap V2) ls2), Ab.own (AH.last V2) 56 16 (ev2.flatMap Ing.Event.enc)]) (0) (V1) (ls1) (ev1) ?_ rfl rfl (fun i V2 ls2 ev2 hI2 => ?_)
  · exact ⟨by omega, by omega, rfl, (fun j j0 j1 => hI14 j j0 j1), (fun j j0 j1 => Nat.le_succ_of_le (hI14 j j0 j1))⟩
  obtain ⟨hI21, hI22, hI23, hI24, hI25⟩ := hI2
  refine Gs (Gt (A5 rfl rfl) (AM (AA (Ao ?_))))
  refine Gc (fun c2 => ?_) (fun c2 => ?_)
  ·
   have c2p := kz c2
   refine Aa ?_
   refine AB (.t6 0 5 19 20 21 25) ?_
   refine AA (Ao (Ae (Gs (Gm rfl (Ga rfl (Gn (.t7 0 5 6 19 20 21 25) (Gs ?_)))))))
   refine Gm rfl (Gm rfl (Gt (BS rfl) (Gt (Ah FV rfl) ?_)))
   refine Gt (AR N4 rfl rfl (by omega) (by omega)) ?_
   refine Ga rfl (Gn (.t7 0 5 7 19 20 21 25) (CB (Gm rfl (Gt (BS rfl) (Gt (Ah Ik rfl) ?_)))))
   refine Gt (AF rfl A1 .m0 ((AH.l1.comp (AS.ar (n := 4) A0.fl (by omega))).comp A0.l0) rfl rfl) ?_
   refine Gt (CT rfl rfl) (Gn (.t8 0 5 7 19 20 21 25 37) ?_)
   refine Gc (fun c3 => ?_) (fun c3 => ?_)
   ·
    have c3p := kz c3
    refine BV (AT (Af ?_))
    refine AB (.t6 0 5 19 20 21 25) ?_
    refine AA (AJ ?_)
    refine Gt (Aw rfl rfl (IntWalk.i64_in _ (by omega))) ?_
    refine Gm rfl ?_
    refine AM (AB (.t6 0 5 19 20 21 25) ?_)
    refine Cz (i + 1) _ _ _ ?_ ?_ (.t6 25 0 5 19 20 21) (.refl _)
    · exact ⟨by omega, by omega, ((J5 hI21 (by omega) hI23).trans (BC c3)).symm, (fun j j0 j1 => hI24 j (by omega) j1), hI25⟩
    · omega
   have c3p := kz c3
   refine Aa ?_
   refine AB (.t7 0 5 7 19 20 21 25) ?_
   refine AA (Ao ?_)
   refine BE (N := 11) [0, 0, 2, 6, 14, 31, 63, 127, 127, 255, 1023] mix (by kernel_rfl) rfl ?_
   refine Pf 0 rfl (AZ rfl Na .m3 (AS.id Ing.Event.fl.len Ing.Event.fl.one) rfl) (Pf 1 rfl (AE rfl) (Pf 2 rfl (BS rfl) (Pf 3 rfl (Ah Ho rfl) ?_)))
   refine Pf 4 rfl (AF rfl A1 .m0 ((AH.l1.comp (AS.ar (n := 4) A0.fl (by omega))).comp A0.l1) rfl rfl) ?_
   refine BW 5 rfl rfl (by kernel_rfl) (LH (Ka (Dv bD (.c rfl (.c rfl .n)) (fun w hS => Mc (es.getD k.toNat default) _ (he _ (Lk (d := default) (xs := es) (i := k.toNat) (by omega)) _) w (gl0.stM gm0 hS) (gl1.stM gm1 hS))))) ?_
   refine Pf 6 rfl (AE rfl) (Pf 7 rfl (AL rfl rfl) (Pf 8 rfl (AL rfl rfl) (Pf 9 rfl (Az rfl) (Pf 10 rfl (Az rfl) ?_))))
   refine A3 (by kernel_rfl) ?_
   refine AB (.t9 0 5 7 8 9 19 20 21 25) ?_
   refine AA (Gs (Gm rfl (Gn (.t9 0 5 7 8 19 20 21 25 47) ?_)))
   refine Gc (fun c4 => ?_) (fun c4 => ?_)
   ·
    have c4p := kz c4
    refine AJ (Gm rfl (Gm rfl (Gm rfl ?_)))
    refine Ag rfl SK (.c rfl (.c rfl (.c rfl .n))) (.c .h (.c .h (.c .h .n))) (D7 _ V2 ls2 _ i _ (by omega) (Nat.le_trans (hI24 i (by omega) (by omega)) (by omega))) (fun v2 B hv => ?_)
    obtain ⟨y3, y4, y5, rfl, y6, rfl⟩ := hv
    refine AM (AB (.t6 0 5 19 20 21 25) ?_)
    refine AU (AA (AJ ?_))
    refine Gt (Aw rfl rfl (IntWalk.i64_in _ (by omega))) ?_
    refine Gm rfl ?_
    refine AM (AB (.t6 0 5 19 20 21 25) ?_)
    refine Cz (i + 1) _ _ _ ?_ ?_ (.t6 25 0 5 19 20 21) (.refl _)
    · exact ⟨by omega, by omega, y6.trans ((J5 hI21 (by omega) hI23).trans ((AV c3).trans (BC c4))).symm, (fun j j0 j1 => by have h := hI24 j (by omega) j1; rw [(KS hI21 (by omega) y6 (by omega) j1).2 (by omega)]; exact h), (fun j j0 j1 => if c : j = i then (by subst c; have h := hI24 j (by omega) j1; have h2 := (KS hI21 (by omega) y6 j0 j1).1; omega) else (by rw [(KS hI21 (by omega) y6 j0 j1).2 c]; exact hI25 j j0 j1))⟩
    · omega
   have c4p := kz c4
   refine Aa ?_
   refine AB (.t6 0 5 19 20 21 25) ?_
   refine AU (AA (AJ ?_))
   refine Gt (Aw rfl rfl (IntWalk.i64_in _ (by omega))) ?_
   refine Gm rfl ?_
   refine AM (AB (.t6 0 5 19 20 21 25) ?_)
   refine Cz (i + 1) _ _ _ ?_ ?_ (.t6 25 0 5 19 20 21) (.refl _)
   · exact ⟨by omega, by omega, ((J5 hI21 (by omega) hI23).trans ((AV c3).trans (AV c4))).symm, (fun j j0 j1 => hI24 j (by omega) j1), hI25⟩
   · omega
  have c2p := kz c2
  obtain rfl : i = 4 := by omega
  refine BV (AT (AT (Af ?_)))
  refine AB (.t4 0 19 20 21) ?_
  refine AU (AA (AJ ?_))
  refine Gt (Aw rfl rfl (IntWalk.i64_in _ (by omega))) ?_
  refine Gm rfl ?_
  refine AM (AB (.t4 0 19 20 21) ?_)
  refine CG (.c .h (.c .h (.c .h (.c (.t .h) .n)))) ?_
  refine CV ?_
  refine Cz (k + 1) _ _ _ ?_ ?_ (.t4 21 0 19 20) (.refl _)
  · exact ⟨by omega, by omega, by rw [Rq hI11 (by omega), ← hI13]; exact hI23, fun j j0 j1 => by have h := hI25 j j0 j1; rw [show (k + 1).toNat = k.toNat + 1 by omega]; omega⟩
  · omega
 have c1p := kz c1
 obtain rfl : k = (es.length : Int) := by omega
 refine BV (AT (AT (Af ?_)))
 refine Bh rfl .n ?_
 intro w1 hS
 have hS := (hS.perm (Av.perm (.c .h (.c .h (.c .h (.c .h .n)))))).Ay
 refine ⟨_, ⟨V1, ls1, ev1, rfl, ?ga, rfl⟩, hS⟩
 case ga => rw [hI13, show (es.length : Int).toNat = es.length by omega, List.take_length]; exact (WR rfl).symm
theorem PZ (b : Nat) (V : AH) (ls : Vector BG 4) (ev : List Ing.Event) (k : Int) (u : Au) (n m : Nat) (hk : 0 ≤ k ∧ k < 4) (hF : AN.Fit (A2 V ls ev) n m) (hn : n ≤ 900000) (hm : m ≤ 900000) (hu : u.length ≤ 1000) : Ev Tryz.prog 93 #[.pointer (some ⟨b, 0, none⟩), .pointer (some ⟨b, 165 + k.toNat * 22, none⟩), BO u] [Ab.box b 101 (AH.enc V), Ab.C3 (Bt 9 (AH.Ap V) ls), Ab.own (AH.last V) 56 16 ((ev).flatMap Ing.Event.enc)] (fun w => (GV 2 E7 w ∧ 2 ∉ CR [Ab.box b 101 (AH.enc V), Ab.C3 (Bt 9 (AH.Ap V) ls), Ab.own (AH.last V) 56 16 ((ev).flatMap Ing.Event.enc)]) ∧ (GV 0 AI.C2 w ∧ 0 ∉ CR [Ab.box b 101 (AH.enc V), Ab.C3 (Bt 9 (AH.Ap V) ls), Ab.own (AH.last V) 56 16 ((ev).flatMap Ing.Event.enc)])) (fun v B => ∃ V' ls' ev', v = .tuple #[] ∧ A2 V' ls' ev' = AN.named (A2 V ls ev) k u ∧ B = [Ab.box b 101 (AH.enc V'), Ab.C3 (Bt 9 (AH.Ap V') ls'), Ab.own (AH.last V') 56 16 ((ev').flatMap Ing.Event.enc)]) := by
 intro w hS0 hH
 obtain ⟨⟨gl0, gm0⟩, ⟨gl1, gm1⟩⟩ := hH
 have hel := AG.O6 V.w u
 have hes := AG.KY (s := u) hF.HE
 have htn := GF hF
 refine Ai _ _ Tryz.func93 rfl rfl rfl (hS0) ?_
 refine Gs (Gm rfl (Gt (BS rfl) (Gt (Ah Dx rfl) (Gt (AZ rfl BT .m0 AH.l0 rfl) (Gm rfl ?_)))))
 refine BF rfl aL (.c rfl (.c rfl .n)) .n (La V.w u hF.HE.MH (by omega)) (fun w hS => gl1.pull gm1 hS .n) (fun v1 B hv => ?_)
 obtain ⟨y2, rfl, y3, rfl⟩ := hv
 refine Gm rfl (Gt (AL rfl rfl) (Gt (AL rfl rfl) (Gt (AL rfl rfl) (Gt (AL rfl rfl) ?_))))
 refine BB rfl LX rfl (fun b1 => ?_)
 refine AQ (AK (AS.id AI.fl.len AI.fl.one) rfl rfl rfl Dw rfl .h) ?_
 refine Ga rfl (Ga rfl (Ga rfl (Gn (.t6 0 1 6 7 8 9) (Gs (Gm rfl (Gn (.t6 0 1 6 7 8 21) (Ae ?_)))))))
 refine Gs (Gt (Aj rfl rfl) (Ga rfl (Gn (.t7 0 1 6 7 8 21 25) ?_)))
 refine Gc (fun c1 => ?_) (fun c1 => ?_)
 ·
  have c1p := kz c1
  refine Gs (Gm rfl (Gt (AZ rfl BT .m0 (AS.id AI.fl.len AI.fl.one) rfl) (Gt (BS rfl) (Gt (Ah Dx rfl) ?_))))
  refine AQ (AK AH.l0 rfl rfl rfl Dw rfl (.t (.t .h))) ?_
  refine Gn (.t4 0 1 7 8) (Ao ?_)
  refine D9 (.c (.t (.t .h)) (.c (.t (.t .h)) .n)) ?_
  refine Eu (k := k) hk.1 hk.2 (fun sv sl hsv hlv hln => ?_)
  refine AJ (Gm rfl (Gm rfl (Gm rfl (Gt (BS rfl) (Gt (Ah Ik rfl) ?_)))))
  refine AQ (AK ((AS.BL { V with w := (AG.Bj V.w u).1 } hk.1 hk.2).comp A0.l0) rfl rfl rfl C5 rfl (.t (.t (.t .h)))) ?_
  refine Gt (BS rfl) (Gt (Ah Ho rfl) ?_)
  refine AQ (AK ((AS.BL { V with w := (AG.Bj V.w u).1 } hk.1 hk.2).comp A0.l1) rfl rfl rfl C5 rfl (.t (.t (.t .h)))) ?_
  refine Gn (.t2 0 8) ?_
  refine D9 (.c .h (.c .h (.c .h (.c .h (.c .h .n))))) ?_
  refine GY hk.1 hk.2 (by rfl) (by rfl) (by rfl) ?_
  refine AJ (Gm rfl (Gm rfl ?_))
  refine BF rfl Ti (.c rfl (.c rfl .n)) (.c .h (.c .h (.c (.t (.t .h)) (.c (.t .h) .n)))) (En _ (AH.BL { V with w := (AG.Bj V.w u).1 } k { sv with state := 2, A7 := (AG.Bj V.w u).2.1 }) (ls.put k ⟨sl.queue, sl.wait, sl.told⟩) ev _ (AG.Bj V.w u).2.2.1 n (by assumption) (GF (by rw [(show A2 (AH.BL { V with w := (AG.Bj V.w u).1 } k { sv with state := 2, A7 := (AG.Bj V.w u).2.1 }) (ls.put k ⟨sl.queue, sl.wait, sl.told⟩) ev = ({ (A2 V ls ev) with w := (AG.Bj V.w u).1 } : AN).set k { AN.at_ (A2 V ls ev) k with state := 2, A7 := (AG.Bj V.w u).2.1 } from EW (V := { V with w := (AG.Bj V.w u).1 }) hk.1 hk.2 hsv hlv (f := fun x => { x with state := 2, A7 := (AG.Bj V.w u).2.1 }) rfl)]; exact hF.enters hk.1 hk.2 (of_decide_eq_true c1))) (by omega) (Nat.le_trans hF.last (by omega)) (fun e he c _ => hes.2 e he)) (fun w hS => ⟨gl0.pull gm0 hS (.c .h (.c .h (.c (.t (.t .h)) (.c (.t .h) .n)))), gl1.pull gm1 hS (.c .h (.c .h (.c (.t (.t .h)) (.c (.t .h) .n))))⟩) (fun v5 B hv => ?_)
  obtain ⟨y6, y7, y8, rfl, y9, rfl⟩ := hv
  refine AM (AB (.nil _) ?_)
  refine AU ?_
  refine Bh rfl .n ?_
  intro w1 hS
  have hS := (hS.perm (Av.perm (.c .h (.c .h (.c .h .n))))).Ay
  refine ⟨_, ⟨y6, y7, y8, rfl, ?ga1, rfl⟩, hS⟩
  case ga1 => exact Xr c1 (show A2 (AH.BL { V with w := (AG.Bj V.w u).1 } k { sv with state := 2, A7 := (AG.Bj V.w u).2.1 }) (ls.put k ⟨sl.queue, sl.wait, sl.told⟩) ev = ({ (A2 V ls ev) with w := (AG.Bj V.w u).1 } : AN).set k { AN.at_ (A2 V ls ev) k with state := 2, A7 := (AG.Bj V.w u).2.1 } from EW (V := { V with w := (AG.Bj V.w u).1 }) hk.1 hk.2 hsv hlv (f := fun x => { x with state := 2, A7 := (AG.Bj V.w u).2.1 }) rfl) y9
 have c1p := kz c1
 refine Gs (Gt (Aj rfl rfl) (Ga rfl (Gn (.t3 0 1 41) ?_)))
 refine Gc (fun c2 => ?_) (fun c2 => ?_)
 ·
  have c2p := kz c2
  refine AJ (Gm rfl (Gm rfl ?_))
  refine Ag rfl SK (.c rfl (.c rfl (.c rfl .n))) (.c (.t (.t .h)) (.c (.t (.t .h)) (.c (.t (.t .h)) .n))) (D7 _ V ls ev k _ hk (Nat.le_trans (htn k hk.1 hk.2) (by omega))) (fun v10 B hv => ?_)
  obtain ⟨y11, y12, y13, rfl, y14, rfl⟩ := hv
  refine AM (AB (.nil _) ?_)
  refine AU ?_
  refine Bh rfl .n ?_
  intro w1 hS
  have hS := (hS.perm (Av.perm (.c .h (.c .h (.c .h .n))))).Ay
  refine ⟨_, ⟨y11, y12, y13, rfl, ?ga2, rfl⟩, hS⟩
  case ga2 => exact W5 c1 c2 y14
 have c2p := kz c2
 refine AJ (Gm rfl (Gm rfl ?_))
 refine Ag rfl SK (.c rfl (.c rfl (.c rfl .n))) (.c (.t (.t .h)) (.c (.t (.t .h)) (.c (.t (.t .h)) .n))) (D7 _ V ls ev k _ hk (Nat.le_trans (htn k hk.1 hk.2) (by omega))) (fun v15 B hv => ?_)
 obtain ⟨y16, y17, y18, rfl, y19, rfl⟩ := hv
 refine AM (AB (.nil _) ?_)
 refine AU ?_
 refine Bh rfl .n ?_
 intro w1 hS
 have hS := (hS.perm (Av.perm (.c .h (.c .h (.c .h .n))))).Ay
 refine ⟨_, ⟨y16, y17, y18, rfl, ?ga3, rfl⟩, hS⟩
 case ga3 => exact XC c1 c2 y19
theorem Bp (z : Int) : Ic Tryz.prog 150 #[.int .i64 z] [] (fun v B => v = .tuple #[.agg (Order.enc default).toArray, .int .i64 z] ∧ B = []) := by
 intro w hS0
 refine Ai _ _ Tryz.func150 rfl rfl rfl (hS0) ?_
 refine Gs ?_
 refine BB rfl Kx rfl (fun b1 => ?_)
 refine Ga rfl (Gn (.t2 0 2) (Gs (Gt (BD Qa Kx rfl .nil) (Gm rfl ?_))))
 refine AQ (AK (AS.id Order.fl.len Order.fl.one) rfl rfl rfl Ds rfl .h) ?_
 refine Ga rfl (Gn (.t2 2 3) (Ac ?_))
 refine AY rfl (.cell rfl .m0 (.inl ⟨(by rw [Order.fl.len]; exact B9), rfl⟩) (.tmp rfl .n)) ?_
 intro w1 hS
 have hS := (hS.perm (Av.perm .n)).Ay
 exact ⟨_, ⟨rfl, rfl⟩, hS⟩
theorem E2 (s : Au) (c : UInt8) (w : World) : EG Tryz.prog 87 #[BO s, .int .u8 (c.toNat : Int)] w fun v w' => v = .int .i64 (Lib.indexByte s c) ∧ B6 w w' := by
 refine Ai [] [] Tryz.func87 rfl rfl rfl (St.start w []) ?_
 refine Gs (Ga rfl (Gn (.t2 0 1) (Gs (Gm rfl (Gm rfl ?_)))))
 refine Gt (J3 Tryz.func112 (by kernel_rfl) (by kernel_rfl) (by kernel_rfl) (by kernel_rfl) rfl rfl) ?_
 refine Ga rfl (Gn (.t1 4) (Ac ?_))
 refine AY rfl (.tmp rfl .n) ?_
 intro w1 hS; refine ⟨?_, hS.Am⟩; rfl
theorem Dr (s : Au) (c : UInt8) (w : World) : EG Tryz.prog 76 #[BO s, BO [c]] w fun v w' => v = .int .i64 (Lib.indexByte s c) ∧ B6 w w' := by
 refine Ai [] [] Tryz.func76 rfl rfl rfl (St.start w []) ?_
 refine Gs (Ga rfl (Gn (.t2 0 1) (Gs (Gm rfl (Gt (BI rfl Tryz.underlying9 rfl) (Ga rfl (Gn (.t3 0 1 5) ?_)))))))
 refine Ao (Ae (Gs (Gm rfl (Gt (Aj rfl rfl) (Gm rfl (BZ 19 rfl rfl (fun q => AE rfl) (BZ 19 rfl rfl (fun q => AE rfl) ?_)))))))
 refine BZ 19 rfl rfl (fun q => Bo (cF rfl q) (cF rfl q)) ?_
 refine Gt (BR rfl rfl (fun h => by rw [h]; rfl)) ?_
 refine Ga rfl (Gn (.t4 0 1 5 16) ?_)
 refine Gc (fun c1 => ?_) (fun c1 => ?_)
 ·
  refine Gs (Ga rfl (Gn (.t1 4) (Ac (AP (AD ?_)))))
  refine AY rfl (.tmp rfl .n) ?_
  intro w1 hS; refine ⟨?_, hS.Am⟩; have e : [c] = s := by simpa using c1
  rw [← e, Page.UN]; rfl
 have c1p := kz c1
 refine Gs (Gm rfl (Gt (Aj rfl rfl) (Ga rfl (Gn (.t4 0 1 5 24) ?_))))
 refine FL rfl (by simp) ?_
 refine Gs (Gm rfl (Gm rfl ?_))
 refine Gt (Bi Tryz.underlying9 rfl rfl (by decide) (by first | omega | simp)) ?_
 refine A8 rfl cM (.c rfl (.c rfl .n)) (fun w hS => E2 _ _ w) ?_
 refine Ga rfl (Gn (.t1 4) (Ac (AP (AD ?_))))
 refine AY rfl (.tmp rfl .n) ?_
 intro w1 hS; refine ⟨?_, hS.Am⟩; rfl
theorem E9 (s : Au) (c : UInt8) (w : World) : EG Tryz.prog 176 #[BO s, BO [c]] w fun v w' => v = .int .i64 (Lib.indexByte s c) ∧ B6 w w' := by
 refine Ai [] [] Tryz.func176 rfl rfl rfl (St.start w []) ?_
 refine Gs (Ga rfl (Gn (.t2 0 1) (Gs (Gm rfl (Gm rfl ?_)))))
 refine A8 rfl Zz (.c rfl (.c rfl .n)) (fun w hS => Dr _ _ w) ?_
 refine Ga rfl (Gn (.t1 4) (Ac ?_))
 refine AY rfl (.tmp rfl .n) ?_
 intro w1 hS; refine ⟨?_, hS.Am⟩; rfl
theorem G1 (s : Au) (c : UInt8) (w : World) : EG Tryz.prog 174 #[BO s, BO [c]] w fun v w' => v = .int .i64 ((s.count c : Nat) : Int) ∧ B6 w w' := by
 refine Ai [] [] Tryz.func174 rfl rfl rfl (St.start w []) ?_
 refine Gs (Ga rfl (Gn (.t2 0 1) (CB (Gm rfl (Gt (BI rfl Tryz.underlying9 rfl) (Gt (Aj rfl rfl) (Gn (.t3 0 1 9) ?_)))))))
 refine Da rfl (by simp) ?_
 refine Aa ?_
 refine AB (.t2 0 1) ?_
 refine AA (CB (Gm rfl (Gt (BI rfl Tryz.underlying9 rfl) (Gt (Aj rfl rfl) (Gn (.t3 0 1 15) ?_)))))
 refine FL rfl (by simp) ?_
 refine Gs (Gm rfl (Gm rfl ?_))
 refine Gt (Bi Tryz.underlying9 rfl rfl (by decide) (by first | omega | simp)) ?_
 refine Gt (NG Tryz.func185 (by kernel_rfl) (by kernel_rfl) (by kernel_rfl) (by kernel_rfl) rfl rfl) ?_
 refine Ga rfl (Gn (.t1 4) (Ac (AD ?_)))
 refine AY rfl (.tmp rfl .n) ?_
 intro w1 hS; refine ⟨?_, hS.Am⟩; rfl
theorem Iu (s : Au) (c : UInt8) (hs : s.length ≤ 10000000) : Ic Tryz.prog 179 #[BO s, BO [c], .int .i64 0, .int .i64 (-1)] [] (fun v B => ∃ h' : Hd, v = h'.val ∧ h'.len = (Words.pieces c s).length ∧ B = [Ab.own h' 9 1 ((Words.pieces c s).flatMap A4)]) := by
 intro w hS0
 have hcl := List.count_le_length (a := c) (l := s)
 have hpl := Words.FB c s
 refine Ai _ _ Tryz.func179 rfl rfl rfl (hS0) ?_
 refine Gs (Ga rfl (Gn (.t4 0 1 2 3) (CB (Gm rfl (Gt (Aj rfl rfl) (Gn (.t5 0 1 2 3 13) ?_))))))
 refine Da rfl (by simp) ?_
 refine Aa ?_
 refine AB (.t4 0 1 2 3) ?_
 refine AA (CB (Gm rfl (Gt (Bo rfl rfl) (Gn (.t5 0 1 2 3 15) ?_))))
 refine Da rfl (by simp) ?_
 refine Aa ?_
 refine AB (.t4 0 1 2 3) ?_
 refine AA (CB (Gm rfl (Gt (A5 rfl rfl) (Gn (.t5 0 1 2 3 20) ?_))))
 refine FL rfl (by simp) ?_
 refine AJ (Gm rfl (Gm rfl ?_))
 refine A8 rfl Xw (.c rfl (.c rfl .n)) (fun w hS => G1 _ c w) ?_
 refine Gt (Aw rfl rfl (IntWalk.i64_in _ (by (try simp only [List.length_cons, List.length_nil]); omega))) ?_
 refine Ga rfl (Gn (.t4 0 1 2 3) (Gs (Gm rfl (Gm rfl (Gt (BI rfl Tryz.underlying9 rfl) ?_)))))
 refine Gt (Aw rfl rfl (IntWalk.i64_in _ (by (try simp only [List.length_cons, List.length_nil]); omega))) ?_
 refine Gt (LF rfl rfl) (Ga rfl (Gn (.t4 0 1 2 3) (Gs (Gm rfl ?_))))
 refine Um rfl Tryz.underlying52 EM Qe WS rfl rfl (by (try simp only [List.length_cons, List.length_nil]); omega) (by (try simp only [List.length_cons, List.length_nil]); omega) (fun b1 => ?_)
 refine Ga rfl (Gn (.t5 0 1 2 3 9) (Gs (Gm rfl ?_)))
 refine Gt (E8 rfl rfl (IntWalk.i64_in _ (by (try simp only [List.length_cons, List.length_nil]); omega))) ?_
 refine Ga rfl (Gn (.t5 0 1 2 3 9) (Gs (Ga rfl (AM (AA (Ao (Ae ?_)))))))
 refine Bf (.t6 0 10 1 2 3 9) ?_
 refine Dh (fun (i : Int) (r : Au) (xs : List Au) => Words.My c s i r xs) (fun (i : Int) (r : Au) (xs : List Au) => ((s.count c : Int) - i).toNat) (fun (i : Int) (r : Au) (xs : List Au) => [(0, BO r), (10, .int .i64 i)]) (fun (i : Int) (r : Au) (xs : List Au) => [Ab.own ⟨some ⟨b1, 0, none⟩, (min (((s.count c : Nat) : Int) + 1) ((s.length : Int) + 1)).toNat, (min (((s.count c : Nat) : Int) + 1) ((s.length : Int) + 1)).toNat⟩ 9 1 (xs.flatMap A4)]) (0) (s) (_) ?_ rfl rfl (fun i r xs hI1 => ?_)
 · exact Words.My.start c s _ (by omega)
 have hI11 := hI1; have hi0 := hI1.i0; have hi1 := hI1.i1; have hrl := hI1.rl; have hxl := hI1.len
 refine CB (Gm rfl (Gm rfl (Gt (A5 rfl rfl) (Gn (.t7 0 1 2 3 9 10 36) ?_))))
 refine Gc (fun c1 => ?_) (fun c1 => ?_)
 ·
  have c1p := kz c1
  refine Aa ?_
  refine AB (.t6 0 1 2 3 9 10) ?_
  refine AA (Ae (Gs (Gm rfl (Gm rfl ?_))))
  refine A8 rfl Vl (.c rfl (.c rfl .n)) (fun w hS => E9 _ c w) ?_
  refine Ga rfl (Gn (.t7 0 1 2 3 9 10 11) (CB (Gm rfl (Gt (A5 rfl rfl) (Gn (.t8 0 1 2 3 9 10 11 41) ?_)))))
  refine Gc (fun c2 => ?_) (fun c2 => ?_)
  ·
   have c2p := kz c2
   refine BV (AT ?_)
   refine JI rfl ?_
   refine AT (Af ?_)
   refine AB (.t3 0 9 10) ?_
   refine AA (Gs (Gm rfl (Gm rfl (Gm rfl ?_))))
   refine Gt (Bg Gu (by decide) (Kn.own .m0) rfl rfl (by omega) (by (try dsimp only); omega)) ?_
   refine AQ (NQ rfl rfl EM (by have := hI11.len; omega) .h) ?_
   refine Gn (.t2 9 10) (Gs (Gm rfl (Gm rfl ?_)))
   refine Gt (Aw rfl rfl (IntWalk.i64_in _ (by (try simp only [List.length_cons, List.length_nil]); omega))) ?_
   refine Ja DB rfl Tryz.underlying52 EM rfl rfl (by (try simp only [List.length_cons, List.length_nil]); omega) (by (try simp only [List.length_cons, List.length_nil]); omega) (fun _ => .h) ?_
   refine Ga rfl (Gn (.t1 8) (Ac ?_))
   refine AY rfl (.tmp rfl .n) ?_
   intro w1 hS
   have hS := (hS.perm (Av.perm (.c .h .n))).Ay
   have hd := hI11.done (by first | (right; simpa using c2) | (left; omega))
   exact ⟨_, ⟨_, rfl, by rw [hd.2] at *; (try simp only [Hd.cut] at *); omega, by rw [hd.2]⟩, hS⟩
  have c2p := kz c2
  obtain ⟨hm0, hm1, hnx⟩ := hI11.next rfl (by simpa using c2)
  refine Aa ?_
  refine AB (.t7 0 1 2 3 9 10 11) ?_
  refine AA (Gs (Gm rfl (Gm rfl (Gm rfl (Gm rfl (Gm rfl ?_))))))
  refine Gt (Aw rfl rfl (IntWalk.i64_in _ (by (try simp only [List.length_cons, List.length_nil]); omega))) ?_
  refine Gt (IE Tryz.underlying9 rfl rfl (by (try simp only [List.length_cons, List.length_nil]); omega) (by (try simp only [List.length_cons, List.length_nil]); omega)) ?_
  refine Gt (Bg Gu (by decide) (Kn.own .m0) rfl rfl (by omega) (by (try dsimp only); omega)) ?_
  refine AQ (NQ rfl rfl EM (by have := hI11.len; omega) .h) ?_
  refine Gn (.t7 0 1 2 3 9 10 11) (Gs (Gm rfl (Gm rfl (Gm rfl (Gt (BI rfl Tryz.underlying9 rfl) ?_)))))
  refine Gt (Aw rfl rfl (IntWalk.i64_in _ (by (try simp only [List.length_cons, List.length_nil]); omega))) ?_
  refine Gt (GG Tryz.underlying9 rfl rfl (by (try simp only [List.length_cons, List.length_nil]); omega) (by (try simp only [List.length_cons, List.length_nil]); omega)) ?_
  refine Ga rfl (Gn (.t6 0 1 2 3 9 10) (AJ (Gm rfl ?_)))
  refine Gt (Aw rfl rfl (IntWalk.i64_in _ (by (try simp only [List.length_cons, List.length_nil]); omega))) ?_
  refine Ga rfl ?_
  refine AM (AB (.t6 0 1 2 3 9 10) ?_)
  refine AU ?_
  refine Bu (i + 1) _ _ ?_ ?_ (.t6 0 10 1 2 3 9) (.refl _)
  · rw [Int.add_zero]
    exact hnx
  · omega
 have c1p := kz c1
 refine BV (AT (AT (Af ?_)))
 refine AB (.t3 0 9 10) ?_
 refine AA (Gs (Gm rfl (Gm rfl (Gm rfl ?_))))
 refine Gt (Bg Gu (by decide) (Kn.own .m0) rfl rfl (by omega) (by (try dsimp only); omega)) ?_
 refine AQ (NQ rfl rfl EM (by have := hI11.len; omega) .h) ?_
 refine Gn (.t2 9 10) (Gs (Gm rfl (Gm rfl ?_)))
 refine Gt (Aw rfl rfl (IntWalk.i64_in _ (by (try simp only [List.length_cons, List.length_nil]); omega))) ?_
 refine Ja DB rfl Tryz.underlying52 EM rfl rfl (by (try simp only [List.length_cons, List.length_nil]); omega) (by (try simp only [List.length_cons, List.length_nil]); omega) (fun _ => .h) ?_
 refine Ga rfl (Gn (.t1 8) (Ac ?_))
 refine AY rfl (.tmp rfl .n) ?_
 intro w1 hS
 have hS := (hS.perm (Av.perm (.c .h .n))).Ay
 have hd := hI11.done (by first | (right; simpa using c1) | (left; omega))
 exact ⟨_, ⟨_, rfl, by rw [hd.2] at *; (try simp only [Hd.cut] at *); omega, by rw [hd.2]⟩, hS⟩
theorem Kb (s : Au) (c : UInt8) (hs : s.length ≤ 10000000) : Ic Tryz.prog 167 #[BO s, BO [c]] [] (fun v B => ∃ h' : Hd, v = h'.val ∧ h'.len = (Words.pieces c s).length ∧ B = [Ab.own h' 9 1 ((Words.pieces c s).flatMap A4)]) := by
 intro w hS0
 refine Ai _ _ Tryz.func167 rfl rfl rfl (hS0) ?_
 refine Gs (Ga rfl (Gn (.t2 0 1) (Gs (Gm rfl (Gm rfl ?_)))))
 refine Ag rfl ZS (.c rfl (.c rfl (.c rfl (.c rfl .n)))) .n (Iu _ c hs) (fun v1 B hv => ?_)
 obtain ⟨y2, rfl, y3, rfl⟩ := hv
 refine Ga rfl (Gn (.t1 4) (Ac ?_))
 refine AY rfl (.tmp rfl .n) ?_
 intro w1 hS
 have hS := (hS.perm (Av.perm (.c .h .n))).Ay
 exact ⟨_, ⟨_, rfl, by assumption, rfl⟩, hS⟩
theorem M0 (u : Au) (hu : u.length ≤ 10000000) (w : World) : EG Tryz.prog 168 #[BO u] w fun v w' => v = BO (Words.low u) ∧ B6 w w' := by
 refine Ai [] [] Tryz.func168 rfl rfl rfl (St.start w []) ?_
 refine Gs (Ga rfl (Gn (.t1 0) (Gs (Gm rfl ?_))))
 refine N2 rfl Tryz.underlying9 Tryz.underlying105 Tryz.underlying5 rfl (fun h1 h1l => ?_)
 refine Ga rfl (Gn (.t1 3) (CB (Gm rfl (Gt (Aq rfl Tryz.underlying105 rfl) (Gm rfl (AM (AA ?_)))))))
 refine Ae ?_
 refine Bf (.t4 10 3 8 9) ?_
 refine CJ (fun (k : Int) => 0 ≤ k ∧ k ≤ u.length) (fun (k : Int) => ((u.length : Int) - k).toNat) (fun (k : Int) => [(10, .int .i64 k)]) (fun (k : Int) => [Ab.own h1 5 1 ((Words.HL u k.toNat).flatMap DH)]) (0) ?_ rfl rfl (fun k hI1 => ?_)
 · exact ⟨by omega, by omega⟩
 obtain ⟨hI11, hI12⟩ := hI1
 refine Gs (Gt (A5 rfl rfl) (AM (AA (Ao ?_))))
 refine Gc (fun c1 => ?_) (fun c1 => ?_)
 ·
  have c1p := kz c1
  have hat := Words.TM (w := u) hI11 (by omega)
  have hc8 := (u.getD k.toNat 0).toNat_lt
  refine Aa ?_
  refine AB (.t4 3 8 9 10) ?_
  refine AA (Ao (Ae (Gs (Gm rfl ?_))))
  refine Gt (Bg Vg (by decide) (Kn.own .m0) rfl rfl (by omega) (by omega)) ?_
  refine Gt (WT rfl Zo (Kn.own .m0) (by rw [Words.OH]; omega)) ?_
  refine Ga rfl (Ga rfl (Gn (.t6 3 4 5 8 9 10) (Gs (Gm rfl (Gt (CI rfl rfl) (Gm rfl (Ba 17 rfl rfl (fun q => AE rfl) ?_)))))))
  refine Ba 17 rfl rfl (fun q => Hr (BX rfl q) rfl) (Gt (BH rfl rfl (fun h => h)) (Gn (.t7 3 4 5 8 9 10 20) ?_))
  refine Gc (fun c2 => ?_) (fun c2 => ?_)
  ·
   have c2p := kz c2
   rw [hat] at c2
   have hset := Words.Qc (w := u) hI11 (by omega)
   rw [← Words.XH c2] at hset
   refine AJ (Gm rfl (Gm rfl (Gm rfl ?_)))
   refine Gt (Aw rfl rfl (IntWalk.u8_in _ (by (try simp only [hat] at c2p ⊢); omega))) ?_
   refine Gt (E8 rfl rfl (IntWalk.u8_in _ (by (try simp only [hat] at c2p ⊢); omega))) ?_
   refine Gt (Bg Vg (by decide) (Kn.own .m0) rfl rfl (by omega) (by omega)) ?_
   refine AQ (Yt rfl rfl (by simp only [hat] at c2p ⊢; omega) Us (by rw [Words.OH]; omega) .h) ?_
   refine AM (AB (.t4 3 8 9 10) ?_)
   refine AU (AA (AJ ?_))
   refine Gt (Aw rfl rfl (IntWalk.i64_in _ (by (try simp only [hat] at c2p ⊢); omega))) ?_
   refine Gm rfl ?_
   refine AM (AB (.t4 3 8 9 10) ?_)
   refine Bx (k + 1) ?_ ?_ (.t4 10 3 8 9) (by rw [← hset]; first | exact (.refl _) | (rw [← hat]; exact (.refl _)))
   · exact ⟨by omega, by omega⟩
   · omega
  have c2p := kz c2
  rw [hat] at c2
  have hset := Words.Uj (w := u) hI11 (by omega) (Words.Xs c2)
  refine Aa ?_
  refine AB (.t4 3 8 9 10) ?_
  refine AU (AA (AJ ?_))
  refine Gt (Aw rfl rfl (IntWalk.i64_in _ (by (try simp only [hat] at c2p ⊢); omega))) ?_
  refine Gm rfl ?_
  refine AM (AB (.t4 3 8 9 10) ?_)
  refine Bx (k + 1) ?_ ?_ (.t4 10 3 8 9) (by rw [← hset]; first | exact (.refl _) | (rw [← hat]; exact (.refl _)))
  · exact ⟨by omega, by omega⟩
  · omega
 have c1p := kz c1
 refine BV (AT (AT (Af ?_)))
 refine AB (.t1 3) ?_
 refine AA (Gs (Gm rfl (Gt (Jh Tryz.underlying105 Tryz.underlying9 Tryz.underlying5 rfl (Kn.own .m0)) (Ga rfl (Gn (.t1 2) (Ac ?_))))))
 refine AY rfl (.tmp rfl .n) ?_
 intro w1 hS; refine ⟨?_, hS.Am⟩; obtain rfl : k = u.length := by omega
 rw [show (u.length : Int).toNat = u.length by omega, Words.Vr]; rfl
theorem LY (s : Au) (hs : s.length ≤ 4000000) : Ic Tryz.prog 151 #[BO s] [] (fun v B => ∃ h' : Hd, v = h'.val ∧ h'.len = (Words.words s).length ∧ B = [Ab.own h' 9 1 ((Words.words s).flatMap A4)]) := by
 intro w hS0
 have hpl := Words.FB 32 s
 have hcl := List.count_le_length (a := (32 : UInt8)) (l := s)
 refine Ai _ _ Tryz.func151 rfl rfl rfl (hS0) ?_
 refine Gs (Ga rfl (Gn (.t1 0) (Gs (Ga rfl (AM (AA (CB ?_)))))))
 refine Gm rfl ?_
 refine Ag rfl aP (.c rfl (.c rfl .n)) .n (Kb _ 32 (by omega)) (fun v1 B hv => ?_)
 obtain ⟨y2, rfl, y3, rfl⟩ := hv
 refine Gt (Aq rfl Tryz.underlying52 rfl) (Gm rfl (Gn (.t4 3 7 8 9) (Ae ?_)))
 refine Bf (.t4 3 9 7 8) ?_
 refine Et A4 9 1 ?_
 refine Dh (fun (k : Int) (xs : List Au) (g : Hd) => 0 ≤ k ∧ k ≤ ((Words.pieces 32 s).length : Int) ∧ xs = Words.IL s k.toNat ∧ g.len = xs.length ∧ xs.length ≤ k.toNat) (fun (k : Int) (xs : List Au) (g : Hd) => (((Words.pieces 32 s).length : Int) - k).toNat) (fun (k : Int) (xs : List Au) (g : Hd) => [(3, g.val), (9, .int .i64 k)]) (fun (k : Int) (xs : List Au) (g : Hd) => [Ab.own g 9 1 (xs.flatMap A4)]) (0) ([]) (_) ?_ rfl rfl (fun k xs g hI1 => ?_)
 · exact ⟨by omega, by omega, rfl, rfl, by simp⟩
 obtain ⟨hI11, hI12, hI13, hI14, hI15⟩ := hI1
 refine Gs (Gt (A5 rfl rfl) (AM (AA (Ao ?_))))
 refine Gc (fun c1 => ?_) (fun c1 => ?_)
 ·
  have c1p := kz c1
  refine Aa ?_
  refine AB (.t4 3 7 8 9) ?_
  refine AA (Ao (Ae (Gs ?_)))
  refine Gt (Bg Gu (by decide) (Kn.own .m1) rfl rfl (by omega) (by omega)) ?_
  refine Gt (C9 rfl CC (Kn.own .m1) (by omega)) ?_
  refine Ga rfl (Gn (.t5 3 5 7 8 9) (Gs (Gm rfl (Gt (DZ rfl rfl) (Gn (.t6 3 5 7 8 9 14) ?_)))))
  refine Gc (fun c2 => ?_) (fun c2 => ?_)
  ·
   have c2p := kz c2
   refine AJ (Gm rfl (Gm rfl ?_))
   refine A8 rfl ag (.c rfl .n) (fun w hS => M0 _ (by have := Words.UH (c := 32) (s := s) k.toNat; omega) w) ?_
   refine FP A4 DB rfl Tryz.underlying52 EM Qe rfl (by decide) (by decide) rfl rfl (fun b1 => ?_)
   refine CW DB rfl Tryz.underlying52 EM Qe rfl WS (by decide) (by decide) rfl rfl (fun w hS => Src.De Tryz.underlying52 ((Kn.own .m0) w hS)) (by (try dsimp only); omega) (fun _ => (.t .h)) (fun h5 h5l h5z => ?_)
   refine Ga rfl ?_
   refine AM (AB (.t4 3 7 8 9) ?_)
   refine AU (AA (AJ ?_))
   refine Gt (Aw rfl rfl (IntWalk.i64_in _ (by omega))) ?_
   refine Gm rfl ?_
   refine AM (AB (.t4 3 7 8 9) ?_)
   refine Bu (k + 1) _ _ ?_ ?_ (.t4 3 9 7 8) (.cons _ (.refl _))
   · exact ⟨by omega, by omega, by rw [Words.Wb hI11 (by omega) c2, ← hI13], (by (try dsimp only at *) <;> (try simp only [List.length_append, List.length_cons, List.length_nil]) <;> omega), (by (try simp only [List.length_append, List.length_cons, List.length_nil]); omega)⟩
   · omega
  have c2p := kz c2
  refine Aa ?_
  refine AB (.t4 3 7 8 9) ?_
  refine AU (AA (AJ ?_))
  refine Gt (Aw rfl rfl (IntWalk.i64_in _ (by omega))) ?_
  refine Gm rfl ?_
  refine AM (AB (.t4 3 7 8 9) ?_)
  refine Bu (k + 1) _ _ ?_ ?_ (.t4 3 9 7 8) (.refl _)
  · exact ⟨by omega, by omega, by rw [Words.Wc hI11 (by omega) c2, ← hI13], (by (try dsimp only at *) <;> (try simp only [List.length_append, List.length_cons, List.length_nil]) <;> omega), (by (try simp only [List.length_append, List.length_cons, List.length_nil]); omega)⟩
  · omega
 have c1p := kz c1
 obtain rfl : k = ((Words.pieces 32 s).length : Int) := by omega
 refine BV (AT (AT (Af ?_)))
 refine AB (.t1 3) ?_
 refine AA (Gs (Gm rfl (Ga rfl (Gn (.t1 2) (Ac ?_)))))
 refine AY rfl (.tmp rfl .n) ?_
 intro w1 hS
 have hS := (hS.perm (Av.perm (.c .h .n))).Ay
 exact ⟨_, ⟨_, rfl, by rw [Words.Nx, ← hI13]; assumption, by rw [Words.Nx, ← hI13]⟩, hS⟩
theorem DN (s p : Au) (w : World) : EG Tryz.prog 180 #[BO s, BO p] w fun v w' => v = .bool (decide ((p.length : Int) ≤ (s.length : Int)) && decide (s.take p.length = p)) ∧ B6 w w' := by
 refine Ai [] [] Tryz.func180 rfl rfl rfl (St.start w []) ?_
 refine Gs (Ga rfl (Gn (.t2 0 1) (Gs (Gm rfl (Gt (BI rfl Tryz.underlying9 rfl) (Gm rfl (Gt (BI rfl Tryz.underlying9 rfl) ?_)))))))
 refine Gt (CI rfl rfl) (Gm rfl (Ba 10 rfl rfl (fun q => AE rfl) (Ba 10 rfl rfl (fun q => AE rfl) (Ba 10 rfl rfl (fun q => BI rfl Tryz.underlying9 (BX rfl q)) ?_))))
 refine Ba 10 rfl rfl (fun q => by have q1 := q; (try simp at q1); exact IE Tryz.underlying9 (BX rfl q) (BX rfl q) (by omega) (by omega)) ?_
 refine Ba 10 rfl rfl (fun q => AE rfl) (Ba 10 rfl rfl (fun q => Bo (BX rfl q) (BX rfl q)) (Gt (BH rfl rfl (fun h => h)) (Ga rfl (Gn (.t1 4) (Ac ?_)))))
 refine AY rfl (.tmp rfl .n) ?_
 intro w1 hS; refine ⟨?_, hS.Am⟩; rfl
theorem IX (s p : Au) (w : World) : EG Tryz.prog 169 #[BO s, BO p] w fun v w' => v = .bool (decide ((p.length : Int) ≤ (s.length : Int)) && decide (s.take p.length = p)) ∧ B6 w w' := by
 refine Ai [] [] Tryz.func169 rfl rfl rfl (St.start w []) ?_
 refine Gs (Ga rfl (Gn (.t2 0 1) (Gs (Gm rfl (Gm rfl ?_)))))
 refine A8 rfl Xv (.c rfl (.c rfl .n)) (fun w hS => DN _ _ w) ?_
 refine Ga rfl (Gn (.t1 4) (Ac ?_))
 refine AY rfl (.tmp rfl .n) ?_
 intro w1 hS; refine ⟨?_, hS.Am⟩; rfl
theorem Ir (u : Au) (w : World) (gl0 : GV 0 AI.C2 w) : EG Tryz.prog 152 #[BO u] w fun v w' => v = .tuple #[.int .i64 (Words.verb u).1, .int .i64 (Words.verb u).2] ∧ B6 w w' := by
 refine Ai [] [] Tryz.func152 rfl rfl rfl (St.start w []) ?_
 refine Gs (Ga rfl (Ga rfl (Gn (.t1 0) (CB (Gm rfl (Gt (DZ rfl rfl) (Gn (.t2 0 7) ?_)))))))
 refine Gc (fun c1 => ?_) (fun c1 => ?_)
 ·
  have c1p := kz c1
  refine Gs (Gt (Wt gl0 Words.SL rfl Yi rfl) (Gm rfl (Gn (.t3 0 8 9) (Ae ?_))))
  refine Bf (.t3 9 0 8) ?_
  refine CJ (fun (k : Int) => 0 ≤ k ∧ k ≤ 21 ∧ Words.JB u 21 = Words.JB u (21 - k).toNat) (fun (k : Int) => (21 - k).toNat) (fun (k : Int) => [(9, .int .i64 k)]) (fun (k : Int) => []) (0) ?_ rfl rfl (fun k hI1 => ?_)
  · exact ⟨by omega, by omega, rfl⟩
  obtain ⟨hI11, hI12, hI13⟩ := hI1
  refine Gs (Gt (A5 rfl rfl) (AM (AA (Ao ?_))))
  refine Gc (fun c2 => ?_) (fun c2 => ?_)
  ·
   have c2p := kz c2
   rw [Words.R8 hI11 (by omega)] at hI13
   refine Aa ?_
   refine AB (.t3 0 8 9) ?_
   refine AA (Ao (Ae (Gs (Gm rfl ?_))))
   refine Gt (JY DB Tryz.underlying133 EM CC rfl rfl (by omega) (by omega) rfl) ?_
   refine Ga rfl (Ga rfl (Gn (.t5 0 4 5 8 9) (Gs (Gm rfl (Gm rfl ?_)))))
   refine A8 rfl aI (.c rfl (.c rfl .n)) (fun w hS => IX _ _ w) ?_
   refine Gn (.t5 0 4 8 9 15) ?_
   refine Gc (fun c3 => ?_) (fun c3 => ?_)
   ·
    have cp : Words.pre (AI.F9.getD k.toNat []) u = true := c3
    refine Gs (Gm rfl (Ga rfl (Ga rfl (Gn (.t2 2 3) (Ac (AP (AD ?_)))))))
    refine AD (AP (AD ?_))
    refine AY rfl (.tmp rfl (.tmp rfl .n)) ?_
    intro w1 hS; refine ⟨?_, hS.Am⟩; rw [show Words.verb u = _ from BC c1, hI13, BC cp]; rfl
   have c3p := kz c3
   have cp : Words.pre (AI.F9.getD k.toNat []) u = false := c3
   refine Aa ?_
   refine AB (.t3 0 8 9) ?_
   refine AU (AA (AJ ?_))
   refine Gt (Aw rfl rfl (IntWalk.i64_in _ (by omega))) ?_
   refine Gm rfl ?_
   refine AM (AB (.t3 0 8 9) ?_)
   refine Bx (k + 1) ?_ ?_ (.t3 9 0 8) (.refl _)
   · exact ⟨by omega, by omega, by rw [hI13, AV cp]⟩
   · omega
  have c2p := kz c2
  obtain rfl : k = 21 := by omega
  refine BV (AT (AT (Af ?_)))
  refine AB (.nil _) ?_
  refine AA (Gs (Ga rfl (Ga rfl (AM (AA (Ac ?_))))))
  refine AY rfl (.tmp rfl (.tmp rfl .n)) ?_
  intro w1 hS; refine ⟨?_, hS.Am⟩; rw [show Words.verb u = _ from BC c1, hI13]; rfl
 refine Aa ?_
 refine AB (.nil _) ?_
 refine AA (Gs (Ga rfl (Ga rfl (AM (AA (Ac ?_))))))
 refine AY rfl (.tmp rfl (.tmp rfl .n)) ?_
 intro w1 hS; refine ⟨?_, hS.Am⟩; rw [show Words.verb u = _ from AV c1]; rfl
theorem Iz (s : Au) (hs : s.length ≤ 10000000) (w : World) : EG Tryz.prog 153 #[BO s, BO [32]] w fun v w' => v = BO (Words.PM 32 s) ∧ B6 w w' := by
 refine Ai [] [] Tryz.func153 rfl rfl rfl (St.start w []) ?_
 refine Gs (Ga rfl (Gn (.t2 0 1) (CB (Gm rfl (Gt (Bo rfl rfl) (Gm rfl (BZ 9 rfl rfl (fun q => AE rfl) ?_)))))))
 refine BZ 9 rfl rfl (fun q => Bo (cF rfl q) rfl) ?_
 refine Gt (BR rfl rfl (fun h => by rw [h]; rfl)) ?_
 refine Gn (.t3 0 1 12) ?_
 refine Gc (fun c1 => ?_) (fun c1 => ?_)
 ·
  refine Gs (Gm rfl (Ga rfl (Gn (.t1 4) (Ac (AD ?_)))))
  refine AY rfl (.tmp rfl .n) ?_
  intro w1 hS; refine ⟨?_, hS.Am⟩; have e : s = [] := by simpa using c1
  subst e; rfl
 have c1p := kz c1
 refine Aa ?_
 refine AB (.t2 0 1) ?_
 refine AA (CB (Gm rfl (Gt (BI rfl Tryz.underlying9 rfl) (Gt (Aj rfl rfl) (Gm rfl (Ba 17 rfl rfl (fun q => AE rfl) ?_))))))
 refine Ba 17 rfl rfl (fun q => by have q1 := q; (try simp at q1); exact Bi Tryz.underlying9 (BX rfl q) rfl (by decide) (by (try simp only [List.length_cons, List.length_nil]); omega)) ?_
 refine Ba 17 rfl rfl (fun q => A5 (BX rfl q) rfl) (Gt (BH rfl rfl (fun h => h)) (Gn (.t3 0 1 21) ?_))
 refine FL rfl rfl ?_
 refine Gs (Gm rfl (Gm rfl ?_))
 refine Gt (Bi Tryz.underlying9 rfl rfl (by decide) (by (try simp only [List.length_cons, List.length_nil]); omega)) ?_
 refine A8 rfl X4 (.c rfl (.c rfl .n)) (fun w hS => Er _ 32 hs w) ?_
 refine Ga rfl (Gn (.t1 4) (Ac (AD ?_)))
 refine AY rfl (.tmp rfl .n) ?_
 intro w1 hS; refine ⟨?_, hS.Am⟩; rfl
theorem F3 (s : Au) (c : UInt8) (hs : s.length ≤ 10000000) (w : World) : EG Tryz.prog 59 #[BO s, BO [c]] w fun v w' => v = .tuple #[BO (Words.cut c s).1, BO (Words.cut c s).2.1, .bool (Words.cut c s).2.2] ∧ B6 w w' := by
 refine Ai [] [] Tryz.func59 rfl rfl rfl (St.start w []) ?_
 refine Gs (Ga rfl (Ga rfl (Ga rfl (Gn (.t2 0 1) (CB (Gm rfl (Gm rfl ?_)))))))
 refine A8 rfl Zz (.c rfl (.c rfl .n)) (fun w hS => Dr _ c w) ?_
 refine Ga rfl (Gn (.t3 0 1 7) (Gs (Gm rfl (Gt (CI rfl rfl) (Gn (.t4 0 1 7 12) ?_)))))
 refine Gc (fun c1 => ?_) (fun c1 => ?_)
 ·
  have c1p := kz c1
  have hm := Words.Yg (c := c) (s := s) (by simpa using c1)
  refine Ao ?_
  refine BE (N := 12) [0, 0, 3, 0, 0, 0, 32, 112, 248, 7, 1023, 2047] mix (by kernel_rfl) rfl ?_
  refine Pf 0 rfl (AE rfl) (Pf 1 rfl (AE rfl) (Pf 3 rfl (AE rfl) (Pf 4 rfl (AE rfl) (Pf 5 rfl (AE rfl) (Pf 6 rfl (BI rfl Tryz.underlying9 rfl) ?_)))))
  refine Pf 7 rfl (Aw rfl rfl (IntWalk.i64_in _ (by (try simp only [List.length_cons, List.length_nil]); omega))) ?_
  refine JO 2 8 rfl rfl (by kernel_rfl) ?_ ?_
  ·
   refine Gt (IE Tryz.underlying9 rfl rfl (by (try simp only [List.length_cons, List.length_nil]); omega) (by (try simp only [List.length_cons, List.length_nil]); omega)) ?_
   refine Bm rfl ⟨?_, ?_⟩
   · exact (Po rfl (Aw rfl rfl (IntWalk.i64_in _ (by (try simp only [List.length_cons, List.length_nil]); omega))) rfl rfl (Po rfl (BI rfl Tryz.underlying9 rfl) rfl rfl (Po rfl (AE rfl) rfl rfl (Po rfl (AE rfl) rfl rfl (Po rfl (AE rfl) rfl rfl (Pk (Pk As)))))))
   refine Pf 9 rfl (Az rfl) ?_
   refine An 8 rfl (by kernel_rfl) ?_
   refine Gt (GG Tryz.underlying9 rfl rfl (by (try simp only [List.length_cons, List.length_nil]); omega) (by (try simp only [List.length_cons, List.length_nil]); omega)) ?_
   refine Bm rfl ⟨?_, ?_⟩
   · exact (Po rfl (Az rfl) rfl rfl (Pk (Pk (Pk (Pk (Pk (Po rfl (AE rfl) rfl rfl (Po rfl (AE rfl) rfl rfl As))))))))
   refine Pf 10 rfl (Az rfl) (Pf 11 rfl (Az rfl) ?_)
   refine A3 (by kernel_rfl) ?_
   refine AB (.t3 4 5 6) ?_
   refine AA (Ac (AD ?_))
   refine AY rfl (.tmp rfl (.tmp rfl (.tmp rfl .n))) ?_
   intro w1 hS; refine ⟨?_, hS.Am⟩; rw [show Words.cut c s = _ from (BC c1)]; rfl
  ·
   refine Gt (GG Tryz.underlying9 rfl rfl (by (try simp only [List.length_cons, List.length_nil]); omega) (by (try simp only [List.length_cons, List.length_nil]); omega)) ?_
   refine Bm rfl ⟨?_, ?_⟩
   · exact (Pk (Pk (Pk (Pk (Pk (Po rfl (AE rfl) rfl rfl (Po rfl (AE rfl) rfl rfl As)))))))
   refine An 2 rfl (by kernel_rfl) ?_
   refine Gt (IE Tryz.underlying9 rfl rfl (by (try simp only [List.length_cons, List.length_nil]); omega) (by (try simp only [List.length_cons, List.length_nil]); omega)) ?_
   refine Bm rfl ⟨?_, ?_⟩
   · exact (Po rfl (Aw rfl rfl (IntWalk.i64_in _ (by (try simp only [List.length_cons, List.length_nil]); omega))) rfl rfl (Po rfl (BI rfl Tryz.underlying9 rfl) rfl rfl (Po rfl (AE rfl) rfl rfl (Po rfl (AE rfl) rfl rfl (Po rfl (AE rfl) rfl rfl (Pk (Pk As)))))))
   refine Pf 9 rfl (Az rfl) (Pf 10 rfl (Az rfl) (Pf 11 rfl (Az rfl) ?_))
   refine A3 (by kernel_rfl) ?_
   refine AB (.t3 4 5 6) ?_
   refine AA (Ac (AD ?_))
   refine AY rfl (.tmp rfl (.tmp rfl (.tmp rfl .n))) ?_
   intro w1 hS; refine ⟨?_, hS.Am⟩; rw [show Words.cut c s = _ from (BC c1)]; rfl
 refine Aa ?_
 refine AB (.t1 0) ?_
 refine AA (Gs (Gm rfl (Ga rfl (Ga rfl (Ga rfl (Gn (.t3 4 5 6) (Ac ?_)))))))
 refine AY rfl (.tmp rfl (.tmp rfl (.tmp rfl .n))) ?_
 intro w1 hS; refine ⟨?_, hS.Am⟩; rw [show Words.cut c s = _ from (AV c1)]; rfl
theorem IB (s : Au) (c : UInt8) (hs : s.length ≤ 10000000) (w : World) : EG Tryz.prog 30 #[BO s, BO [c]] w fun v w' => v = .tuple #[BO (Words.cut c s).1, BO (Words.cut c s).2.1, .bool (Words.cut c s).2.2] ∧ B6 w w' := by
 refine Ai [] [] Tryz.func30 rfl rfl rfl (St.start w []) ?_
 refine Gs (Ga rfl (Ga rfl (Ga rfl (Gn (.t2 0 1) (Gs (Gm rfl (Gm rfl ?_)))))))
 refine A8 rfl bm (.c rfl (.c rfl .n)) (fun w hS => F3 _ c hs w) ?_
 refine Gt (AL rfl rfl) (Gt (AL rfl rfl) (Gt (AL rfl rfl) (Ga rfl (Ga rfl (Ga rfl (Gn (.t3 4 5 6) (Ac ?_)))))))
 refine AY rfl (.tmp rfl (.tmp rfl (.tmp rfl .n))) ?_
 intro w1 hS; refine ⟨?_, hS.Am⟩; rfl
theorem E0 (s p : Au) (w : World) : EG Tryz.prog 181 #[BO s, BO p] w fun v w' => v = .tuple #[BO (Words.Ma s p).1, .bool (Words.Ma s p).2] ∧ B6 w w' := by
 refine Ai [] [] Tryz.func181 rfl rfl rfl (St.start w []) ?_
 refine Gs (Ga rfl (Ga rfl (Gn (.t2 0 1) (CB (Gm rfl (Gm rfl ?_))))))
 refine A8 rfl Xv (.c rfl (.c rfl .n)) (fun w hS => DN _ _ w) ?_
 refine Gt (BQ rfl) (Gn (.t3 0 1 9) ?_)
 refine Gc (fun c1 => ?_) (fun c1 => ?_)
 ·
  refine Gs (Gm rfl (Ga rfl (Ga rfl (Gn (.t2 4 5) (Ac (AD ?_))))))
  refine AY rfl (.tmp rfl (.tmp rfl .n)) ?_
  intro w1 hS; refine ⟨?_, hS.Am⟩; rw [show Words.Ma s p = _ from (BC c1)]; rfl
 have c1p := kz c1
 have hle : p.length ≤ s.length := by simp at c1; omega
 refine Aa ?_
 refine AB (.t2 0 1) ?_
 refine AA (Gs (Gm rfl (Gm rfl (Gt (BI rfl Tryz.underlying9 rfl) ?_))))
 refine Gt (GG Tryz.underlying9 rfl rfl (by omega) (by omega)) ?_
 refine Ga rfl (Ga rfl (Gn (.t2 4 5) (Ac ?_)))
 refine AY rfl (.tmp rfl (.tmp rfl .n)) ?_
 intro w1 hS; refine ⟨?_, hS.Am⟩; rw [show Words.Ma s p = _ from (AV c1)]; rfl
theorem IY (s p : Au) (w : World) : EG Tryz.prog 170 #[BO s, BO p] w fun v w' => v = .tuple #[BO (Words.Ma s p).1, .bool (Words.Ma s p).2] ∧ B6 w w' := by
 refine Ai [] [] Tryz.func170 rfl rfl rfl (St.start w []) ?_
 refine Gs (Ga rfl (Ga rfl (Gn (.t2 0 1) (Gs (Gm rfl (Gm rfl ?_))))))
 refine A8 rfl ZN (.c rfl (.c rfl .n)) (fun w hS => E0 _ _ w) ?_
 refine Gt (AL rfl rfl) (Gt (AL rfl rfl) (Ga rfl (Ga rfl (Gn (.t2 4 5) (Ac ?_)))))
 refine AY rfl (.tmp rfl (.tmp rfl .n)) ?_
 intro w1 hS; refine ⟨?_, hS.Am⟩; rfl
theorem Fa (s : Au) (c : UInt8) (w : World) : EG Tryz.prog 171 #[BO s, BO [c]] w fun v w' => v = .bool (decide (0 ≤ Lib.indexByte s c)) ∧ B6 w w' := by
 refine Ai [] [] Tryz.func171 rfl rfl rfl (St.start w []) ?_
 refine Gs (Ga rfl (Gn (.t2 0 1) (Gs (Gm rfl (Gm rfl ?_)))))
 refine A8 rfl Vl (.c rfl (.c rfl .n)) (fun w hS => E9 _ c w) ?_
 refine Gt (CI rfl rfl) (Ga rfl (Gn (.t1 4) (Ac ?_)))
 refine AY rfl (.tmp rfl .n) ?_
 intro w1 hS; refine ⟨?_, hS.Am⟩; rfl
def Pv : Go.Shelf.Ren := ⟨fun | 172 => 172 | 244 => 182 | 245 => 183 | 247 => 188 | 279 => 189 | 280 => 190 | 281 => 191 | 282 => 192 | 287 => 194 | 316 => 195 | 171 => 53 | 205 => 196 | 321 => 197 | 322 => 198 | 243 => 72 | 246 => 86 | 283 => 108 | 284 => 109 | 285 => 110 | 286 => 111 | 129 => 142 | 317 => 141 | 318 => 143 | 319 => 144 | 320 => 145 | 337 => 162 | 338 => 163 | n => n, fun | 9 => 9 | 3 => 3 | 75 => 109 | 76 => 111 | 4 => 4 | 5 => 5 | 167 => 237 | 37 => 105 | 0 => 0 | 85 => 238 | 2 => 2 | 168 => 240 | 53 => 173 | 175 => 244 | 46 => 140 | 210 => 247 | 127 => 134 | 145 => 252 | 143 => 250 | 21 => 21 | 171 => 172 | 173 => 176 | 212 => 205 | 51 => 178 | 20 => 20 | 213 => 206 | 232 => 226 | 233 => 227 | 80 => 114 | n => n, fun | 15 => 7 | 16 => 8 | 17 => 2 | 18 => 3 | 19 => 4 | n => n⟩
theorem WM : LaysC.n172 Tryz.prog Pv where
  mixed := by kernel_rfl
  f129 := Tryz.func142.trans (congrArg some (by kernel_rfl))
  f171 := Tryz.func53.trans (congrArg some (by kernel_rfl))
  f172 := Tryz.func172.trans (congrArg some (by kernel_rfl))
  f205 := Tryz.func196.trans (congrArg some (by kernel_rfl))
  f243 := Tryz.func72.trans (congrArg some (by kernel_rfl))
  f244 := Tryz.func182.trans (congrArg some (by kernel_rfl))
  f245 := Tryz.func183.trans (congrArg some (by kernel_rfl))
  f246 := Tryz.func86.trans (congrArg some (by kernel_rfl))
  f247 := Tryz.func188.trans (congrArg some (by kernel_rfl))
  f279 := Tryz.func189.trans (congrArg some (by kernel_rfl))
  f280 := Tryz.func190.trans (congrArg some (by kernel_rfl))
  f281 := Tryz.func191.trans (congrArg some (by kernel_rfl))
  f282 := Tryz.func192.trans (congrArg some (by kernel_rfl))
  f283 := Tryz.func108.trans (congrArg some (by kernel_rfl))
  f284 := Tryz.func109.trans (congrArg some (by kernel_rfl))
  f285 := Tryz.func110.trans (congrArg some (by kernel_rfl))
  f286 := Tryz.func111.trans (congrArg some (by kernel_rfl))
  f287 := Tryz.func194.trans (congrArg some (by kernel_rfl))
  f316 := Tryz.func195.trans (congrArg some (by kernel_rfl))
  f317 := Tryz.func141.trans (congrArg some (by kernel_rfl))
  f318 := Tryz.func143.trans (congrArg some (by kernel_rfl))
  f319 := Tryz.func144.trans (congrArg some (by kernel_rfl))
  f320 := Tryz.func145.trans (congrArg some (by kernel_rfl))
  f321 := Tryz.func197.trans (congrArg some (by kernel_rfl))
  f322 := Tryz.func198.trans (congrArg some (by kernel_rfl))
  f337 := Tryz.func162.trans (congrArg some (by kernel_rfl))
  f338 := Tryz.func163.trans (congrArg some (by kernel_rfl))
  t0 := Tryz.underlying0
  a0 := Tryz.isAgg0
  z0 := Tryz.sizeOf0
  v0 := Tryz.zeroValue0
  t2 := Tryz.underlying2
  a2 := Tryz.isAgg2
  z2 := Tryz.sizeOf2
  v2 := Tryz.zeroValue2
  t3 := Tryz.underlying3
  a3 := Tryz.isAgg3
  z3 := Tryz.sizeOf3
  v3 := Tryz.zeroValue3
  t4 := Tryz.underlying4
  a4 := Tryz.isAgg4
  z4 := Tryz.sizeOf4
  v4 := Tryz.zeroValue4
  t5 := Tryz.underlying5
  a5 := Tryz.isAgg5
  z5 := Tryz.sizeOf5
  v5 := Tryz.zeroValue5
  t9 := Tryz.underlying9
  a9 := Tryz.isAgg9
  z9 := Tryz.sizeOf9
  v9 := Tryz.zeroValue9
  t20 := Tryz.underlying20
  a20 := Tryz.isAgg20
  z20 := Tryz.sizeOf20
  v20 := Tryz.zeroValue20
  t21 := Tryz.underlying21
  a21 := Tryz.isAgg21
  z21 := Tryz.sizeOf21
  v21 := Tryz.zeroValue21
  t37 := Tryz.underlying105
  a37 := Tryz.isAgg105
  z37 := Tryz.sizeOf105
  v37 := Tryz.zeroValue105
  t46 := Tryz.underlying140
  a46 := Tryz.isAgg140
  z46 := Tryz.sizeOf140
  v46 := Tryz.zeroValue140
  t51 := Tryz.underlying178
  a51 := Tryz.isAgg178
  z51 := Tryz.sizeOf178
  v51 := Tryz.zeroValue178
  t53 := Tryz.underlying173
  a53 := Tryz.isAgg173
  z53 := Tryz.sizeOf173
  v53 := Tryz.zeroValue173
  t75 := Tryz.underlying109
  a75 := Tryz.isAgg109
  z75 := Tryz.sizeOf109
  v75 := Tryz.zeroValue109
  t76 := Tryz.underlying111
  a76 := Tryz.isAgg111
  z76 := Tryz.sizeOf111
  v76 := Tryz.zeroValue111
  t85 := Tryz.underlying238
  a85 := Tryz.isAgg238
  z85 := Tryz.sizeOf238
  v85 := Tryz.zeroValue238
  t127 := Tryz.underlying134
  a127 := Tryz.isAgg134
  z127 := Tryz.sizeOf134
  v127 := Tryz.zeroValue134
  t143 := Tryz.underlying250
  a143 := Tryz.isAgg250
  z143 := Tryz.sizeOf250
  v143 := Tryz.zeroValue250
  t145 := Tryz.underlying252
  a145 := Tryz.isAgg252
  z145 := Tryz.sizeOf252
  v145 := Tryz.zeroValue252
  t167 := Tryz.underlying237
  a167 := Tryz.isAgg237
  z167 := Tryz.sizeOf237
  v167 := Tryz.zeroValue237
  t168 := Tryz.underlying240
  a168 := Tryz.isAgg240
  z168 := Tryz.sizeOf240
  v168 := Tryz.zeroValue240
  t171 := Tryz.underlying172
  a171 := Tryz.isAgg172
  z171 := Tryz.sizeOf172
  v171 := Tryz.zeroValue172
  t173 := Tryz.underlying176
  a173 := Tryz.isAgg176
  z173 := Tryz.sizeOf176
  v173 := Tryz.zeroValue176
  t175 := Tryz.underlying244
  a175 := Tryz.isAgg244
  z175 := Tryz.sizeOf244
  v175 := Tryz.zeroValue244
  t210 := Tryz.underlying247
  a210 := Tryz.isAgg247
  z210 := Tryz.sizeOf247
  v210 := Tryz.zeroValue247
  t212 := Tryz.underlying205
  a212 := Tryz.isAgg205
  z212 := Tryz.sizeOf205
  v212 := Tryz.zeroValue205
  t213 := Tryz.underlying206
  a213 := Tryz.isAgg206
  z213 := Tryz.sizeOf206
  t232 := Tryz.underlying226
  a232 := Tryz.isAgg226
  z232 := Tryz.sizeOf226
  v232 := Tryz.zeroValue226
  t233 := Tryz.underlying227
  a233 := Tryz.isAgg227
  z233 := Tryz.sizeOf227
  v233 := Tryz.zeroValue227
  g15 := by kernel_rfl
  g16 := by kernel_rfl
  g17 := by kernel_rfl
  g18 := by kernel_rfl
  g19 := by kernel_rfl
  t80 := Tryz.underlying114
  a80 := Tryz.isAgg114
  z80 := Tryz.sizeOf114
  v80 := Tryz.zeroValue114
  i0 := by kernel_rfl
  i2 := by kernel_rfl
  i3 := by kernel_rfl
  i4 := by kernel_rfl
  i5 := by kernel_rfl
  i9 := by kernel_rfl
  i20 := by kernel_rfl
  i21 := by kernel_rfl
  i37 := by kernel_rfl
  i46 := by kernel_rfl
  i51 := by kernel_rfl
  i53 := by kernel_rfl
  i75 := by kernel_rfl
  i76 := by kernel_rfl
  i80 := by kernel_rfl
  i85 := by kernel_rfl
  i127 := by kernel_rfl
  i143 := by kernel_rfl
  i145 := by kernel_rfl
  i167 := by kernel_rfl
  i168 := by kernel_rfl
  i171 := by kernel_rfl
  i173 := by kernel_rfl
  i175 := by kernel_rfl
  i210 := by kernel_rfl
  i212 := by kernel_rfl
  i232 := by kernel_rfl
  i233 := by kernel_rfl
  m15 := by kernel_rfl
  m16 := by kernel_rfl
  m17 := by kernel_rfl
  m18 := by kernel_rfl
  m19 := by kernel_rfl
  c0 := by kernel_rfl
  c2 := by kernel_rfl
  c3 := by kernel_rfl
  c4 := by kernel_rfl
  c5 := by kernel_rfl
  c9 := by kernel_rfl
  c20 := by kernel_rfl
  c21 := by kernel_rfl
  c37 := by kernel_rfl
  c46 := by kernel_rfl
  c51 := by kernel_rfl
  c53 := by kernel_rfl
  c75 := by kernel_rfl
  c76 := by kernel_rfl
  c80 := by kernel_rfl
  c85 := by kernel_rfl
  c127 := by kernel_rfl
  c143 := by kernel_rfl
  c145 := by kernel_rfl
  c167 := by kernel_rfl
  c168 := by kernel_rfl
  c171 := by kernel_rfl
  c173 := by kernel_rfl
  c175 := by kernel_rfl
  c210 := by kernel_rfl
  c212 := by kernel_rfl
  c213 := by kernel_rfl
  c232 := by kernel_rfl
  c233 := by kernel_rfl
theorem LB (s : Au) (hs : s.length ≤ 10000000) : Ev Tryz.prog 172 #[BO s] [] (fun w => F2 7 w ∧ F2 8 w) (fun v B => (∃ k : Int, Lib.atoiAll s = .ok k ∧ v = .tuple #[.int .i64 k, .nilIface] ∧ B = []) ∨ (∃ (k : Int) (t : TypeId) (x : Value), (∀ j, Lib.atoiAll s ≠ .ok j) ∧ v = .tuple #[.int .i64 k, .iface t x] ∧ B = [])) :=
  VM WM s hs (by kernel_rfl) (by kernel_rfl)
end Go.Proofs.YtoidpggbbfncpaaGreatDoor
