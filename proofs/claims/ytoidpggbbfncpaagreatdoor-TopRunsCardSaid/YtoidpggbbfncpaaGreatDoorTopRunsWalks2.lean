/- What the functions that the law TopRuns reaches compute: walks, part 2. No condition. -/
import Derived.Test.YtoidpggbbfncpaaGreatDoorCards
import Derived.Test.YtoidpggbbfncpaaGreatDoorTie
import Derived.Deep.DeepHandedRow
import Derived.Test.YtoidpggbbfncpaaGreatDoorRows
import Derived.Test.YtoidpggbbfncpaaGreatDoorTopRunsEc3
import Derived.Test.YtoidpggbbfncpaaGreatDoorTopRunsRa1
import Derived.Test.YtoidpggbbfncpaaGreatDoorTopRunsRb1
import Derived.Test.YtoidpggbbfncpaaGreatDoorTopRunsRc1
import Derived.Test.YtoidpggbbfncpaaGreatDoorTopRunsWalks
set_option linter.unusedSimpArgs false
set_option linter.unusedVariables false
set_option maxRecDepth 100000
set_option maxHeartbeats 1000000
namespace Go.Proofs.YtoidpggbbfncpaaGreatDoor
open Go Go.Ing Go.RowKit Go.ChangeShapes Go.WideShapes Go.ChangeAt
theorem GR (b : Nat) (T : AF) (g : Hd) (hg : g.len = T.out.length) (hb : 0 ≤ T.b ∧ T.b < 6) (hw : T.w.Dw) (hn : T.out.length ≤ 90000) : Ew Tryz.prog 100 #[.pointer (some ⟨b, 0, none⟩)] [Ad.box b 163 (Ac.enc ⟨T.w, T.b, g⟩), Ad.own g 56 16 (T.out.flatMap Ing.Event.enc)] (fun w => (GV 0 AH.C0 w ∧ 0 ∉ CW [Ad.box b 163 (Ac.enc ⟨T.w, T.b, g⟩), Ad.own g 56 16 (T.out.flatMap Ing.Event.enc)])) (fun v B => ∃ g' : Hd, v = .tuple #[] ∧ g'.len = (T.look).out.length ∧ B = [Ad.box b 163 (Ac.enc ⟨(T.look).w, (T.look).b, g'⟩), Ad.own g' 56 16 ((T.look).out.flatMap Ing.Event.enc)]) := by
 intro w hS0 hH
 obtain ⟨gl0, gm0⟩ := hH
 refine Am _ _ Tryz.func100 rfl rfl rfl (hS0) ?_
 refine Ap ?_
 refine BD (N := 12) [0, 0, 2, 6, 14, 1, 33, 97, 255, 511, 0, 2047] mix (by kernel_rfl) rfl ?_
 refine Pf 0 rfl (AE rfl) (Pf 1 rfl (AE rfl) (Pf 2 rfl (BR rfl) (Pf 3 rfl (Ai CE rfl) (Pf 4 rfl (AG rfl A2 .m0 Ac.l1 rfl rfl) (Pf 5 rfl (BR rfl) (Pf 6 rfl (Ai A5 rfl) (Pf 7 rfl (Ai Bi rfl) ?_)))))))
 refine Pf 8 rfl (AQ Cr rfl rfl (by (try dsimp only at *); (try simp only [List.length_append, List.length_cons, List.length_nil]); omega) (by (try dsimp only at *); (try simp only [List.length_append, List.length_cons, List.length_nil]); omega)) ?_
 refine Pf 9 rfl (AZ rfl E8 .m0 ((Ac.l0.comp AH.l2).comp (AS.arr (n := 6) Al.fl (by (try dsimp only at *); (try simp only [List.length_append, List.length_cons, List.length_nil]); omega) (by (try dsimp only at *); (try simp only [List.length_append, List.length_cons, List.length_nil]); omega))) rfl) ?_
 refine An 10 rfl (by kernel_rfl) ?_
 refine BF rfl Kv rfl (fun b1 => ?_)
 refine Bo rfl ⟨?_, ?_⟩
 · exact (Po rfl (AZ rfl E8 .m1 ((Ac.l0.comp AH.l2).comp (AS.arr (n := 6) Al.fl (by (try dsimp only at *); (try simp only [List.length_append, List.length_cons, List.length_nil]); omega) (by (try dsimp only at *); (try simp only [List.length_append, List.length_cons, List.length_nil]); omega))) rfl) rfl rfl (Po rfl (AQ Cr rfl rfl (by (try dsimp only at *); (try simp only [List.length_append, List.length_cons, List.length_nil]); omega) (by (try dsimp only at *); (try simp only [List.length_append, List.length_cons, List.length_nil]); omega)) rfl rfl (Po rfl (Ai Bi rfl) rfl rfl (Po rfl (Ai A5 rfl) rfl rfl (Po rfl (BR rfl) rfl rfl (Po rfl (AG rfl A2 .m1 Ac.l1 rfl rfl) rfl rfl (Po rfl (Ai CE rfl) rfl rfl (Po rfl (BR rfl) rfl rfl (Po rfl (AE rfl) rfl rfl (Po rfl (AE rfl) rfl rfl Ar))))))))))
 refine An 11 rfl (by kernel_rfl) ?_
 refine AR (AJ (AS.id Al.fl.len Al.fl.one) rfl rfl rfl Jg rfl .h) ?_
 refine BK rfl ⟨?_, ?_⟩
 · exact (Pk (Pk (Pk (Pk (Pk (Pk (Pk (Pk (Pk (Pk Ar))))))))))
 refine A1 (by kernel_rfl) ?_
 refine AB (.t2 0 2) ?_
 refine AA (Ap (Ap ?_))
 refine BD (N := 8) [0, 1, 3, 7, 0, 16, 63, 127] mix (by kernel_rfl) rfl ?_
 refine Pf 0 rfl (AE rfl) (Pf 1 rfl (BR rfl) (Pf 2 rfl (Ai A5 rfl) (Pf 3 rfl (AZ rfl BT .m1 Ac.l0 rfl) (Pf 4 rfl (Ai Cq rfl) (Pf 5 rfl (AG rfl A2 .m0 Al.l3 rfl rfl) ?_)))))
 refine BV 6 rfl rfl (by kernel_rfl) (KQ (Jn (Dp S0 (.c rfl (.c rfl .n)) (fun w hS => EC _ _ w)))) ?_
 refine Pf 7 rfl (BS rfl) ?_
 refine A1 (by kernel_rfl) ?_
 refine AB (.t3 0 2 26) ?_
 refine AA ?_
 refine Gc (fun c1 => ?_) (fun c1 => ?_)
 ·
  have c1p := kz c1
  refine Gs (Gm rfl ?_)
  refine Ah rfl Dv (.c rfl (.c rfl .n)) (.c (.t .h) (.c (.t .h) .n)) (BW _ _ _ _ (by assumption) (by first | exact hb | (rw [hXb]; exact hb)) (by (try simp only [AF.B6, AF.CR, (AF.IM _ _ _).2.2] at *); (try dsimp only at *); omega)) (fun v1 B hv => ?_)
  obtain ⟨y2, rfl, y3, rfl⟩ := hv
  refine Gn (.nil _) (Ab (AD ?_))
  refine AY rfl .n ?_
  intro w1 hS
  have hS := (hS.perm (Av.perm (.c .h (.c .h .n)))).Az
  refine ⟨_, ⟨?gq1, rfl, ?hl1, ?hB1⟩, hS⟩
  case hB1 => rw [show T.look = _ from A9 c1]; rfl
  case hl1 => rw [show T.look = _ from A9 c1]; assumption
 have c1p := kz c1
 have hr := AH.Rb c1
 have hnr := hw.ro (T.w.AV.at T.b).room
 refine Aa ?_
 refine AB (.t2 0 2) ?_
 refine AA (Ap ?_)
 refine BD (N := 10) [0, 0, 2, 1, 9, 25, 63, 127, 0, 511] mix (by kernel_rfl) rfl ?_
 refine Pf 0 rfl (AE rfl) (Pf 1 rfl (Ai Cq rfl) (Pf 2 rfl (AG rfl A2 .m0 Al.l3 rfl rfl) (Pf 3 rfl (BR rfl) (Pf 4 rfl (Ai A5 rfl) (Pf 5 rfl (Ai GF rfl) ?_)))))
 refine Pf 6 rfl (AQ M8 rfl rfl (by (try dsimp only at *); (try simp only [List.length_append, List.length_cons, List.length_nil]); omega) (by (try dsimp only at *); (try simp only [List.length_append, List.length_cons, List.length_nil]); omega)) ?_
 refine Pf 7 rfl (AZ rfl NC .m1 ((Ac.l0.comp AH.l0).comp (AS.arr (n := 6) Room.fl (by (try dsimp only at *); (try simp only [List.length_append, List.length_cons, List.length_nil]); omega) (by (try dsimp only at *); (try simp only [List.length_append, List.length_cons, List.length_nil]); omega))) rfl) ?_
 refine An 8 rfl (by kernel_rfl) ?_
 refine BF rfl NP rfl (fun b2 => ?_)
 refine Bo rfl ⟨?_, ?_⟩
 · exact (Po rfl (AZ rfl NC .m2 ((Ac.l0.comp AH.l0).comp (AS.arr (n := 6) Room.fl (by (try dsimp only at *); (try simp only [List.length_append, List.length_cons, List.length_nil]); omega) (by (try dsimp only at *); (try simp only [List.length_append, List.length_cons, List.length_nil]); omega))) rfl) rfl rfl (Po rfl (AQ M8 rfl rfl (by (try dsimp only at *); (try simp only [List.length_append, List.length_cons, List.length_nil]); omega) (by (try dsimp only at *); (try simp only [List.length_append, List.length_cons, List.length_nil]); omega)) rfl rfl (Po rfl (Ai GF rfl) rfl rfl (Po rfl (Ai A5 rfl) rfl rfl (Po rfl (BR rfl) rfl rfl (Po rfl (AG rfl A2 .m1 Al.l3 rfl rfl) rfl rfl (Po rfl (Ai Cq rfl) rfl rfl (Po rfl (AE rfl) rfl rfl Ar))))))))
 refine An 9 rfl (by kernel_rfl) ?_
 refine AR (AJ (AS.id Room.fl.len Room.fl.one) rfl rfl rfl PF rfl .h) ?_
 refine BK rfl ⟨?_, ?_⟩
 · exact (Pk (Pk (Pk (Pk (Pk (Pk (Pk (Pk Ar))))))))
 refine A1 (by kernel_rfl) ?_
 refine AB (.t3 0 2 3) ?_
 refine AA (Gs (Gm rfl (Gt (Ai Yi rfl) (Gt (AG rfl CN .m0 Room.l0 rfl rfl) ?_))))
 refine Gt (CM rfl rfl (by (try dsimp only at *); (try simp only [List.length_append, List.length_cons, List.length_nil]); omega)) ?_
 refine Gt (CM rfl rfl (by (try dsimp only at *); (try simp only [List.length_append, List.length_cons, List.length_nil]); omega)) ?_
 refine Ah rfl Dv (.c rfl (.c rfl .n)) (.c (.t (.t .h)) (.c (.t (.t .h)) .n)) (BW _ _ _ _ (by assumption) (by first | exact hb | (rw [hXb]; exact hb)) (by (try simp only [AF.B6, AF.CR, (AF.IM _ _ _).2.2] at *); (try dsimp only at *); omega)) (fun v4 B hv => ?_)
 obtain ⟨y5, rfl, y6, rfl⟩ := hv
 refine Gn (.t3 0 2 3) (Gs (Ga rfl (AO (AA (B7 (Gt (Ai LS rfl) (Gt (AZ rfl Xe .m2 Room.l2 rfl) ?_)))))))
 refine Gm rfl (Gn (.t6 0 2 3 4 44 45) (Ae ?_))
 refine Bl (.t6 4 45 0 2 3 44) ?_
 refine Gj (fun (k : Int) (x : Aq) => 0 ≤ k ∧ k ≤ 6 ∧ x = AF.Hz (T.w.Bv.at T.me.room) k.toNat) (fun (k : Int) (x : Aq) => (6 - k).toNat) (fun (k : Int) (x : Aq) => [(4, BQ x), (45, .int .i64 k)]) (fun (k : Int) (x : Aq) => []) (0) (_) ?_ rfl rfl (fun k x hI1 => ?_)
 · exact ⟨by omega, by omega, rfl⟩
 obtain ⟨hI11, hI12, hI13⟩ := hI1
 refine Gs (Gt (A6 rfl rfl) (AO (AA (Ap ?_))))
 refine Gc (fun c2 => ?_) (fun c2 => ?_)
 ·
  have c2p := kz c2
  have hcl := AH.IN k
  have hwl := AF.K4 (T.w.Bv.at T.me.room) k.toNat
  rw [← hI13] at hwl
  have hst := AF.RX (r := T.w.Bv.at T.me.room) hI11
  refine Aa ?_
  refine AB (.t6 0 2 3 4 44 45) ?_
  refine AA (Ap (Ae (Gs (Gm rfl ?_))))
  refine Gt (JV Bw Tryz.underlying23 Cy A2 rfl rfl (by (try dsimp only at *); (try simp only [List.length_append, List.length_cons, List.length_nil]); omega) (by (try dsimp only at *); (try simp only [List.length_append, List.length_cons, List.length_nil]); omega) rfl) ?_
  refine Ga rfl (Ga rfl (Gn (.t8 0 2 3 4 5 6 44 45) (B7 (Gm rfl (Gt (Af rfl rfl) (Gn (.t8 0 2 3 4 5 44 45 50) ?_))))))
  refine Gc (fun c3 => ?_) (fun c3 => ?_)
  ·
   have c3p := kz c3
   have cp3 : decide ((T.w.Bv.at T.me.room).DS.at k = 0) = true := c3
   rw [A9 cp3] at hst
   refine BX (AW (Ag ?_))
   refine AB (.t6 0 2 3 4 44 45) ?_
   refine AA (AI ?_)
   refine Gt (As rfl rfl (IntWalk.i64_in _ (by (try dsimp only at *); (try simp only [List.length_append, List.length_cons, List.length_nil]); omega))) ?_
   refine Gm rfl ?_
   refine AO (AB (.t6 0 2 3 4 44 45) ?_)
   refine DI (k + 1) _ ?_ ?_ (.t6 4 45 0 2 3 44) (.refl _)
   · exact ⟨by omega, by omega, by rw [hst, ← hI13]⟩
   · omega
  have c3p := kz c3
  have cp3 : decide ((T.w.Bv.at T.me.room).DS.at k = 0) = false := c3
  rw [AU cp3] at hst
  refine Aa ?_
  refine AB (.t7 0 2 3 4 5 44 45) ?_
  refine AA (Gs (Gm rfl (Gm rfl ?_)))
  refine A7 rfl Zp (.c rfl .n) (fun w hS => HJ _ w (gl0.stM gm0 hS)) ?_
  refine Gt (CM rfl rfl (by (try dsimp only at *); (try simp only [List.length_append, List.length_cons, List.length_nil]); omega)) ?_
  refine Gt (CM rfl rfl (by (try dsimp only at *); (try simp only [List.length_append, List.length_cons, List.length_nil]); omega)) ?_
  refine Ga rfl (Gn (.t7 0 2 3 4 5 44 45) (Gs (Gm rfl (Gt (Ai La rfl) ?_))))
  refine Gt (AQ TI rfl rfl (by (try dsimp only at *); (try simp only [List.length_append, List.length_cons, List.length_nil]); omega) (by (try dsimp only at *); (try simp only [List.length_append, List.length_cons, List.length_nil]); omega)) ?_
  refine Gt (AG rfl DV .m2 (Room.l3.comp (AS.arr (n := 6) Gd (by (try dsimp only at *); (try simp only [List.length_append, List.length_cons, List.length_nil]); omega) (by (try dsimp only at *); (try simp only [List.length_append, List.length_cons, List.length_nil]); omega))) rfl rfl) ?_
  refine Gn (.t7 0 2 3 4 44 45 59) ?_
  refine Gc (fun c4 => ?_) (fun c4 => ?_)
  ·
   have c4p := kz c4
   have cp4 : (T.w.Bv.at T.me.room).shut.at k = true := c4
   rw [A9 cp4] at hst
   refine AI (Gm rfl ?_)
   refine Gt (CM rfl rfl (by (try dsimp only at *); (try simp only [List.length_append, List.length_cons, List.length_nil]); omega)) ?_
   refine Ga rfl ?_
   refine AO (AB (.t6 0 2 3 4 44 45) ?_)
   refine AT (AA (AI ?_))
   refine Gt (As rfl rfl (IntWalk.i64_in _ (by (try dsimp only at *); (try simp only [List.length_append, List.length_cons, List.length_nil]); omega))) ?_
   refine Gm rfl ?_
   refine AO (AB (.t6 0 2 3 4 44 45) ?_)
   refine DI (k + 1) _ ?_ ?_ (.t6 4 45 0 2 3 44) (.refl _)
   · exact ⟨by omega, by omega, by rw [hst, ← hI13]⟩
   · omega
  have c4p := kz c4
  have cp4 : (T.w.Bv.at T.me.room).shut.at k = false := c4
  rw [AU cp4] at hst
  refine Aa ?_
  refine AB (.t6 0 2 3 4 44 45) ?_
  refine AT (AA (AI ?_))
  refine Gt (As rfl rfl (IntWalk.i64_in _ (by (try dsimp only at *); (try simp only [List.length_append, List.length_cons, List.length_nil]); omega))) ?_
  refine Gm rfl ?_
  refine AO (AB (.t6 0 2 3 4 44 45) ?_)
  refine DI (k + 1) _ ?_ ?_ (.t6 4 45 0 2 3 44) (.refl _)
  · exact ⟨by omega, by omega, by rw [hst, ← hI13]⟩
  · omega
 have c2p := kz c2
 obtain rfl : k = 6 := by omega
 subst hI13
 refine BX (AW (AW (Ag ?_)))
 refine AB (.t3 0 2 4) ?_
 refine AA (Gs (Gm rfl (Gm rfl ?_)))
 refine Ah rfl Dv (.c rfl (.c rfl .n)) (.c .h (.c .h .n)) (BW _ _ _ _ (by assumption) (by first | exact hb | (rw [hXb]; exact hb)) (by (try simp only [AF.B6, AF.CR, (AF.IM _ _ _).2.2] at *); (try dsimp only at *); omega)) (fun v7 B hv => ?_)
 obtain ⟨y8, rfl, y9, rfl⟩ := hv
 refine Gn (.t2 0 2) (Ap (Ap ?_))
 refine BD (N := 8) [0, 1, 3, 7, 0, 16, 63, 127] mix (by kernel_rfl) rfl ?_
 refine Pf 0 rfl (AE rfl) (Pf 1 rfl (BR rfl) (Pf 2 rfl (Ai A5 rfl) (Pf 3 rfl (AZ rfl BT .m0 Ac.l0 rfl) (Pf 4 rfl (Ai Cq rfl) (Pf 5 rfl (AG rfl A2 .m3 Al.l3 rfl rfl) ?_)))))
 refine An 6 rfl (by kernel_rfl) ?_
 refine Ah rfl QV (.c rfl (.c rfl (.c rfl .n))) .n (En _ _ _) (fun v10 B hv => ?_)
 obtain ⟨y11, rfl, y12, rfl⟩ := hv
 refine Bo rfl ⟨?_, ?_⟩
 · exact (Pk (Pk (Pk (Pk (Pk (Pk Ar))))))
 refine Pf 7 rfl (Ay rfl) ?_
 refine A1 (by kernel_rfl) ?_
 refine AB (.t2 0 7) ?_
 refine AA (Gs (Gm rfl (Gt (Ao rfl Tryz.underlying169 rfl) (Gt (CS rfl rfl) (Gn (.t3 0 7 75) ?_)))))
 refine Gc (fun c5 => ?_) (fun c5 => ?_)
 ·
  have c5p := kz c5
  rw [y12] at c5
  refine AI (Gm rfl (Gm rfl ?_))
  refine Ah rfl Xn (.c rfl (.c rfl (.c rfl .n))) (.c (.t .h) (.c (.t .h) (.c .h .n))) (Kb _ T.Jm _ [72, 101, 114, 101, 32, 105, 115] _ (T.w.has 0 T.me.room) (by assumption) hb (by assumption) (AH.Ha _ _ _) (fun i hi => AH.GS hi) hw (by decide) (by rw [(AF.Sc T).2.2]; omega)) (fun v14 B hv => ?_)
  obtain ⟨y15, rfl, y16, rfl⟩ := hv
  refine Gn (.t1 0) (Gs (Gm rfl (AO (AA (Ae ?_)))))
  refine Bl (.t2 79 0) ?_
  refine BZ (.t .h) ?_
  refine BZ (.t .h) ?_
  refine DX (fun (k : Int) (X : AF) (h : Hd) => 0 ≤ k ∧ k ≤ 6 ∧ X = T.Dt.FP k.toNat ∧ h.len = X.out.length) (fun (k : Int) (X : AF) (h : Hd) => (6 - k).toNat) (fun (k : Int) (X : AF) (h : Hd) => [(79, .int .i64 k)]) (fun (k : Int) (X : AF) (h : Hd) => [Ad.box b 163 (Ac.enc ⟨X.w, X.b, h⟩), Ad.own h 56 16 (X.out.flatMap Ing.Event.enc)]) (0) (_) (_) ?_ rfl rfl (fun k X h hI2 => ?_)
  · exact ⟨by omega, by omega, (show T.Dt = _ from A9 c5).symm, by assumption⟩
  obtain ⟨hI21, hI22, hI23, hI24⟩ := hI2
  refine Gs (Gt (A6 rfl rfl) (AO (AA (Ap ?_))))
  refine Gc (fun c6 => ?_) (fun c6 => ?_)
  ·
   have c6p := kz c6
   have hnb := hw.be k
   have hXl := AF.KV T.Dt k.toNat
   have hBl := AF.PQ T
   rw [← hI23] at hXl
   have hXw : X.w = T.w := hXl.1.trans hBl.1
   have hXb : X.b = T.b := hXl.2.1.trans hBl.2.1
   rw [← hXw] at hnb
   refine Aa ?_
   refine AB (.t2 0 79) ?_
   refine AA (Ap (Ae (Gs (Gm rfl (Ga rfl (Gn (.t3 0 8 79) (Ap ?_)))))))
   refine BD (N := 18) [0, 0, 2, 6, 14, 31, 63, 127, 255, 511, 1023, 127, 2175, 6271, 14463, 127, 65535, 131071] mix (by kernel_rfl) rfl ?_
   refine Pf 0 rfl (AE rfl) (Pf 1 rfl (AE rfl) (Pf 2 rfl (BR rfl) (Pf 3 rfl (Ai CE rfl) (Pf 4 rfl (AG rfl A2 .m0 Ac.l1 rfl rfl) (Pf 5 rfl (CK rfl rfl) (Pf 6 rfl (AE rfl) (LR 7 88 rfl rfl rfl (fun q => AE rfl) ?_)))))))
   refine LR 8 88 rfl rfl rfl (fun q => BR (Bc rfl q)) (LR 9 88 rfl rfl rfl (fun q => Ai A5 (Bc rfl q)) (LR 10 88 rfl rfl rfl (fun q => AZ (Bc rfl q) BT .m0 Ac.l0 rfl) (LR 11 88 rfl rfl rfl (fun q => AE rfl) (LR 12 88 rfl rfl rfl (fun q => BR (Bc rfl q)) (LR 13 88 rfl rfl rfl (fun q => Ai CE (Bc rfl q)) (LR 14 88 rfl rfl rfl (fun q => AG (Bc rfl q) A2 .m0 Ac.l1 rfl rfl) (LR 15 88 rfl rfl rfl (fun q => AE rfl) ?_)))))))
   refine BV 16 rfl rfl (by kernel_rfl) (QD (t := 88) rfl rfl (fun q => Jn (Dp Me (.c (Bc rfl q) (.c (Bc rfl q) (.c (Bc rfl q) .n))) (fun w hS => C5 _ _ _ w)))) ?_
   refine Pf 17 rfl (BI rfl rfl (fun h => h)) ?_
   refine A1 (by kernel_rfl) ?_
   refine AB (.t4 0 8 79 99) ?_
   refine AA ?_
   refine Gc (fun c7 => ?_) (fun c7 => ?_)
   ·
    have c7p := kz c7
    have cp7 : (!decide (k = T.Dt.b) && T.Dt.w.Hw T.Dt.b k) = true := by rw [hBl.1, hBl.2.1, ← hXw, ← hXb]; exact c7
    refine AI (Gm rfl (Gm rfl (Gm rfl (Gt (BR rfl) (Gt (Ai A5 rfl) (Gt (Ai Bi rfl) ?_))))))
    refine Gt (AQ Cr rfl rfl (by (try dsimp only at *); (try simp only [List.length_append, List.length_cons, List.length_nil]); omega) (by (try dsimp only at *); (try simp only [List.length_append, List.length_cons, List.length_nil]); omega)) ?_
    refine Gt (Ai Js rfl) ?_
    refine Gt (AG rfl CN .m0 (((Ac.l0.comp AH.l2).comp (AS.arr (n := 6) Al.fl (by (try dsimp only at *); (try simp only [List.length_append, List.length_cons, List.length_nil]); omega) (by (try dsimp only at *); (try simp only [List.length_append, List.length_cons, List.length_nil]); omega))).comp Al.l0) rfl rfl) ?_
    refine Gt (CM rfl rfl (by (try dsimp only at *); (try simp only [List.length_append, List.length_cons, List.length_nil]); omega)) ?_
    refine Ah rfl Dv (.c rfl (.c rfl .n)) (.c .h (.c .h .n)) (BW _ _ _ _ (by assumption) (by first | exact hb | (rw [hXb]; exact hb)) (by (try simp only [AF.B6, AF.CR, (AF.IM _ _ _).2.2] at *); (try dsimp only at *); omega)) (fun v17 B hv => ?_)
    obtain ⟨y18, rfl, y19, rfl⟩ := hv
    refine AO (AB (.t2 0 79) ?_)
    refine AT (AA (AI ?_))
    refine Gt (As rfl rfl (IntWalk.i64_in _ (by (try dsimp only at *); (try simp only [List.length_append, List.length_cons, List.length_nil]); omega))) ?_
    refine Gm rfl ?_
    refine AO (AB (.t2 0 79) ?_)
    refine Bt (k + 1) _ _ ?_ ?_ (.t2 79 0) (.refl _)
    · exact ⟨by omega, by omega, by rw [AF.H6 hI21, A9 cp7, ← hI23, hBl.1, ← hXw], by assumption⟩
    · omega
   have c7p := kz c7
   have cp7 : (!decide (k = T.Dt.b) && T.Dt.w.Hw T.Dt.b k) = false := by rw [hBl.1, hBl.2.1, ← hXw, ← hXb]; exact c7
   refine Aa ?_
   refine AB (.t2 0 79) ?_
   refine AT (AA (AI ?_))
   refine Gt (As rfl rfl (IntWalk.i64_in _ (by (try dsimp only at *); (try simp only [List.length_append, List.length_cons, List.length_nil]); omega))) ?_
   refine Gm rfl ?_
   refine AO (AB (.t2 0 79) ?_)
   refine Bt (k + 1) _ _ ?_ ?_ (.t2 79 0) (.refl _)
   · exact ⟨by omega, by omega, by rw [AF.H6 hI21, AU cp7, ← hI23], by assumption⟩
   · omega
  have c6p := kz c6
  obtain rfl : k = 6 := by omega
  refine BX (AW (AW (Ag ?_)))
  refine Be rfl .n ?_
  intro w1 hS
  have hS := (hS.perm (Av.perm (.c .h (.c .h .n)))).Az
  have hq : T.look = X := (show T.look = _ from AU c1).trans hI23.symm
  refine ⟨_, ⟨?gqc6, rfl, ?hlc6, ?hBc6⟩, hS⟩
  case hBc6 => rw [hq]
  case hlc6 => rw [hq]; assumption
 have c5p := kz c5
 rw [y12] at c5
 refine Aa ?_
 refine AB (.t1 0) ?_
 refine AA (Gs (Gm rfl (AO (AA (Ae ?_)))))
 refine Bl (.t2 79 0) ?_
 refine BZ (.t (.t .h)) ?_
 refine BZ (.t (.t .h)) ?_
 refine DX (fun (k : Int) (X : AF) (h : Hd) => 0 ≤ k ∧ k ≤ 6 ∧ X = T.Dt.FP k.toNat ∧ h.len = X.out.length) (fun (k : Int) (X : AF) (h : Hd) => (6 - k).toNat) (fun (k : Int) (X : AF) (h : Hd) => [(79, .int .i64 k)]) (fun (k : Int) (X : AF) (h : Hd) => [Ad.box b 163 (Ac.enc ⟨X.w, X.b, h⟩), Ad.own h 56 16 (X.out.flatMap Ing.Event.enc)]) (0) (_) (_) ?_ rfl rfl (fun k X h hI2 => ?_)
 · exact ⟨by omega, by omega, (show T.Dt = _ from AU c5).symm, by assumption⟩
 obtain ⟨hI21, hI22, hI23, hI24⟩ := hI2
 refine Gs (Gt (A6 rfl rfl) (AO (AA (Ap ?_))))
 refine Gc (fun c8 => ?_) (fun c8 => ?_)
 ·
  have c8p := kz c8
  have hnb := hw.be k
  have hXl := AF.KV T.Dt k.toNat
  have hBl := AF.PQ T
  rw [← hI23] at hXl
  have hXw : X.w = T.w := hXl.1.trans hBl.1
  have hXb : X.b = T.b := hXl.2.1.trans hBl.2.1
  rw [← hXw] at hnb
  refine Aa ?_
  refine AB (.t2 0 79) ?_
  refine AA (Ap (Ae (Gs (Gm rfl (Ga rfl (Gn (.t3 0 8 79) (Ap ?_)))))))
  refine BD (N := 18) [0, 0, 2, 6, 14, 31, 63, 127, 255, 511, 1023, 127, 2175, 6271, 14463, 127, 65535, 131071] mix (by kernel_rfl) rfl ?_
  refine Pf 0 rfl (AE rfl) (Pf 1 rfl (AE rfl) (Pf 2 rfl (BR rfl) (Pf 3 rfl (Ai CE rfl) (Pf 4 rfl (AG rfl A2 .m0 Ac.l1 rfl rfl) (Pf 5 rfl (CK rfl rfl) (Pf 6 rfl (AE rfl) (LR 7 88 rfl rfl rfl (fun q => AE rfl) ?_)))))))
  refine LR 8 88 rfl rfl rfl (fun q => BR (Bc rfl q)) (LR 9 88 rfl rfl rfl (fun q => Ai A5 (Bc rfl q)) (LR 10 88 rfl rfl rfl (fun q => AZ (Bc rfl q) BT .m0 Ac.l0 rfl) (LR 11 88 rfl rfl rfl (fun q => AE rfl) (LR 12 88 rfl rfl rfl (fun q => BR (Bc rfl q)) (LR 13 88 rfl rfl rfl (fun q => Ai CE (Bc rfl q)) (LR 14 88 rfl rfl rfl (fun q => AG (Bc rfl q) A2 .m0 Ac.l1 rfl rfl) (LR 15 88 rfl rfl rfl (fun q => AE rfl) ?_)))))))
  refine BV 16 rfl rfl (by kernel_rfl) (QD (t := 88) rfl rfl (fun q => Jn (Dp Me (.c (Bc rfl q) (.c (Bc rfl q) (.c (Bc rfl q) .n))) (fun w hS => C5 _ _ _ w)))) ?_
  refine Pf 17 rfl (BI rfl rfl (fun h => h)) ?_
  refine A1 (by kernel_rfl) ?_
  refine AB (.t4 0 8 79 99) ?_
  refine AA ?_
  refine Gc (fun c9 => ?_) (fun c9 => ?_)
  ·
   have c9p := kz c9
   have cp7 : (!decide (k = T.Dt.b) && T.Dt.w.Hw T.Dt.b k) = true := by rw [hBl.1, hBl.2.1, ← hXw, ← hXb]; exact c9
   refine AI (Gm rfl (Gm rfl (Gm rfl (Gt (BR rfl) (Gt (Ai A5 rfl) (Gt (Ai Bi rfl) ?_))))))
   refine Gt (AQ Cr rfl rfl (by (try dsimp only at *); (try simp only [List.length_append, List.length_cons, List.length_nil]); omega) (by (try dsimp only at *); (try simp only [List.length_append, List.length_cons, List.length_nil]); omega)) ?_
   refine Gt (Ai Js rfl) ?_
   refine Gt (AG rfl CN .m0 (((Ac.l0.comp AH.l2).comp (AS.arr (n := 6) Al.fl (by (try dsimp only at *); (try simp only [List.length_append, List.length_cons, List.length_nil]); omega) (by (try dsimp only at *); (try simp only [List.length_append, List.length_cons, List.length_nil]); omega))).comp Al.l0) rfl rfl) ?_
   refine Gt (CM rfl rfl (by (try dsimp only at *); (try simp only [List.length_append, List.length_cons, List.length_nil]); omega)) ?_
   refine Ah rfl Dv (.c rfl (.c rfl .n)) (.c .h (.c .h .n)) (BW _ _ _ _ (by assumption) (by first | exact hb | (rw [hXb]; exact hb)) (by (try simp only [AF.B6, AF.CR, (AF.IM _ _ _).2.2] at *); (try dsimp only at *); omega)) (fun v20 B hv => ?_)
   obtain ⟨y21, rfl, y22, rfl⟩ := hv
   refine AO (AB (.t2 0 79) ?_)
   refine AT (AA (AI ?_))
   refine Gt (As rfl rfl (IntWalk.i64_in _ (by (try dsimp only at *); (try simp only [List.length_append, List.length_cons, List.length_nil]); omega))) ?_
   refine Gm rfl ?_
   refine AO (AB (.t2 0 79) ?_)
   refine Bt (k + 1) _ _ ?_ ?_ (.t2 79 0) (.refl _)
   · exact ⟨by omega, by omega, by rw [AF.H6 hI21, A9 cp7, ← hI23, hBl.1, ← hXw], by assumption⟩
   · omega
  have c9p := kz c9
  have cp7 : (!decide (k = T.Dt.b) && T.Dt.w.Hw T.Dt.b k) = false := by rw [hBl.1, hBl.2.1, ← hXw, ← hXb]; exact c9
  refine Aa ?_
  refine AB (.t2 0 79) ?_
  refine AT (AA (AI ?_))
  refine Gt (As rfl rfl (IntWalk.i64_in _ (by (try dsimp only at *); (try simp only [List.length_append, List.length_cons, List.length_nil]); omega))) ?_
  refine Gm rfl ?_
  refine AO (AB (.t2 0 79) ?_)
  refine Bt (k + 1) _ _ ?_ ?_ (.t2 79 0) (.refl _)
  · exact ⟨by omega, by omega, by rw [AF.H6 hI21, AU cp7, ← hI23], by assumption⟩
  · omega
 have c8p := kz c8
 obtain rfl : k = 6 := by omega
 refine BX (AW (AW (Ag ?_)))
 refine Be rfl .n ?_
 intro w1 hS
 have hS := (hS.perm (Av.perm (.c .h (.c .h .n)))).Az
 have hq : T.look = X := (show T.look = _ from AU c1).trans hI23.symm
 refine ⟨_, ⟨?gqc8, rfl, ?hlc8, ?hBc8⟩, hS⟩
 case hBc8 => rw [hq]
 case hlc8 => rw [hq]; assumption
theorem K7 (X : AH) (s : Aq) (hw : X.Dw) (hs : s.length ≤ 100000000) : Ew Tryz.prog 114 #[.agg X.enc.toArray, BQ s] [] (fun w => (GV 0 AH.C0 w ∧ 0 ∉ CW [])) (fun v B => ∃ h : Hd, v = .tuple #[.agg ((AF.Bf X s).1.enc).toArray, .int .i64 (AF.Bf X s).2.1, h.val, .int .i64 (AF.Bf X s).2.2.2] ∧ h.len = (AF.Bf X s).2.2.1.length ∧ B = [Ad.own h 56 16 ((AF.Bf X s).2.2.1.flatMap Ing.Event.enc)]) := by
 intro w hS0 hH
 obtain ⟨gl0, gm0⟩ := hH
 refine Am _ _ Tryz.func114 rfl rfl rfl (hS0) ?_
 refine Gs ?_
 refine B3 rfl rfl rfl (fun b1 => ?_)
 refine BF rfl L4 rfl (fun b2 => ?_)
 refine Ga rfl (Ga rfl (Ga rfl (Gn (.t3 1 2 4) (B7 (Gt (AZ rfl BT .m1 (AS.id AH.fl.len AH.fl.one) rfl) ?_)))))
 refine A7 rfl YD (.c rfl .n) (fun w hS => Gw _ w) ?_
 refine Gt (BS rfl) (Gn (.t4 1 2 4 14) ?_)
 refine Gc (fun c1 => ?_) (fun c1 => ?_)
 ·
  refine Gs (Gt (AZ rfl BT .m1 (AS.id AH.fl.len AH.fl.one) rfl) ?_)
  refine AR (AJ (AS.id AH.fl.len AH.fl.one) rfl rfl rfl Dq rfl .h) ?_
  refine Ga rfl (Ga rfl (Ga rfl (Gn (.t4 4 5 6 7) (Ab (AD ?_)))))
  refine AY rfl (.cell rfl .m0 (.inl ⟨(by rw [AH.fl.len]; exact BT), rfl⟩) (.tmp rfl (.tmp rfl (.tmp rfl .n)))) ?_
  intro w1 hS
  have hS := hS.Cd 56 16
  have hS := (hS.perm (Av.perm (.c .h .n))).Az
  have hq : AF.Bf X s = _ := A9 c1
  refine ⟨_, ⟨⟨none, 0, 0⟩, ?hv, ?hl, ?hB⟩, hS⟩
  case hv => rw [hq]; rfl
  case hl => rw [hq]; rfl
  case hB => rw [hq]; rfl
 have c1p := kz c1
 refine Aa ?_
 refine AB (.t3 1 2 4) ?_
 refine AA (B7 (Gm rfl ?_))
 refine A7 rfl bM (.c rfl .n) (fun w hS => Lb _ (by first | assumption | omega) w) ?_
 refine Gt (BS rfl) (Gn (.t4 1 2 4 18) ?_)
 refine Gc (fun c2 => ?_) (fun c2 => ?_)
 ·
  refine Gs (Gt (AZ rfl BT .m1 (AS.id AH.fl.len AH.fl.one) rfl) ?_)
  refine AR (AJ (AS.id AH.fl.len AH.fl.one) rfl rfl rfl Dq rfl .h) ?_
  refine Ga rfl (Ga rfl (Ga rfl (Gn (.t4 4 5 6 7) (Ab (AD ?_)))))
  refine AY rfl (.cell rfl .m0 (.inl ⟨(by rw [AH.fl.len]; exact BT), rfl⟩) (.tmp rfl (.tmp rfl (.tmp rfl .n)))) ?_
  intro w1 hS
  have hS := hS.Cd 56 16
  have hS := (hS.perm (Av.perm (.c .h .n))).Az
  have hq : AF.Bf X s = _ := (AU c1).trans (A9 c2)
  refine ⟨_, ⟨⟨none, 0, 0⟩, ?hv, ?hl, ?hB⟩, hS⟩
  case hv => rw [hq]; rfl
  case hl => rw [hq]; rfl
  case hB => rw [hq]; rfl
 have c2p := kz c2
 refine Aa ?_
 refine AB (.t3 1 2 4) ?_
 refine AA (B7 (Gt (Ai Bi rfl) (Gt (AZ rfl Xa .m1 AH.l2 rfl) (Gm rfl (Gn (.t5 1 2 4 21 22) (Ae ?_))))))
 refine Bl (.t5 22 1 2 4 21) ?_
 refine CT (fun (k : Int) => 0 ≤ k ∧ k ≤ 6 ∧ B5 6 (fun k => !AF.KS X s k) 6 = B5 6 (fun k => !AF.KS X s k) (6 - k).toNat) (fun (k : Int) => (6 - k).toNat) (fun (k : Int) => [(22, .int .i64 k)]) (fun (k : Int) => []) (0) ?_ rfl rfl (fun k hI1 => ?_)
 · exact ⟨by omega, by omega, rfl⟩
 obtain ⟨hI11, hI12, hI13⟩ := hI1
 refine Gs (Gt (A6 rfl rfl) (AO (AA (Ap ?_))))
 refine Gc (fun c3 => ?_) (fun c3 => ?_)
 ·
  have c3p := kz c3
  refine Aa ?_
  refine AB (.t5 1 2 4 21 22) ?_
  refine AA (Ap (Ae (Gs ?_)))
  refine Gt (FU Al.fl Tryz.underlying33 E8 rfl rfl (by first | omega | exact hb.1 | exact hb.2 | (dsimp only; omega)) (by first | omega | exact hb.1 | exact hb.2 | (dsimp only; omega))) ?_
  refine BF rfl Kv rfl (fun b3 => ?_)
  refine AR (AJ (AS.id Al.fl.len Al.fl.one) rfl rfl rfl Jg rfl .h) ?_
  refine Gn (.t6 1 2 4 9 21 22) (Gs (Gt (Ai HX rfl) (Gt (AG rfl DV .m0 Al.l1 rfl rfl) (Gm rfl (Bh 27 rfl rfl (fun q => Ai Js rfl) (Bh 27 rfl rfl (fun q => AG (Bc rfl q) CN .m0 Al.l0 rfl rfl) (Bh 27 rfl rfl (fun q => AE rfl) ?_)))))))
  refine Bh 27 rfl rfl (fun q => Bs (Bc rfl q) (Bc rfl q)) (Gt (BI rfl rfl (fun h => h)) (Gn (.t6 1 2 4 21 22 32) ?_))
  refine Gc (fun c4 => ?_) (fun c4 => ?_)
  ·
   have c4p := kz c4
   refine Gs (Gt (AZ rfl BT .m2 (AS.id AH.fl.len AH.fl.one) rfl) ?_)
   refine AR (AJ (AS.id AH.fl.len AH.fl.one) rfl rfl rfl Dq rfl (.t .h)) ?_
   refine Ga rfl (Ga rfl (Ga rfl (Gn (.t4 4 5 6 7) (Ab (AP (AD (AD ?_)))))))
   refine AP (AD ?_)
   refine AY rfl (.cell rfl .m1 (.inl ⟨(by rw [AH.fl.len]; exact BT), rfl⟩) (.tmp rfl (.tmp rfl (.tmp rfl .n)))) ?_
   intro w1 hS
   have hS := hS.Cd 56 16
   have hS := (hS.perm (Av.perm (.c .h .n))).Az
   have ha : (!B5 6 (fun k => !AF.KS X s k) 6) = true := by rw [hI13, DA (fun k => !AF.KS X s k) (show k < 6 by omega), show AF.KS X s k = true from c4]; rfl
   have hq : AF.Bf X s = _ := (AU c1).trans ((AU c2).trans (A9 ha))
   refine ⟨_, ⟨⟨none, 0, 0⟩, ?hv, ?hl, ?hB⟩, hS⟩
   case hv => rw [hq]; rfl
   case hl => rw [hq]; rfl
   case hB => rw [hq]; rfl
  have c4p := kz c4
  refine Aa ?_
  refine AB (.t5 1 2 4 21 22) ?_
  refine AT (AA (AI ?_))
  refine Gt (As rfl rfl (IntWalk.i64_in _ (by first | omega | exact hb.1 | exact hb.2 | (dsimp only; omega)))) ?_
  refine Gm rfl ?_
  refine AO (AB (.t5 1 2 4 21 22) ?_)
  refine B0 (k + 1) ?_ ?_ (.t5 22 1 2 4 21) (.cons _ (.refl _))
  · exact ⟨by omega, by omega, by rw [hI13, DA (fun k => !AF.KS X s k) (show k < 6 by omega), show AF.KS X s k = false from c4]; rfl⟩
  · omega
 have c3p := kz c3
 have hno : (!B5 6 (fun k => !AF.KS X s k) 6) = false := by rw [hI13, show (6 - k).toNat = 0 by omega]; rfl
 refine BX (AW (AW (Ag ?_)))
 refine AB (.t3 1 2 4) ?_
 refine AA (B7 (Ga rfl (AO (AA (Ae ?_)))))
 refine Bl (.t4 10 1 2 4) ?_
 refine CT (fun (k : Int) => 2 ≤ k ∧ k ≤ 6 ∧ AF.DF X 6 = AF.DF X (5 - (k - 1)).toNat) (fun (k : Int) => (6 - k).toNat) (fun (k : Int) => [(10, .int .i64 k)]) (fun (k : Int) => []) (2) ?_ rfl rfl (fun k hI2 => ?_)
 · exact ⟨by omega, by omega, AF.Tk X⟩
 obtain ⟨hI21, hI22, hI23⟩ := hI2
 refine B7 (Gm rfl (Gt (A6 rfl rfl) (Gn (.t5 1 2 4 10 36) ?_)))
 refine Gc (fun c5 => ?_) (fun c5 => ?_)
 ·
  have c5p := kz c5
  refine Aa ?_
  refine AB (.t4 1 2 4 10) ?_
  refine AA (Ap (Ae (Gs (Gm rfl (Gt (Ai Bi rfl) ?_)))))
  refine Gt (AQ Cr rfl rfl (by first | omega | exact hb.1 | exact hb.2 | (dsimp only; omega)) (by first | omega | exact hb.1 | exact hb.2 | (dsimp only; omega))) ?_
  refine Gt (Ai HX rfl) ?_
  refine Gt (AG rfl DV .m1 ((AH.l2.comp (AS.ar (n := 6) Al.fl (by first | omega | exact hb | (dsimp only; omega)))).comp Al.l1) rfl rfl) ?_
  refine Gt (BS rfl) (Gn (.t5 1 2 4 10 44) ?_)
  refine Gc (fun c6 => ?_) (fun c6 => ?_)
  ·
   have c6p := kz c6
   have hF := AF.Tu (s := s) (by simpa using c1) hw (by omega) (show 0 ≤ k by omega) (show k < 6 by omega)
   have hb := hF.b
   refine Gs (Gt (AZ rfl BT .m1 (AS.id AH.fl.len AH.fl.one) rfl) (Gm rfl (Gt (BA Su Sk rfl (.cons Ac.l0 rfl rfl rfl (.cons Ac.l1 rfl rfl rfl .nil))) ?_)))
   refine B3 rfl rfl rfl (fun b4 => ?_)
   refine Ga rfl (Gn (.t4 1 4 10 11) (Gs (Gm rfl (Gm rfl (Gm rfl (Gt (BA Um Kv rfl (.cons Al.l0 rfl rfl rfl (.cons Al.l1 rfl rfl rfl (.cons Al.l4 rfl rfl rfl .nil)))) (Gt (BR rfl) ?_)))))))
   refine Gt (Ai A5 rfl) (Gt (Ai Bi rfl) ?_)
   refine Gt (AQ Cr rfl rfl (by first | omega | exact hb.1 | exact hb.2 | (dsimp only; omega)) (by first | omega | exact hb.1 | exact hb.2 | (dsimp only; omega))) ?_
   refine AR (AJ ((Ac.l0.comp AH.l2).comp (AS.ar (n := 6) Al.fl (by first | omega | exact hb | (dsimp only; omega)))) rfl rfl rfl Jg rfl .h) ?_
   refine Gn (.t3 4 10 11) (Gs (Gm rfl ?_))
   refine C9 Ing.Event.enc 56 16 ?_
   refine Ah rfl S7 (.c rfl (.c rfl .n)) (.c (.t .h) (.c .h .n)) (Fo _ (⟨X.Cv k (AF.KH s), k, []⟩ : AF) _ 17 rfl hb (Nat.zero_le _)) (fun v5 B hv => ?_)
   obtain ⟨y6, rfl, y7, rfl⟩ := hv
   refine Gn (.t3 4 10 11) (Gs (Gm rfl ?_))
   refine BC rfl Sm (.c rfl .n) (.c .h (.c .h .n)) (GR _ (AF.kind (⟨X.Cv k (AF.KH s), k, []⟩ : AF) 17) _ y7 hb hF.br (by decide : (0 : Nat) + 1 ≤ 90000)) (fun w hS => gl0.pull gm0 hS (.c .h (.c .h .n))) (fun v8 B hv => ?_)
   obtain ⟨y9, rfl, y10, rfl⟩ := hv
   refine Gn (.t3 4 10 11) (Ap ?_)
   refine BD (N := 13) [0, 1, 3, 7, 0, 0, 32, 96, 224, 15, 543, 2047, 4095] mix (by kernel_rfl) rfl ?_
   refine Pf 0 rfl (AE rfl) (Pf 1 rfl (BR rfl) (Pf 2 rfl (Ai A5 rfl) (Pf 3 rfl (AZ rfl BT .m0 Ac.l0 rfl) (Pf 4 rfl (AE rfl) (Pf 5 rfl (AE rfl) (Pf 6 rfl (BR rfl) (Pf 7 rfl (Ai CB rfl) ?_)))))))
   refine Pf 8 rfl (AG rfl DT .m0 Ac.l2 rfl rfl) ?_
   refine An 9 rfl (by kernel_rfl) ?_
   refine AR (AJ (AS.id AH.fl.len AH.fl.one) rfl rfl rfl Dq rfl (.t (.t .h))) ?_
   refine BK rfl ⟨?_, ?_⟩
   · exact (Po rfl (AG rfl DT .m0 Ac.l2 rfl rfl) rfl rfl (Po rfl (Ai CB rfl) rfl rfl (Po rfl (BR rfl) rfl rfl (Po rfl (AE rfl) rfl rfl (Po rfl (AE rfl) rfl rfl (Pk (Pk (Pk (Pk Ar)))))))))
   refine Pf 10 rfl (Ay rfl) (Pf 11 rfl (Ay rfl) (Pf 12 rfl (Ay rfl) ?_))
   refine A1 (by kernel_rfl) ?_
   refine AB (.t4 4 5 6 7) ?_
   refine AA (Ab (AP (AD (AD (AP (AD ?_))))))
   refine AY rfl (.cell rfl .m2 (.inl ⟨(by rw [AH.fl.len]; exact BT), rfl⟩) (.tmp rfl (.tmp rfl (.tmp rfl .n)))) ?_
   intro w1 hS
   have hS := (hS.perm (Av.perm (.c (.t .h) .n))).Az
   have hfr : AF.DF X 6 = k := hI23.trans (AF.TD hI21 (by omega) c6)
   have hf0 : decide (AF.DF X 6 < 0) = false := decide_eq_false (by omega)
   have hq : AF.Bf X s = _ := (AU c1).trans ((AU c2).trans ((AU hno).trans (AU hf0)))
   rw [hfr] at hq
   refine ⟨_, ⟨y9, ?hv, ?hl, ?hB⟩, hS⟩
   case hv => rw [hq]; (try rfl)
   case hl => rw [hq]; exact y10
   case hB => rw [hq]; (try rfl)
  have c6p := kz c6
  refine Aa ?_
  refine AB (.t4 1 2 4 10) ?_
  refine AT (AA (AI (Gm rfl ?_)))
  refine Gt (As rfl rfl (IntWalk.i64_in _ (by first | omega | exact hb.1 | exact hb.2 | (dsimp only; omega)))) ?_
  refine Ga rfl ?_
  refine AO (AB (.t4 1 2 4 10) ?_)
  refine B0 (k + 1) ?_ ?_ (.t4 10 1 2 4) (.refl _)
  · exact ⟨by omega, by omega, by rw [hI23, AF.Vv hI21 (by omega) c6, show (5 - (k + 1 - 1)) = 5 - k by omega]⟩
  · omega
 have c5p := kz c5
 obtain rfl : k = 6 := by omega
 refine BX (AW (AW (Ag ?_)))
 refine AB (.t2 2 4) ?_
 refine AA (Gs (Gt (AZ rfl BT .m1 (AS.id AH.fl.len AH.fl.one) rfl) ?_))
 refine AR (AJ (AS.id AH.fl.len AH.fl.one) rfl rfl rfl Dq rfl .h) ?_
 refine Ga rfl (Ga rfl (Ga rfl (Gn (.t4 4 5 6 7) (Ab ?_))))
 refine AY rfl (.cell rfl .m0 (.inl ⟨(by rw [AH.fl.len]; exact BT), rfl⟩) (.tmp rfl (.tmp rfl (.tmp rfl .n)))) ?_
 intro w1 hS
 have hS := hS.Cd 56 16
 have hS := (hS.perm (Av.perm (.c .h .n))).Az
 have hf0 : decide (AF.DF X 6 < 0) = true := by rw [hI23]; rfl
 have hq : AF.Bf X s = _ := (AU c1).trans ((AU c2).trans ((AU hno).trans (A9 hf0)))
 refine ⟨_, ⟨⟨none, 0, 0⟩, ?hv, ?hl, ?hB⟩, hS⟩
 case hv => rw [hq]; rfl
 case hl => rw [hq]; rfl
 case hB => rw [hq]; rfl
theorem Ly (z : Int) (w : World) : EL Tryz.prog 49 #[.int .i64 z] w fun v w' => v = .tuple #[BQ (AH.form z).1, BQ (AH.form z).2] ∧ B4 w w' := by
 refine Am [] [] Tryz.func49 rfl rfl rfl (St.start w []) ?_
 refine Gs (Ga rfl (Ga rfl (Gn (.t1 0) (B7 (Gm rfl (Gn (.t1 4) (Ae ?_)))))))
 refine Gs (Gt (Af rfl rfl) (Ga rfl (Gn (.t2 4 5) ?_)))
 refine Gc (fun c1 => ?_) (fun c1 => ?_)
 ·
  refine Gs (Ga rfl (Ga rfl (Gn (.t2 2 3) (Ab (AP (AD ?_))))))
  refine AY rfl (.tmp rfl (.tmp rfl .n)) ?_
  intro w1 hS; refine ⟨?_, hS.Aj⟩; rw [show AH.form z = _ from (A9 c1)]; rfl
 refine Gs (Gt (Af rfl rfl) (Ga rfl (Gn (.t2 4 7) ?_)))
 refine Gc (fun c2 => ?_) (fun c2 => ?_)
 ·
  refine Gs (Ga rfl (Ga rfl (Gn (.t2 2 3) (Ab (AP (AD ?_))))))
  refine AY rfl (.tmp rfl (.tmp rfl .n)) ?_
  intro w1 hS; refine ⟨?_, hS.Aj⟩; rw [show AH.form z = _ from ((AU c1).trans (A9 c2))]; rfl
 refine Gs (Gt (Af rfl rfl) (Ga rfl (Gn (.t2 4 9) ?_)))
 refine Gc (fun c3 => ?_) (fun c3 => ?_)
 ·
  refine Gs (Ga rfl (Ga rfl (Gn (.t2 2 3) (Ab (AP (AD ?_))))))
  refine AY rfl (.tmp rfl (.tmp rfl .n)) ?_
  intro w1 hS; refine ⟨?_, hS.Aj⟩; rw [show AH.form z = _ from ((AU c1).trans ((AU c2).trans (A9 c3)))]; rfl
 refine Gs (Gt (Af rfl rfl) (Ga rfl (Gn (.t2 4 11) ?_)))
 refine Gc (fun c4 => ?_) (fun c4 => ?_)
 ·
  refine Gs (Ga rfl (Ga rfl (Gn (.t2 2 3) (Ab (AP (AD ?_))))))
  refine AY rfl (.tmp rfl (.tmp rfl .n)) ?_
  intro w1 hS; refine ⟨?_, hS.Aj⟩; rw [show AH.form z = _ from ((AU c1).trans ((AU c2).trans ((AU c3).trans (A9 c4))))]; rfl
 refine Gs (Gt (Af rfl rfl) (Ga rfl (Gn (.t2 4 13) ?_)))
 refine Gc (fun c5 => ?_) (fun c5 => ?_)
 ·
  refine Gs (Ga rfl (Ga rfl (Gn (.t2 2 3) (Ab (AP (AD ?_))))))
  refine AY rfl (.tmp rfl (.tmp rfl .n)) ?_
  intro w1 hS; refine ⟨?_, hS.Aj⟩; rw [show AH.form z = _ from ((AU c1).trans ((AU c2).trans ((AU c3).trans ((AU c4).trans (A9 c5)))))]; rfl
 refine Gs (Gt (Af rfl rfl) (Ga rfl (Gn (.t2 4 15) ?_)))
 refine Gc (fun c6 => ?_) (fun c6 => ?_)
 ·
  refine Gs (Ga rfl (Ga rfl (Gn (.t2 2 3) (Ab (AP (AD ?_))))))
  refine AY rfl (.tmp rfl (.tmp rfl .n)) ?_
  intro w1 hS; refine ⟨?_, hS.Aj⟩; rw [show AH.form z = _ from ((AU c1).trans ((AU c2).trans ((AU c3).trans ((AU c4).trans ((AU c5).trans (A9 c6))))))]; rfl
 refine Gs (Gt (Af rfl rfl) (Ga rfl (Gn (.t2 4 17) ?_)))
 refine Gc (fun c7 => ?_) (fun c7 => ?_)
 ·
  refine Gs (Ga rfl (Ga rfl (Gn (.t2 2 3) (Ab (AP (AD ?_))))))
  refine AY rfl (.tmp rfl (.tmp rfl .n)) ?_
  intro w1 hS; refine ⟨?_, hS.Aj⟩; rw [show AH.form z = _ from ((AU c1).trans ((AU c2).trans ((AU c3).trans ((AU c4).trans ((AU c5).trans ((AU c6).trans (A9 c7)))))))]; rfl
 refine Gs (Gt (Af rfl rfl) (Ga rfl (Gn (.t2 4 19) ?_)))
 refine Gc (fun c8 => ?_) (fun c8 => ?_)
 ·
  refine Gs (Ga rfl (Ga rfl (Gn (.t2 2 3) (Ab (AP (AD ?_))))))
  refine AY rfl (.tmp rfl (.tmp rfl .n)) ?_
  intro w1 hS; refine ⟨?_, hS.Aj⟩; rw [show AH.form z = _ from ((AU c1).trans ((AU c2).trans ((AU c3).trans ((AU c4).trans ((AU c5).trans ((AU c6).trans ((AU c7).trans (A9 c8))))))))]; rfl
 refine Gs (Gt (Af rfl rfl) (Ga rfl (Gn (.t2 4 21) ?_)))
 refine Gc (fun c9 => ?_) (fun c9 => ?_)
 ·
  refine Gs (Ga rfl (Ga rfl (Gn (.t2 2 3) (Ab (AP (AD ?_))))))
  refine AY rfl (.tmp rfl (.tmp rfl .n)) ?_
  intro w1 hS; refine ⟨?_, hS.Aj⟩; rw [show AH.form z = _ from ((AU c1).trans ((AU c2).trans ((AU c3).trans ((AU c4).trans ((AU c5).trans ((AU c6).trans ((AU c7).trans ((AU c8).trans (A9 c9)))))))))]; rfl
 refine Gs (Gt (Af rfl rfl) (Ga rfl (Gn (.t2 4 23) ?_)))
 refine Gc (fun c10 => ?_) (fun c10 => ?_)
 ·
  refine Gs (Ga rfl (Ga rfl (Gn (.t2 2 3) (Ab (AP (AD ?_))))))
  refine AY rfl (.tmp rfl (.tmp rfl .n)) ?_
  intro w1 hS; refine ⟨?_, hS.Aj⟩; rw [show AH.form z = _ from ((AU c1).trans ((AU c2).trans ((AU c3).trans ((AU c4).trans ((AU c5).trans ((AU c6).trans ((AU c7).trans ((AU c8).trans ((AU c9).trans (A9 c10))))))))))]; rfl
 refine Gs (Gt (Af rfl rfl) (Ga rfl (Gn (.t2 4 25) ?_)))
 refine Gc (fun c11 => ?_) (fun c11 => ?_)
 ·
  refine Gs (Ga rfl (Ga rfl (Gn (.t2 2 3) (Ab (AP (AD ?_))))))
  refine AY rfl (.tmp rfl (.tmp rfl .n)) ?_
  intro w1 hS; refine ⟨?_, hS.Aj⟩; rw [show AH.form z = _ from ((AU c1).trans ((AU c2).trans ((AU c3).trans ((AU c4).trans ((AU c5).trans ((AU c6).trans ((AU c7).trans ((AU c8).trans ((AU c9).trans ((AU c10).trans (A9 c11)))))))))))]; rfl
 refine Gs (Gt (Af rfl rfl) (Ga rfl (Gn (.t2 4 27) ?_)))
 refine Gc (fun c12 => ?_) (fun c12 => ?_)
 ·
  refine Gs (Ga rfl (Ga rfl (Gn (.t2 2 3) (Ab (AP (AD ?_))))))
  refine AY rfl (.tmp rfl (.tmp rfl .n)) ?_
  intro w1 hS; refine ⟨?_, hS.Aj⟩; rw [show AH.form z = _ from ((AU c1).trans ((AU c2).trans ((AU c3).trans ((AU c4).trans ((AU c5).trans ((AU c6).trans ((AU c7).trans ((AU c8).trans ((AU c9).trans ((AU c10).trans ((AU c11).trans (A9 c12))))))))))))]; rfl
 refine Gs (Gt (Af rfl rfl) (Ga rfl (Gn (.t2 4 29) ?_)))
 refine Gc (fun c13 => ?_) (fun c13 => ?_)
 ·
  refine Gs (Ga rfl (Ga rfl (Gn (.t2 2 3) (Ab (AP (AD ?_))))))
  refine AY rfl (.tmp rfl (.tmp rfl .n)) ?_
  intro w1 hS; refine ⟨?_, hS.Aj⟩; rw [show AH.form z = _ from ((AU c1).trans ((AU c2).trans ((AU c3).trans ((AU c4).trans ((AU c5).trans ((AU c6).trans ((AU c7).trans ((AU c8).trans ((AU c9).trans ((AU c10).trans ((AU c11).trans ((AU c12).trans (A9 c13)))))))))))))]; rfl
 refine Gs (Gt (Af rfl rfl) (Ga rfl (Gn (.t2 4 31) ?_)))
 refine Gc (fun c14 => ?_) (fun c14 => ?_)
 ·
  refine Gs (Ga rfl (Ga rfl (Gn (.t2 2 3) (Ab (AP (AD ?_))))))
  refine AY rfl (.tmp rfl (.tmp rfl .n)) ?_
  intro w1 hS; refine ⟨?_, hS.Aj⟩; rw [show AH.form z = _ from ((AU c1).trans ((AU c2).trans ((AU c3).trans ((AU c4).trans ((AU c5).trans ((AU c6).trans ((AU c7).trans ((AU c8).trans ((AU c9).trans ((AU c10).trans ((AU c11).trans ((AU c12).trans ((AU c13).trans (A9 c14))))))))))))))]; rfl
 refine Gs (Gt (Af rfl rfl) (Ga rfl (Gn (.t2 4 33) ?_)))
 refine Gc (fun c15 => ?_) (fun c15 => ?_)
 ·
  refine Gs (Ga rfl (Ga rfl (Gn (.t2 2 3) (Ab (AP (AD ?_))))))
  refine AY rfl (.tmp rfl (.tmp rfl .n)) ?_
  intro w1 hS; refine ⟨?_, hS.Aj⟩; rw [show AH.form z = _ from ((AU c1).trans ((AU c2).trans ((AU c3).trans ((AU c4).trans ((AU c5).trans ((AU c6).trans ((AU c7).trans ((AU c8).trans ((AU c9).trans ((AU c10).trans ((AU c11).trans ((AU c12).trans ((AU c13).trans ((AU c14).trans (A9 c15)))))))))))))))]; rfl
 refine Gs (Gt (Af rfl rfl) (Ga rfl (Gn (.t2 4 35) ?_)))
 refine Gc (fun c16 => ?_) (fun c16 => ?_)
 ·
  refine Gs (Ga rfl (Ga rfl (Gn (.t2 2 3) (Ab (AP (AD ?_))))))
  refine AY rfl (.tmp rfl (.tmp rfl .n)) ?_
  intro w1 hS; refine ⟨?_, hS.Aj⟩; rw [show AH.form z = _ from ((AU c1).trans ((AU c2).trans ((AU c3).trans ((AU c4).trans ((AU c5).trans ((AU c6).trans ((AU c7).trans ((AU c8).trans ((AU c9).trans ((AU c10).trans ((AU c11).trans ((AU c12).trans ((AU c13).trans ((AU c14).trans ((AU c15).trans (A9 c16))))))))))))))))]; rfl
 refine Gs (Gt (Af rfl rfl) (Ga rfl (Gn (.t2 4 37) ?_)))
 refine Gc (fun c17 => ?_) (fun c17 => ?_)
 ·
  refine Gs (Ga rfl (Ga rfl (Gn (.t2 2 3) (Ab (AP (AD ?_))))))
  refine AY rfl (.tmp rfl (.tmp rfl .n)) ?_
  intro w1 hS; refine ⟨?_, hS.Aj⟩; rw [show AH.form z = _ from ((AU c1).trans ((AU c2).trans ((AU c3).trans ((AU c4).trans ((AU c5).trans ((AU c6).trans ((AU c7).trans ((AU c8).trans ((AU c9).trans ((AU c10).trans ((AU c11).trans ((AU c12).trans ((AU c13).trans ((AU c14).trans ((AU c15).trans ((AU c16).trans (A9 c17)))))))))))))))))]; rfl
 refine Gs (Gt (Af rfl rfl) (Ga rfl (Gn (.t1 39) ?_)))
 refine Gc (fun c18 => ?_) (fun c18 => ?_)
 ·
  refine Gs (Ga rfl (Ga rfl (Gn (.t2 2 3) (Ab (AP (AD ?_))))))
  refine AY rfl (.tmp rfl (.tmp rfl .n)) ?_
  intro w1 hS; refine ⟨?_, hS.Aj⟩; rw [show AH.form z = _ from ((AU c1).trans ((AU c2).trans ((AU c3).trans ((AU c4).trans ((AU c5).trans ((AU c6).trans ((AU c7).trans ((AU c8).trans ((AU c9).trans ((AU c10).trans ((AU c11).trans ((AU c12).trans ((AU c13).trans ((AU c14).trans ((AU c15).trans ((AU c16).trans ((AU c17).trans (A9 c18))))))))))))))))))]; rfl
 refine Aa ?_
 refine AB (.nil _) ?_
 refine AT (AA (Gs (Ga rfl (Ga rfl (AO (AA (Ab ?_)))))))
 refine AY rfl (.tmp rfl (.tmp rfl .n)) ?_
 intro w1 hS; refine ⟨?_, hS.Aj⟩; rw [show AH.form z = _ from ((AU c1).trans ((AU c2).trans ((AU c3).trans ((AU c4).trans ((AU c5).trans ((AU c6).trans ((AU c7).trans ((AU c8).trans ((AU c9).trans ((AU c10).trans ((AU c11).trans ((AU c12).trans ((AU c13).trans ((AU c14).trans ((AU c15).trans ((AU c16).trans ((AU c17).trans (AU c18))))))))))))))))))]; rfl
theorem Ct (b : Nat) (p : Option Addr) (h : Hd) (hp : p = none ∨ p = some ⟨b, 0, none⟩) : JU Tryz.prog 71 #[.pointer (some ⟨b, 0, none⟩)] [Ad.box b 107 (DC.enc ⟨p, h⟩)] (fun v B => v = .tuple #[] ∧ B = [Ad.box b 107 (DC.enc ⟨some ⟨b, 0, none⟩, h⟩)]) := by
 intro w hS0
 refine Am _ _ Tryz.func71 rfl rfl rfl (hS0) ?_
 refine Gs (Gm rfl (Gt (BR rfl) (Gt (Ai Pu rfl) (Gt (AG rfl VY .m0 DC.l0 rfl rfl) (Gt (Fh Tryz.underlying104 rfl) (Gn (.t2 0 6) ?_))))))
 refine Gc (fun c1 => ?_) (fun c1 => ?_)
 ·
  obtain rfl : p = none := by simpa using c1
  refine AI (Gm rfl (Gm rfl ?_))
  refine Gt ((let ⟨_, h, h2⟩ := RU; Q7 Tryz.underlying104 Tryz.underlying152 h h2 rfl .m0 (by rw [DC.fl.len]; decide))) ?_
  refine Gt (Qj Tryz.func85 (by kernel_rfl) (by kernel_rfl) (by kernel_rfl) (by kernel_rfl) rfl) ?_
  refine Gt ((let ⟨_, h, _⟩ := RU; N6 Tryz.underlying152 Tryz.underlying104 h rfl .m0 (by rw [DC.fl.len]; kernel_rfl))) ?_
  refine Gt (BR rfl) (Gt (Ai Pu rfl) ?_)
  refine AR (AJ DC.l0 rfl rfl rfl XV rfl .h) ?_
  refine AO ?_
  refine Be rfl .n ?_
  intro w1 hS
  have hS := (hS.perm (Av.perm (.c .h .n))).Az
  exact ⟨_, ⟨rfl, rfl⟩, hS⟩
 obtain rfl : p = some ⟨b, 0, none⟩ := by rcases hp with h | h; (subst h; simp at c1); exact h
 refine Gs (Gm rfl (Gt (BR rfl) (Gt (Ai Pu rfl) (Gt (AG rfl VY .m0 DC.l0 rfl rfl) (Gm rfl (Gt ((let ⟨_, h, _⟩ := RU; Pw Tryz.underlying104 h rfl rfl)) (Gn (.t1 19) ?_)))))))
 refine EE rfl rfl ?_
 refine Aa ?_
 refine Be rfl .n ?_
 intro w1 hS
 have hS := (hS.perm (Av.perm (.c .h .n))).Az
 exact ⟨_, ⟨rfl, rfl⟩, hS⟩
theorem CU (b : Nat) (p : Option Addr) (h : Hd) (s : Aq) (hp : p = none ∨ p = some ⟨b, 0, none⟩) (hz : h.Z) (hl : h.len = s.length) (c : UInt8) (hb : s.length < 140737488355000) : JU Tryz.prog 50 #[.pointer (some ⟨b, 0, none⟩), .int .u8 (c.toNat : Int)] [Ad.box b 107 (DC.enc ⟨p, h⟩), Ad.own h 5 1 (s.flatMap C8)] (fun v B => ∃ p' h', v = .nilIface ∧ (p' = none ∨ p' = some ⟨b, 0, none⟩) ∧ h'.Z ∧ h'.len = (s ++ [c]).length ∧ B = [Ad.box b 107 (DC.enc ⟨p', h'⟩), Ad.own h' 5 1 ((s ++ [c]).flatMap C8)]) := by
 intro w hS0
 refine Am _ _ Tryz.func50 rfl rfl rfl (hS0) ?_
 refine Gs (Ga rfl (Gn (.t2 0 1) (Gs (Gm rfl ?_))))
 refine Ah rfl X5 (.c rfl .n) (.c .h .n) (Ct _ _ _ (by first | assumption | omega)) (fun v1 B hv => ?_)
 obtain ⟨rfl, rfl⟩ := hv
 refine Gn (.t2 0 1) (Gs (Gm rfl (Gm rfl (Gt (BR rfl) (Gt (Ai EU rfl) (Gt (AG rfl HR .m0 DC.l1 rfl rfl) (Gm rfl ?_)))))))
 refine SU rfl Tryz.underlying105 UO X1 rfl (by decide) (by decide) rfl rfl rfl (fun b1 => ?_)
 refine MY rfl Tryz.underlying105 UO X1 rfl bF (by decide) (by decide) rfl rfl (fun w hS => Src.DU Tryz.underlying105 ((Kn.own .m0) w hS)) (by intro v hv; simp at hv; subst hv; rfl) (by dsimp only; omega) (fun _ => (.t (.t .h))) (fun h2 h2l h2z => ?_)
 have h2z := h2z hz; dsimp only at h2l
 refine Gt (BR rfl) (Gt (Ai EU rfl) ?_)
 refine AR (AJ DC.l1 rfl rfl rfl Sl rfl (.t .h)) ?_
 refine Gn (.nil _) (Gs (Ga rfl (AO (AA (Ab ?_)))))
 refine AY rfl (.tmp rfl .n) ?_
 intro w1 hS
 have hS := (hS.perm (Av.perm (.c (.t .h) (.c (.t .h) .n)))).Az
 exact ⟨_, ⟨_, _, rfl, .inr rfl, by assumption, by simp; omega, by rw [List.flatMap_append]; rfl⟩, hS⟩
theorem BH (b : Nat) (p : Option Addr) (h : Hd) (s : Aq) (hp : p = none ∨ p = some ⟨b, 0, none⟩) (hz : h.Z) (hl : h.len = s.length) (t : Aq) (hb : s.length + t.length < 140737488355000) : JU Tryz.prog 51 #[.pointer (some ⟨b, 0, none⟩), BQ t] [Ad.box b 107 (DC.enc ⟨p, h⟩), Ad.own h 5 1 (s.flatMap C8)] (fun v B => ∃ p' h', v = .tuple #[.int .i64 t.length, .nilIface] ∧ (p' = none ∨ p' = some ⟨b, 0, none⟩) ∧ h'.Z ∧ h'.len = (s ++ t).length ∧ B = [Ad.box b 107 (DC.enc ⟨p', h'⟩), Ad.own h' 5 1 ((s ++ t).flatMap C8)]) := by
 intro w hS0
 refine Am _ _ Tryz.func51 rfl rfl rfl (hS0) ?_
 refine Gs (Ga rfl (Ga rfl (Gn (.t2 0 1) (Gs (Gm rfl ?_)))))
 refine Ah rfl X5 (.c rfl .n) (.c .h .n) (Ct _ _ _ (by first | assumption | omega)) (fun v1 B hv => ?_)
 obtain ⟨rfl, rfl⟩ := hv
 refine Gn (.t2 0 1) (Gs (Gm rfl (Gm rfl (Gt (BR rfl) (Gt (Ai EU rfl) (Gt (AG rfl HR .m0 DC.l1 rfl rfl) (Gm rfl ?_)))))))
 refine CO Uf rfl Tryz.underlying105 UO X1 rfl bF (by decide) (by decide) rfl rfl (fun _ _ => Src.str Tryz.underlying9) (by dsimp only; omega) (fun _ => (.t .h)) (fun h2 h2l h2z => ?_)
 have h2z := h2z hz; dsimp only at h2l
 refine Gt (BR rfl) (Gt (Ai EU rfl) ?_)
 refine AR (AJ DC.l1 rfl rfl rfl Sl rfl .h) ?_
 refine Gn (.t1 1) (Gs (Gm rfl (Gt (BE rfl Tryz.underlying9 rfl) (Ga rfl (Ga rfl (Gn (.t2 4 5) (Ab ?_)))))))
 refine AY rfl (.tmp rfl (.tmp rfl .n)) ?_
 intro w1 hS
 have hS := (hS.perm (Av.perm (.c .h (.c .h .n)))).Az
 exact ⟨_, ⟨_, _, rfl, .inr rfl, by assumption, by simp; omega, by rw [List.flatMap_append]⟩, hS⟩
def Pe : Go.Shelf.Ren := ⟨fun | 171 => 53 | 243 => 72 | 246 => 86 | 283 => 108 | 284 => 109 | 285 => 110 | 286 => 111 | 129 => 142 | 317 => 141 | 318 => 143 | 319 => 144 | 320 => 145 | 337 => 162 | 338 => 163 | n => n, fun | 3 => 3 | 9 => 9 | 2 => 2 | 4 => 4 | 171 => 172 | 0 => 0 | 53 => 173 | 37 => 105 | 5 => 5 | 173 => 176 | 212 => 205 | 51 => 178 | 20 => 20 | 213 => 206 | 46 => 140 | 232 => 226 | 233 => 227 | n => n, fun | 17 => 2 | 18 => 3 | 19 => 4 | n => n⟩
theorem Vq : LaysM.n171 Tryz.prog Pe where
  mixed := by kernel_rfl
  f129 := Tryz.func142.trans (congrArg some (by kernel_rfl))
  f171 := Tryz.func53.trans (congrArg some (by kernel_rfl))
  f243 := Tryz.func72.trans (congrArg some (by kernel_rfl))
  f246 := Tryz.func86.trans (congrArg some (by kernel_rfl))
  f283 := Tryz.func108.trans (congrArg some (by kernel_rfl))
  f284 := Tryz.func109.trans (congrArg some (by kernel_rfl))
  f285 := Tryz.func110.trans (congrArg some (by kernel_rfl))
  f286 := Tryz.func111.trans (congrArg some (by kernel_rfl))
  f317 := Tryz.func141.trans (congrArg some (by kernel_rfl))
  f318 := Tryz.func143.trans (congrArg some (by kernel_rfl))
  f319 := Tryz.func144.trans (congrArg some (by kernel_rfl))
  f320 := Tryz.func145.trans (congrArg some (by kernel_rfl))
  f337 := Tryz.func162.trans (congrArg some (by kernel_rfl))
  f338 := Tryz.func163.trans (congrArg some (by kernel_rfl))
  t0 := Tryz.underlying0
  a0 := Tryz.isAgg0
  z0 := Tryz.sizeOf0
  v0 := Tryz.zeroValue0
  t2 := Tryz.underlying2
  a2 := Tryz.isAgg2
  z2 := Tryz.sizeOf2
  v2 := Tryz.zeroValue2
  t3 := Tryz.underlying3
  a3 := Tryz.isAgg3
  z3 := Tryz.sizeOf3
  v3 := Tryz.zeroValue3
  t4 := Tryz.underlying4
  a4 := Tryz.isAgg4
  z4 := Tryz.sizeOf4
  v4 := Tryz.zeroValue4
  t5 := Tryz.underlying5
  a5 := Tryz.isAgg5
  z5 := Tryz.sizeOf5
  v5 := Tryz.zeroValue5
  t9 := Tryz.underlying9
  a9 := Tryz.isAgg9
  z9 := Tryz.sizeOf9
  v9 := Tryz.zeroValue9
  t20 := Tryz.underlying20
  a20 := Tryz.isAgg20
  z20 := Tryz.sizeOf20
  v20 := Tryz.zeroValue20
  t37 := Tryz.underlying105
  a37 := Tryz.isAgg105
  z37 := Tryz.sizeOf105
  v37 := Tryz.zeroValue105
  t46 := Tryz.underlying140
  a46 := Tryz.isAgg140
  z46 := Tryz.sizeOf140
  v46 := Tryz.zeroValue140
  t51 := Tryz.underlying178
  a51 := Tryz.isAgg178
  z51 := Tryz.sizeOf178
  v51 := Tryz.zeroValue178
  t53 := Tryz.underlying173
  a53 := Tryz.isAgg173
  z53 := Tryz.sizeOf173
  v53 := Tryz.zeroValue173
  t171 := Tryz.underlying172
  a171 := Tryz.isAgg172
  z171 := Tryz.sizeOf172
  v171 := Tryz.zeroValue172
  t173 := Tryz.underlying176
  a173 := Tryz.isAgg176
  z173 := Tryz.sizeOf176
  v173 := Tryz.zeroValue176
  t212 := Tryz.underlying205
  a212 := Tryz.isAgg205
  z212 := Tryz.sizeOf205
  v212 := Tryz.zeroValue205
  t213 := Tryz.underlying206
  a213 := Tryz.isAgg206
  z213 := Tryz.sizeOf206
  t232 := Tryz.underlying226
  a232 := Tryz.isAgg226
  z232 := Tryz.sizeOf226
  v232 := Tryz.zeroValue226
  t233 := Tryz.underlying227
  a233 := Tryz.isAgg227
  z233 := Tryz.sizeOf227
  v233 := Tryz.zeroValue227
  g17 := by kernel_rfl
  g18 := by kernel_rfl
  g19 := by kernel_rfl
  i0 := by kernel_rfl
  i2 := by kernel_rfl
  i3 := by kernel_rfl
  i4 := by kernel_rfl
  i5 := by kernel_rfl
  i9 := by kernel_rfl
  i20 := by kernel_rfl
  i37 := by kernel_rfl
  i46 := by kernel_rfl
  i51 := by kernel_rfl
  i53 := by kernel_rfl
  i171 := by kernel_rfl
  i173 := by kernel_rfl
  i212 := by kernel_rfl
  i232 := by kernel_rfl
  i233 := by kernel_rfl
  m17 := by kernel_rfl
  m18 := by kernel_rfl
  m19 := by kernel_rfl
theorem Kd (n : Int) (h0 : -9223372036854775808 ≤ n) (hy : n ≤ 9223372036854775807) (w : World) (gl0 : GV 2 FL w) : EL Tryz.prog 53 #[.int .i64 n] w fun v w' => v = BQ (Lib.itoa n) ∧ B4 w w' :=
  EL.W7 (Any.strconv_Itoa Vq n h0 hy w (Ro (by kernel_rfl) gl0))
theorem Ch (b : Nat) (p : Option Addr) (h : Hd) (s : Aq) (hz : h.Z) (hl : h.len = s.length) (hb : s.length < 140737488355000) : JU Tryz.prog 54 #[.pointer (some ⟨b, 0, none⟩)] [Ad.box b 107 (DC.enc ⟨p, h⟩), Ad.own h 5 1 (s.flatMap C8)] (fun v B => v = BQ s ∧ B = [Ad.box b 107 (DC.enc ⟨p, h⟩)]) := by
 intro w hS0
 refine Am _ _ Tryz.func54 rfl rfl rfl (hS0) ?_
 refine Gs (Ga rfl (Gn (.t1 0) (Ap ?_)))
 refine BD (N := 12) [0, 1, 3, 7, 15, 0, 32, 96, 224, 480, 1023, 2047] mix (by kernel_rfl) rfl ?_
 refine Pf 0 rfl (AE rfl) (Pf 1 rfl (BR rfl) (Pf 2 rfl (Ai EU rfl) (Pf 3 rfl (AG rfl HR .m0 DC.l1 rfl rfl) ?_)))
 refine Pf 4 rfl (Pm rfl (by assumption)) ?_
 refine Pf 5 rfl (AE rfl) (Pf 6 rfl (BR rfl) (Pf 7 rfl (Ai EU rfl) (Pf 8 rfl (AG rfl HR .m0 DC.l1 rfl rfl) (Pf 9 rfl (Ao rfl Tryz.underlying105 rfl) ?_))))
 refine An 10 rfl (by kernel_rfl) ?_
 refine L8 rfl Tryz.underlying134 bj rfl rfl (by assumption) (by omega) (.t .h) ?_
 refine Bo rfl ⟨?_, ?_⟩
 · exact (Pk (Pk (Pk (Pk (Pk (Pk (Pk (Pk (Pk (Pk Ar))))))))))
 refine Pf 11 rfl (Ay rfl) ?_
 refine A1 (by kernel_rfl) ?_
 refine AB (.t1 2) ?_
 refine AA (Ab ?_)
 refine AY rfl (.tmp rfl .n) ?_
 intro w1 hS
 have hS := (hS.perm (Av.perm (.c .h .n))).Az
 exact ⟨_, ⟨rfl, rfl⟩, hS⟩
theorem L6 (e : Ing.Event) (b : Int) (hs : (decide (b < 0) || decide (6 ≤ b) || decide (AH.QH (e.G0.at b) 1 = 0)) = false → AH.Small e) (w : World) (gl0 : GV 2 FL w) (gl1 : GV 0 AH.C0 w) : EL Tryz.prog 23 #[.agg e.enc.toArray, .int .i64 b] w fun v w' => v = .tuple #[BQ (AH.tell e b).1, .bool (AH.tell e b).2] ∧ B4 w w' := by
 refine Am [] [] Tryz.func23 rfl rfl rfl (St.start w []) ?_
 refine Gs ?_
 refine B3 rfl rfl rfl (fun b1 => ?_)
 refine Ga rfl (Ga rfl (Gn (.t2 1 2) (B7 (Gm rfl (Gt (A6 rfl rfl) (Gm rfl (BU 17 rfl rfl (fun q => AE rfl) ?_)))))))
 refine BU 17 rfl rfl (fun q => CL (cF rfl q) rfl) ?_
 refine Gt (BP rfl rfl (fun h => by rw [h]; rfl)) ?_
 refine Gm rfl (BU 21 rfl rfl (fun q => AE rfl) (BU 21 rfl rfl (fun q => Ai MK rfl) ?_))
 refine BU 21 rfl rfl (fun q => by have q1 := q; (try simp at q1); exact AQ Qg (cF rfl q) (cF rfl q) (by first | omega | (simp only [List.length_cons, List.length_nil]; omega)) (by first | omega | (simp only [List.length_cons, List.length_nil]; omega))) ?_
 refine BU 21 rfl rfl (fun q => by have q1 := q; (try simp at q1); exact AG (cF rfl q) A2 .m0 (Ing.Event.l10.comp (AS.arr (n := 6) Bw (by first | omega | (simp only [List.length_cons, List.length_nil]; omega)) (by first | omega | (simp only [List.length_cons, List.length_nil]; omega)))) rfl rfl) ?_
 refine BU 21 rfl rfl (fun q => O7 (cF rfl q) rfl (show _ = AH.QH _ _ from rfl)) (BU 21 rfl rfl (fun q => Af (cF rfl q) rfl) ?_)
 refine Gt (BP rfl rfl (fun h => by rw [h]; rfl)) ?_
 refine Gn (.t3 1 2 28) ?_
 refine Gc (fun c1 => ?_) (fun c1 => ?_)
 ·
  refine Gs (Ga rfl (Ga rfl (Gn (.t2 4 5) (Ab (AD ?_)))))
  refine AY rfl (.tmp rfl (.tmp rfl .n)) ?_
  intro w1 hS; refine ⟨?_, hS.Aj⟩; rw [show AH.tell e b = _ from A9 c1]; rfl
 have c1p := kz c1
 have hs := hs c1
 have hr : 0 ≤ b ∧ b < 6 := by simp at c1; omega
 have htl := AH.M1 e b
 have h1l := AH.OX hs b
 have h2l := AH.Ma hs b
 have h3l := hs.By
 have h4l := hs.text
 have h5l := AH.IN e.dir
 have h6l := Lib.itoa_length_le e.n hs.n0 hs.n1
 refine Aa ?_
 refine AB (.t2 1 2) ?_
 refine AA (Gs (Gt (Ai SQ rfl) (Gt (AG rfl A2 .m0 Ing.Event.l0 rfl rfl) ?_)))
 refine A7 rfl aL (.c rfl .n) (fun w hS => Ly _ w) ?_
 refine Gm rfl (Gt (AK rfl rfl) (Gt (AK rfl rfl) (Ga rfl (Ga rfl (Gn (.t4 1 2 6 7) (Gs (Gm rfl ?_)))))))
 refine Ga rfl (Gn (.t4 1 2 6 8) (B7 (Gm rfl (Gt (Ai Ow rfl) (Gt (AG rfl A2 .m0 Ing.Event.l2 rfl rfl) (Gt (Af rfl rfl) (Gn (.t5 1 2 6 8 39) ?_)))))))
 refine YP (BQ) (s := (AH.Dy e b)) rfl rfl rfl rfl rfl rfl rfl ?_
 refine AB (.t3 1 2 8) ?_
 refine AA (B7 (Gm rfl (Gt (Bs rfl rfl) (Gn (.t4 1 2 8 42) ?_))))
 refine Gc (fun c2 => ?_) (fun c2 => ?_)
 ·
  refine Gs (Ga rfl (Ga rfl (Gn (.t2 4 5) (Ab (AD ?_)))))
  refine AY rfl (.tmp rfl (.tmp rfl .n)) ?_
  intro w1 hS; refine ⟨?_, hS.Aj⟩; rw [show AH.tell e b = _ from (AU c1).trans (A9 c2)]; rfl
 have c2p := kz c2
 refine Aa ?_
 refine AB (.t3 1 2 8) ?_
 refine AA (Ap ?_)
 refine BD (N := 6) [0, 1, 0, 4, 3, 31] mix (by kernel_rfl) rfl ?_
 refine Pf 0 rfl (Ai Vn rfl) (Pf 1 rfl (AG rfl CN .m0 Ing.Event.l6 rfl rfl) (Pf 2 rfl (Ai VS rfl) (Pf 3 rfl (AG rfl CN .m0 Ing.Event.l7 rfl rfl) (Pf 4 rfl (Ay rfl) (Pf 5 rfl (Ay rfl) ?_)))))
 refine A1 (by kernel_rfl) ?_
 refine AB (.t5 1 2 8 9 10) ?_
 refine AA (B7 (Gm rfl (Gt (Ai MK rfl) ?_)))
 refine Gt (AQ Qg rfl rfl (by first | omega | (simp only [List.length_cons, List.length_nil]; omega)) (by first | omega | (simp only [List.length_cons, List.length_nil]; omega))) ?_
 refine Gt (AG rfl A2 .m0 (Ing.Event.l10.comp (AS.arr (n := 6) Bw (by first | omega | (simp only [List.length_cons, List.length_nil]; omega)) (by first | omega | (simp only [List.length_cons, List.length_nil]; omega)))) rfl rfl) ?_
 refine Gt (O7 rfl rfl (show _ = AH.QH _ _ from rfl)) (Gt (CK rfl rfl) (Gn (.t6 1 2 8 9 10 52) ?_))
 refine PD (BQ) (s := (AH.Hp e b)) rfl rfl rfl rfl rfl ?_
 refine AB (.t5 1 2 8 9 10) ?_
 refine AA (B7 (Gm rfl (Gt (Ai MK rfl) ?_)))
 refine Gt (AQ Qg rfl rfl (by first | omega | (simp only [List.length_cons, List.length_nil]; omega)) (by first | omega | (simp only [List.length_cons, List.length_nil]; omega))) ?_
 refine Gt (AG rfl A2 .m0 (Ing.Event.l10.comp (AS.arr (n := 6) Bw (by first | omega | (simp only [List.length_cons, List.length_nil]; omega)) (by first | omega | (simp only [List.length_cons, List.length_nil]; omega)))) rfl rfl) ?_
 refine Gt (O7 rfl rfl (show _ = AH.QH _ _ from rfl)) (Gt (CK rfl rfl) (Gn (.t6 1 2 8 9 10 58) ?_))
 refine PD (BQ) (s := AH.Vk e b) rfl rfl rfl rfl rfl ?_
 refine AB (.t5 1 2 8 9 10) ?_
 refine AA (B7 (Gm rfl (Gt (Ai GC rfl) (Gt (AG rfl A2 .m0 Ing.Event.l3 rfl rfl) (Gt (Af rfl rfl) (Gn (.t5 2 8 9 10 62) ?_))))))
 refine PD (BQ) (s := (AH.FZ e b)) rfl rfl rfl rfl rfl ?_
 refine AB (.t4 2 8 9 10) ?_
 refine AA (Gs ?_)
 refine BF rfl Sq rfl (fun b2 => ?_)
 refine C9 C8 5 1 ?_
 refine AO (AA (B7 (Gm rfl (Gt (BE rfl Tryz.underlying9 rfl) (Gm rfl (Gn (.t7 2 8 9 10 11 64 65) (Ae ?_)))))))
 refine Bl (.t7 65 2 8 9 10 11 64) ?_
 refine BZ (.t .h) ?_
 refine BZ (.t .h) ?_
 refine Hc (fun (k : Int) (x : Aq) (p : Option Addr) (h : Hd) => 0 ≤ k ∧ k ≤ ((AH.Dy e b).length : Int) ∧ x = AH.told e (AH.Hp e b) (AH.FZ e b) (AH.Dy e b) k.toNat ∧ (p = none ∨ p = some ⟨b2, 0, none⟩) ∧ h.Z ∧ h.len = x.length) (fun (k : Int) (x : Aq) (p : Option Addr) (h : Hd) => (((AH.Dy e b).length : Int) - k).toNat) (fun (k : Int) (x : Aq) (p : Option Addr) (h : Hd) => [(65, .int .i64 k)]) (fun (k : Int) (x : Aq) (p : Option Addr) (h : Hd) => [Ad.own h 5 1 (x.flatMap C8), Ad.box b2 107 (DC.enc ⟨p, h⟩)]) (0) ([]) (none) (⟨none, 0, 0⟩) ?_ rfl rfl (fun k x p h hI1 => ?_)
 · exact ⟨by omega, by omega, rfl, .inl rfl, Hd.S2, rfl⟩
 obtain ⟨hI11, hI12, hI13, hp, hz, hl⟩ := hI1; have hxl := AH.Nr hs h1l h2l (AH.Dy e b) k.toNat; rw [← hI13] at hxl; have hxm : k.toNat * 2000000 ≤ 60000000 := by omega
 refine Gs (Gt (A6 rfl rfl) (AO (AA (Ap ?_))))
 refine Gc (fun c3 => ?_) (fun c3 => ?_)
 ·
  have c3p := kz c3
  refine Aa ?_
  refine AB (.t7 2 8 9 10 11 64 65) ?_
  refine AA (Ap (Ae (Gs (Gm rfl (Ga rfl (Gn (.t8 2 8 9 10 11 12 64 65) (Gs ?_)))))))
  refine Gm rfl (Gm rfl ?_)
  refine Gt (Bg Tryz.underlying9 rfl rfl (by first | omega | (simp only [List.length_cons, List.length_nil]; omega)) (by first | omega | (simp only [List.length_cons, List.length_nil]; omega))) ?_
  refine Ga rfl (Gn (.t9 2 8 9 10 11 12 13 64 65) (Gs (Gm rfl (Gt (Af rfl rfl) (Gm rfl (BU 73 rfl rfl (fun q => AE rfl) (BU 73 rfl rfl (fun q => AE rfl) ?_)))))))
  refine BU 73 rfl rfl (fun q => by have q1 := q; (try simp at q1); exact Ex (cF rfl q) rfl (IntWalk.i64_in _ (by first | omega | (simp only [List.length_cons, List.length_nil]; omega)))) ?_
  refine BU 73 rfl rfl (fun q => by have q1 := q; (try simp at q1); exact Bg Tryz.underlying9 (cF rfl q) (cF rfl q) (by first | omega | (simp only [List.length_cons, List.length_nil]; omega)) (by first | omega | (simp only [List.length_cons, List.length_nil]; omega))) ?_
  refine BU 73 rfl rfl (fun q => Af (cF rfl q) rfl) ?_
  refine Gt (BP rfl rfl (fun h => by rw [h]; rfl)) ?_
  refine Gm rfl (Bh 80 rfl rfl (fun q => AE rfl) ?_)
  refine Bh 80 rfl rfl (fun q => by have q1 := q; (try simp at q1); exact As (Bc rfl q) rfl (IntWalk.i64_in _ (by first | omega | (simp only [List.length_cons, List.length_nil]; omega)))) ?_
  refine Bh 80 rfl rfl (fun q => AE rfl) (Bh 80 rfl rfl (fun q => BE rfl Tryz.underlying9 (Bc rfl q)) (Bh 80 rfl rfl (fun q => Af (Bc rfl q) (Bc rfl q)) (Bh 80 rfl rfl (fun q => AE (Bc rfl q)) ?_)))
  refine Cp (t := 86) rfl rfl rfl (fun qc q => AE rfl) ?_
  refine Cp (t := 86) rfl rfl rfl (fun qc q => AE rfl) ?_
  refine Cp (t := 86) rfl rfl rfl (fun qc q => by have q1 := q; have qc1 := qc; (try simp at q1 qc1); exact As (Bc rfl (by rw [qc, q]; rfl)) rfl (IntWalk.i64_in _ (by first | omega | (simp only [List.length_cons, List.length_nil]; omega)))) ?_
  refine Cp (t := 86) rfl rfl rfl (fun qc q => by have q1 := q; have qc1 := qc; (try simp at q1 qc1); exact Bg Tryz.underlying9 (Bc rfl (by rw [qc, q]; rfl)) (Bc rfl (by rw [qc, q]; rfl)) (by first | omega | (simp only [List.length_cons, List.length_nil]; omega)) (by first | omega | (simp only [List.length_cons, List.length_nil]; omega))) ?_
  refine Cp (t := 86) rfl rfl rfl (fun qc q => Af (Bc rfl (by rw [qc, q]; rfl)) rfl) ?_
  refine Bh 80 rfl rfl (fun q => BP (Bc rfl q) rfl (fun h => by rw [q, h]; rfl)) ?_
  refine Bh 80 rfl rfl (fun q => AE (Bc rfl q)) ?_
  refine Cp (t := 93) rfl rfl rfl (fun qc q => AE rfl) ?_
  refine Cp (t := 93) rfl rfl rfl (fun qc q => AE rfl) ?_
  refine Cp (t := 93) rfl rfl rfl (fun qc q => by have q1 := q; have qc1 := qc; (try simp at q1 qc1); exact As (Bc rfl (by rw [qc, q]; rfl)) rfl (IntWalk.i64_in _ (by first | omega | (simp only [List.length_cons, List.length_nil]; omega)))) ?_
  refine Cp (t := 93) rfl rfl rfl (fun qc q => by have q1 := q; have qc1 := qc; (try simp at q1 qc1); exact Bg Tryz.underlying9 (Bc rfl (by rw [qc, q]; rfl)) (Bc rfl (by rw [qc, q]; rfl)) (by first | omega | (simp only [List.length_cons, List.length_nil]; omega)) (by first | omega | (simp only [List.length_cons, List.length_nil]; omega))) ?_
  refine Cp (t := 93) rfl rfl rfl (fun qc q => Af (Bc rfl (by rw [qc, q]; rfl)) rfl) ?_
  refine Bh 80 rfl rfl (fun q => BP (Bc rfl q) rfl (fun h => by rw [q, h]; rfl)) ?_
  refine Gt (BI rfl rfl (fun h => h)) (Ga rfl (Gn (.t9 2 8 9 10 11 13 14 64 65) (Ae (Gs (Gm rfl (Gt (BS rfl) (Ga rfl ?_)))))))
  refine Gn (.t9 2 8 9 10 11 13 64 65 103) ?_
  refine Gc (fun c4 => ?_) (fun c4 => ?_)
  ·
   have c4p := kz c4
   refine AI (Gm rfl ?_)
   refine Ah rfl Wg (.c rfl (.c rfl .n)) (.c (.t .h) (.c .h .n)) (CU _ _ _ _ (by assumption) (by assumption) (by assumption) _ (by omega)) (fun v1 B hv => ?_)
   obtain ⟨y2, y3, rfl, y4, y5, y6, rfl⟩ := hv
   refine AO (AB (.t7 2 8 9 10 11 64 65) ?_)
   refine AT (AT (AA (AI ?_)))
   refine Gt (As rfl rfl (IntWalk.i64_in _ (by first | omega | (simp only [List.length_cons, List.length_nil]; omega)))) ?_
   refine Gm rfl ?_
   refine AO (AB (.t7 2 8 9 10 11 64 65) ?_)
   refine CP (.c (.t .h) (.c .h (.c .h .n))) ?_
   refine CZ ?_
   refine Cu (k + 1) _ _ _ ?_ ?_ (.t7 65 2 8 9 10 11 64) (.refl _)
   · exact ⟨by omega, by omega, by rw [AH.E5 hI11, ← hI13, show AH.piece e (AH.Hp e b) (AH.FZ e b) (AH.Dy e b) k = _ from (A9 c4)], by assumption, by assumption, by assumption⟩
   · omega
  have c4p := kz c4
  refine Gs (Gm rfl (Gt (Af rfl rfl) (Ga rfl (Gn (.t9 2 8 9 10 11 13 64 65 108) ?_))))
  refine Gc (fun c5 => ?_) (fun c5 => ?_)
  ·
   have c5p := kz c5
   refine AI (Gm rfl ?_)
   refine Ah rfl N5 (.c rfl (.c rfl .n)) (.c (.t .h) (.c .h .n)) (BH _ _ _ _ (by assumption) (by assumption) (by assumption) _ (by omega)) (fun v7 B hv => ?_)
   obtain ⟨y8, y9, rfl, y10, y11, y12, rfl⟩ := hv
   refine AO (AB (.t7 2 8 9 10 11 64 65) ?_)
   refine AT (AT (AA (AI ?_)))
   refine Gt (As rfl rfl (IntWalk.i64_in _ (by first | omega | (simp only [List.length_cons, List.length_nil]; omega)))) ?_
   refine Gm rfl ?_
   refine AO (AB (.t7 2 8 9 10 11 64 65) ?_)
   refine CP (.c (.t .h) (.c .h (.c .h .n))) ?_
   refine CZ ?_
   refine Cu (k + 1) _ _ _ ?_ ?_ (.t7 65 2 8 9 10 11 64) (.refl _)
   · exact ⟨by omega, by omega, by rw [AH.E5 hI11, ← hI13, show AH.piece e (AH.Hp e b) (AH.FZ e b) (AH.Dy e b) k = _ from ((AU c4).trans (A9 c5))], by assumption, by assumption, by assumption⟩
   · omega
  have c5p := kz c5
  refine Gs (Gm rfl (Gt (Af rfl rfl) (Ga rfl (Gn (.t9 2 8 9 10 11 13 64 65 113) ?_))))
  refine Gc (fun c6 => ?_) (fun c6 => ?_)
  ·
   have c6p := kz c6
   refine AI (Gm rfl ?_)
   refine Ah rfl N5 (.c rfl (.c rfl .n)) (.c (.t .h) (.c .h .n)) (BH _ _ _ _ (by assumption) (by assumption) (by assumption) _ (by omega)) (fun v13 B hv => ?_)
   obtain ⟨y14, y15, rfl, y16, y17, y18, rfl⟩ := hv
   refine AO (AB (.t7 2 8 9 10 11 64 65) ?_)
   refine AT (AT (AA (AI ?_)))
   refine Gt (As rfl rfl (IntWalk.i64_in _ (by first | omega | (simp only [List.length_cons, List.length_nil]; omega)))) ?_
   refine Gm rfl ?_
   refine AO (AB (.t7 2 8 9 10 11 64 65) ?_)
   refine CP (.c (.t .h) (.c .h (.c .h .n))) ?_
   refine CZ ?_
   refine Cu (k + 1) _ _ _ ?_ ?_ (.t7 65 2 8 9 10 11 64) (.refl _)
   · exact ⟨by omega, by omega, by rw [AH.E5 hI11, ← hI13, show AH.piece e (AH.Hp e b) (AH.FZ e b) (AH.Dy e b) k = _ from ((AU c4).trans ((AU c5).trans (A9 c6)))], by assumption, by assumption, by assumption⟩
   · omega
  have c6p := kz c6
  refine Gs (Gm rfl (Gt (Af rfl rfl) (Ga rfl (Gn (.t9 2 8 9 10 11 13 64 65 118) ?_))))
  refine Gc (fun c7 => ?_) (fun c7 => ?_)
  ·
   have c7p := kz c7
   refine AI (Gt (Ai X0 rfl) (Gt (AG rfl CN .m2 Ing.Event.l8 rfl rfl) ?_))
   refine Ah rfl N5 (.c rfl (.c rfl .n)) (.c (.t .h) (.c .h .n)) (BH _ _ _ _ (by assumption) (by assumption) (by assumption) _ (by omega)) (fun v19 B hv => ?_)
   obtain ⟨y20, y21, rfl, y22, y23, y24, rfl⟩ := hv
   refine AO (AB (.t7 2 8 9 10 11 64 65) ?_)
   refine AT (AT (AA (AI ?_)))
   refine Gt (As rfl rfl (IntWalk.i64_in _ (by first | omega | (simp only [List.length_cons, List.length_nil]; omega)))) ?_
   refine Gm rfl ?_
   refine AO (AB (.t7 2 8 9 10 11 64 65) ?_)
   refine CP (.c (.t .h) (.c .h (.c .h .n))) ?_
   refine CZ ?_
   refine Cu (k + 1) _ _ _ ?_ ?_ (.t7 65 2 8 9 10 11 64) (.refl _)
   · exact ⟨by omega, by omega, by rw [AH.E5 hI11, ← hI13, show AH.piece e (AH.Hp e b) (AH.FZ e b) (AH.Dy e b) k = _ from ((AU c4).trans ((AU c5).trans ((AU c6).trans (A9 c7))))], by assumption, by assumption, by assumption⟩
   · omega
  have c7p := kz c7
  refine Gs (Gm rfl (Gt (Af rfl rfl) (Ga rfl (Gn (.t9 2 8 9 10 11 13 64 65 124) ?_))))
  refine Gc (fun c8 => ?_) (fun c8 => ?_)
  ·
   have c8p := kz c8
   refine AI (Gt (Ai YQ rfl) (Gt (AG rfl A2 .m2 Ing.Event.l4 rfl rfl) ?_))
   refine A7 rfl Zp (.c rfl .n) (fun w hS => HJ _ w (gl1.st hS)) ?_
   refine Ah rfl N5 (.c rfl (.c rfl .n)) (.c (.t .h) (.c .h .n)) (BH _ _ _ _ (by assumption) (by assumption) (by assumption) _ (by omega)) (fun v25 B hv => ?_)
   obtain ⟨y26, y27, rfl, y28, y29, y30, rfl⟩ := hv
   refine AO (AB (.t7 2 8 9 10 11 64 65) ?_)
   refine AT (AT (AA (AI ?_)))
   refine Gt (As rfl rfl (IntWalk.i64_in _ (by first | omega | (simp only [List.length_cons, List.length_nil]; omega)))) ?_
   refine Gm rfl ?_
   refine AO (AB (.t7 2 8 9 10 11 64 65) ?_)
   refine CP (.c (.t .h) (.c .h (.c .h .n))) ?_
   refine CZ ?_
   refine Cu (k + 1) _ _ _ ?_ ?_ (.t7 65 2 8 9 10 11 64) (.refl _)
   · exact ⟨by omega, by omega, by rw [AH.E5 hI11, ← hI13, show AH.piece e (AH.Hp e b) (AH.FZ e b) (AH.Dy e b) k = _ from ((AU c4).trans ((AU c5).trans ((AU c6).trans ((AU c7).trans (A9 c8)))))], by assumption, by assumption, by assumption⟩
   · omega
  have c8p := kz c8
  refine Gs (Gm rfl (Gt (Af rfl rfl) (Ga rfl (Gn (.t9 2 8 9 10 11 13 64 65 131) ?_))))
  refine Gc (fun c9 => ?_) (fun c9 => ?_)
  ·
   have c9p := kz c9
   refine AI (Gt (Ai YL rfl) (Gt (AG rfl CN .m2 Ing.Event.l9 rfl rfl) ?_))
   refine Ah rfl N5 (.c rfl (.c rfl .n)) (.c (.t .h) (.c .h .n)) (BH _ _ _ _ (by assumption) (by assumption) (by assumption) _ (by omega)) (fun v31 B hv => ?_)
   obtain ⟨y32, y33, rfl, y34, y35, y36, rfl⟩ := hv
   refine AO (AB (.t7 2 8 9 10 11 64 65) ?_)
   refine AT (AT (AA (AI ?_)))
   refine Gt (As rfl rfl (IntWalk.i64_in _ (by first | omega | (simp only [List.length_cons, List.length_nil]; omega)))) ?_
   refine Gm rfl ?_
   refine AO (AB (.t7 2 8 9 10 11 64 65) ?_)
   refine CP (.c (.t .h) (.c .h (.c .h .n))) ?_
   refine CZ ?_
   refine Cu (k + 1) _ _ _ ?_ ?_ (.t7 65 2 8 9 10 11 64) (.refl _)
   · exact ⟨by omega, by omega, by rw [AH.E5 hI11, ← hI13, show AH.piece e (AH.Hp e b) (AH.FZ e b) (AH.Dy e b) k = _ from ((AU c4).trans ((AU c5).trans ((AU c6).trans ((AU c7).trans ((AU c8).trans (A9 c9))))))], by assumption, by assumption, by assumption⟩
   · omega
  have c9p := kz c9
  refine Gs (Gm rfl (Gt (Af rfl rfl) (Ga rfl (Gn (.t9 2 8 9 10 11 13 64 65 137) ?_))))
  refine Gc (fun c10 => ?_) (fun c10 => ?_)
  ·
   have c10p := kz c10
   refine AI (Gt (Ai Xv rfl) (Gt (AG rfl A2 .m2 Ing.Event.l5 rfl rfl) ?_))
   refine A7 rfl aO (.c rfl .n) (fun w hS => Kd _ hs.n0 hs.n1 w (gl0.st hS)) ?_
   refine Ah rfl N5 (.c rfl (.c rfl .n)) (.c (.t .h) (.c .h .n)) (BH _ _ _ _ (by assumption) (by assumption) (by assumption) _ (by omega)) (fun v37 B hv => ?_)
   obtain ⟨y38, y39, rfl, y40, y41, y42, rfl⟩ := hv
   refine AO (AB (.t7 2 8 9 10 11 64 65) ?_)
   refine AT (AT (AA (AI ?_)))
   refine Gt (As rfl rfl (IntWalk.i64_in _ (by first | omega | (simp only [List.length_cons, List.length_nil]; omega)))) ?_
   refine Gm rfl ?_
   refine AO (AB (.t7 2 8 9 10 11 64 65) ?_)
   refine CP (.c (.t .h) (.c .h (.c .h .n))) ?_
   refine CZ ?_
   refine Cu (k + 1) _ _ _ ?_ ?_ (.t7 65 2 8 9 10 11 64) (.refl _)
   · exact ⟨by omega, by omega, by rw [AH.E5 hI11, ← hI13, show AH.piece e (AH.Hp e b) (AH.FZ e b) (AH.Dy e b) k = _ from ((AU c4).trans ((AU c5).trans ((AU c6).trans ((AU c7).trans ((AU c8).trans ((AU c9).trans (A9 c10)))))))], by assumption, by assumption, by assumption⟩
   · omega
  have c10p := kz c10
  refine AI (Gm rfl ?_)
  refine Ah rfl Wg (.c rfl (.c rfl .n)) (.c (.t .h) (.c .h .n)) (CU _ _ _ _ (by assumption) (by assumption) (by assumption) _ (by omega)) (fun v43 B hv => ?_)
  obtain ⟨y44, y45, rfl, y46, y47, y48, rfl⟩ := hv
  refine AO (AB (.t7 2 8 9 10 11 64 65) ?_)
  refine AT (AT (AA (AI ?_)))
  refine Gt (As rfl rfl (IntWalk.i64_in _ (by first | omega | (simp only [List.length_cons, List.length_nil]; omega)))) ?_
  refine Gm rfl ?_
  refine AO (AB (.t7 2 8 9 10 11 64 65) ?_)
  refine CP (.c (.t .h) (.c .h (.c .h .n))) ?_
  refine CZ ?_
  refine Cu (k + 1) _ _ _ ?_ ?_ (.t7 65 2 8 9 10 11 64) (.refl _)
  · exact ⟨by omega, by omega, by rw [AH.E5 hI11, ← hI13, show AH.piece e (AH.Hp e b) (AH.FZ e b) (AH.Dy e b) k = _ from ((AU c4).trans ((AU c5).trans ((AU c6).trans ((AU c7).trans ((AU c8).trans ((AU c9).trans (AU c10)))))))], by assumption, by assumption, by assumption⟩
  · omega
 have c3p := kz c3
 obtain rfl : k = ((AH.Dy e b).length : Int) := by omega
 refine BX (AW (AW (Ag ?_)))
 refine AB (.t1 11) ?_
 refine AA (Gs ?_)
 refine Ah rfl Wc (.c rfl .n) (.c (.t .h) (.c .h .n)) (Ch _ _ _ _ (by assumption) (by assumption) (by omega)) (fun v49 B hv => ?_)
 obtain ⟨rfl, rfl⟩ := hv
 refine Ga rfl (Ga rfl (Gn (.t2 4 5) (Ab ?_)))
 refine AY rfl (.tmp rfl (.tmp rfl .n)) ?_
 intro w1 hS; refine ⟨?_, hS.Aj⟩; rw [show AH.tell e b = _ from (AU c1).trans (AU c2), hI13]; rfl
theorem GD (p : Aw) (w : World) : EL Tryz.prog 44 #[.agg p.enc.toArray] w fun v w' => v = .bool (Page.Bq p) ∧ B4 w w' := by
 refine Am [] [] Tryz.func44 rfl rfl rfl (St.start w []) ?_
 refine Gs ?_
 refine B3 rfl rfl rfl (fun b1 => ?_)
 refine Ga rfl (Gn (.t1 1) (Gs (Gt (Ai I6 rfl) (Gt (AG rfl FQ .m0 Aw.l0 rfl rfl) (Gt (Ao rfl Tryz.underlying52 rfl) (Gt (HS rfl rfl) (Gm rfl ?_)))))))
 refine Bh 7 rfl rfl (fun q => Ai JL rfl) (Bh 7 rfl rfl (fun q => AG (Bc rfl q) CN .m0 Aw.l3 rfl rfl) (Bh 7 rfl rfl (fun q => BE rfl Tryz.underlying9 (Bc rfl q)) (Bh 7 rfl rfl (fun q => HS (Bc rfl q) rfl) (Gt (BI rfl rfl (fun h => h)) (Gm rfl (Bh 13 rfl rfl (fun q => Ai LC rfl) (Bh 13 rfl rfl (fun q => AG (Bc rfl q) A2 .m0 Aw.l1 rfl rfl) ?_)))))))
 refine Bh 13 rfl rfl (fun q => CL (Bc rfl q) rfl) (Gt (BI rfl rfl (fun h => h)) (Gm rfl (Bh 18 rfl rfl (fun q => Ai LC rfl) (Bh 18 rfl rfl (fun q => AG (Bc rfl q) A2 .m0 Aw.l1 rfl rfl) (Bh 18 rfl rfl (fun q => HS (Bc rfl q) rfl) (Gt (BI rfl rfl (fun h => h)) (Ga rfl ?_)))))))
 refine Gn (.t1 2) (Ab ?_)
 refine AY rfl (.tmp rfl .n) ?_
 intro w1 hS; refine ⟨congrArg Value.bool ?_, hS.Aj⟩; rfl
theorem L2 {t0 : Nat} (p : Aw) (qs : List Aq) (s : Aq) : Ew Tryz.prog 82 #[.agg p.enc.toArray, BQ s] [] (fun w => Rd w p.wait t0 1 (qs.flatMap A4)) (fun v B => (Page.Bq p = false ∧ v = .tuple #[.agg p.enc.toArray, .int .i64 2] ∧ B = []) ∨ (Page.Bq p = true ∧ p.cut = true ∧ v = .tuple #[.agg p.enc.toArray, .int .i64 6] ∧ B = []) ∨ (Page.Bq p = true ∧ p.cut = false ∧ 60 ≤ qs.length ∧ v = .tuple #[.agg (Aw.enc ⟨p.wait, p.shown, p.CA, p.ring, true⟩).toArray, .int .i64 0] ∧ B = []) ∨ (Page.Bq p = true ∧ p.cut = false ∧ qs.length < 60 ∧ ∃ h' : Hd, v = .tuple #[.agg (Aw.enc ⟨h', p.shown, p.CA, p.ring, p.cut⟩).toArray, .int .i64 0] ∧ h'.len = qs.length + 1 ∧ B = [Ad.own h' 9 1 ((qs ++ [s]).flatMap A4)])) := by
 intro w hS0 hH
 have r0 := hH
 have hl := r0.K1 DB (by decide)
 refine Am _ _ Tryz.func82 rfl rfl rfl (hS0) ?_
 refine Gs ?_
 refine B3 rfl rfl rfl (fun b1 => ?_)
 refine BF rfl VK rfl (fun b2 => ?_)
 refine Ga rfl (Gn (.t3 1 2 4) (Ap (Ae (Gs (Gt (AZ rfl Cn .m1 (AS.id Aw.fl.len Aw.fl.one) rfl) ?_)))))
 refine A7 rfl X3 (.c rfl .n) (fun w hS => GD _ w) ?_
 refine Gt (BS rfl) (Ga rfl (Gn (.t4 1 2 4 6) ?_))
 refine Gc (fun c1 => ?_) (fun c1 => ?_)
 ·
  refine Gs (Gt (AZ rfl Cn .m1 (AS.id Aw.fl.len Aw.fl.one) rfl) ?_)
  refine AR (AJ (AS.id Aw.fl.len Aw.fl.one) rfl rfl rfl FC rfl .h) ?_
  refine Ga rfl (Gn (.t2 4 5) (Ab (AP (AD ?_))))
  refine AY rfl (.cell rfl .m0 (.inl ⟨(by rw [Aw.fl.len]; exact Cn), rfl⟩) (.tmp rfl .n)) ?_
  intro w1 hS
  have hS := (hS.perm (Av.perm .n)).Az
  exact ⟨_, .inl ⟨by simpa using c1, rfl, rfl⟩, hS⟩
 have c1p := kz c1
 have hgd : Page.Bq p = true := by simpa using c1
 have hg := (Page.Gx p).1 hgd
 refine Gs (Gt (Ai J8 rfl) (Gt (AG rfl DV .m1 Aw.l4 rfl rfl) (Ga rfl (Gn (.t4 1 2 4 11) ?_))))
 refine Gc (fun c2 => ?_) (fun c2 => ?_)
 ·
  refine Gs (Gt (AZ rfl Cn .m1 (AS.id Aw.fl.len Aw.fl.one) rfl) ?_)
  refine AR (AJ (AS.id Aw.fl.len Aw.fl.one) rfl rfl rfl FC rfl .h) ?_
  refine Ga rfl (Gn (.t2 4 5) (Ab (AP (AD ?_))))
  refine AY rfl (.cell rfl .m0 (.inl ⟨(by rw [Aw.fl.len]; exact Cn), rfl⟩) (.tmp rfl .n)) ?_
  intro w1 hS
  have hS := (hS.perm (Av.perm .n)).Az
  exact ⟨_, .inr (.inl ⟨hgd, c2, rfl, rfl⟩), hS⟩
 have c2p := kz c2
 refine Gs (Gt (Ai I6 rfl) (Gt (AG rfl FQ .m1 Aw.l0 rfl rfl) (Gt (Ao rfl Tryz.underlying52 rfl) (Gt (CL rfl rfl) (Ga rfl (Gn (.t4 1 2 4 15) ?_))))))
 refine Gc (fun c3 => ?_) (fun c3 => ?_)
 ·
  have c3p := kz c3
  refine Gs (Gt (Ai J8 rfl) ?_)
  refine AR (AJ Aw.l4 rfl rfl rfl Jf rfl (.t .h)) ?_
  refine Gn (.t2 2 4) (Gs (Gt (AZ rfl Cn .m1 (AS.id Aw.fl.len Aw.fl.one) rfl) ?_))
  refine AR (AJ (AS.id Aw.fl.len Aw.fl.one) rfl rfl rfl FC rfl .h) ?_
  refine Ga rfl (Gn (.t2 4 5) (Ab (AP (AD ?_))))
  refine AY rfl (.cell rfl .m0 (.inl ⟨(by rw [Aw.fl.len]; exact Cn), rfl⟩) (.tmp rfl .n)) ?_
  intro w1 hS
  have hS := (hS.perm (Av.perm .n)).Az
  exact ⟨_, .inr (.inr (.inl ⟨hgd, by simpa using c2, by simp at c3; omega, rfl, rfl⟩)), hS⟩
 have c3p := kz c3
 refine Aa ?_
 refine AB (.t3 1 2 4) ?_
 refine AT (AA (Gs (Gt (Ai I6 rfl) (Gt (AG rfl FQ .m1 Aw.l0 rfl rfl) ?_))))
 refine BC rfl UQ (.c rfl .n) .n (Bu _ _ (by first | assumption | omega)) (fun w hS => (Kn.Hb r0) w hS) (fun v1 B hv => ?_)
 obtain ⟨y2, rfl, y3, rfl⟩ := hv
 refine Gm rfl ?_
 refine Eu A4 DB rfl Tryz.underlying52 Ei Rg rfl (by decide) (by decide) rfl rfl (fun b3 => ?_)
 refine CO DB rfl Tryz.underlying52 Ei Rg rfl XP (by decide) (by decide) rfl rfl (fun w hS => Src.DU Tryz.underlying52 ((Kn.own .m0) w hS)) (by (try dsimp only); omega) (fun _ => (.t .h)) (fun h5 h5l h5z => ?_)
 refine Gt (Ai I6 rfl) ?_
 refine AR (AJ Aw.l0 rfl rfl rfl M3 rfl (.t (.t (.t .h)))) ?_
 refine Gn (.t2 2 4) (Gs (Gt (AZ rfl Cn .m3 (AS.id Aw.fl.len Aw.fl.one) rfl) ?_))
 refine AR (AJ (AS.id Aw.fl.len Aw.fl.one) rfl rfl rfl FC rfl (.t (.t .h))) ?_
 refine Ga rfl (Gn (.t2 4 5) (Ab ?_))
 refine AY rfl (.cell rfl .m2 (.inl ⟨(by rw [Aw.fl.len]; exact Cn), rfl⟩) (.tmp rfl .n)) ?_
 intro w1 hS
 have hS := (hS.perm (Av.perm (.c (.t .h) .n))).Az
 exact ⟨_, .inr (.inr (.inr ⟨hgd, by simpa using c2, by simp at c3; omega, _, rfl, by (try dsimp only at *); (try simp only [List.length_cons, List.length_nil] at *); omega, rfl⟩)), hS⟩
theorem D0 (b : Nat) (V : AM) (ls : Vector BG 4) (ev : List Ing.Event) (k : Int) (u : Aq) (hk : 0 ≤ k ∧ k < 4) (ht : (ls.at k).told.length ≤ 1000000) : JU Tryz.prog 64 #[.pointer (some ⟨b, 0, none⟩), .pointer (some ⟨b, 165 + k.toNat * 22, none⟩), BQ u] [Ad.box b 101 (AM.enc V), Ad.Ds (CI 9 (AM.Ax V) ls), Ad.own (AM.last V) 56 16 ((ev).flatMap Ing.Event.enc)] (fun v B => ∃ V' ls' ev', v = .tuple #[] ∧ A3 V' ls' ev' = AL.tell (A3 V ls ev) k u ∧ B = [Ad.box b 101 (AM.enc V'), Ad.Ds (CI 9 (AM.Ax V') ls'), Ad.own (AM.last V') 56 16 ((ev').flatMap Ing.Event.enc)]) := by
 intro w hS0
 refine Am _ _ Tryz.func64 rfl rfl rfl (hS0) ?_
 refine FK (k := k) hk.1 hk.2 (fun sv sl hsv hlv hln => ?_)
 refine BZ (.t (.t (.t .h))) ?_
 refine BZ (.t (.t .h)) ?_
 refine Wf (Lm := [_, _]) (fun (o : Aw) (w0 : Hd) (ws : List Aq) => Cb { sv with out := o } ⟨sl.queue, ws, sl.told⟩ = (Cb sv sl).line u ∧ o.wait = w0) (fun (o : Aw) (w0 : Hd) (ws : List Aq) => []) (fun (o : Aw) (w0 : Hd) (ws : List Aq) => [Ad.own w0 9 1 (ws.flatMap A4), Ad.box b 101 (Iz V k { sv with out := o })]) (.t2 1 2) rfl ?_ (fun o w0 ws hC => ?_)
 ·
  refine AI (Gm rfl (Gm rfl (Gt (BR rfl) (Gt (Ai Df rfl) (Gt (AZ rfl Cn .m1 ((AS.BM V hk.1 hk.2).comp A0.l4) rfl) (Gm rfl ?_))))))
  refine BC rfl ai (.c rfl (.c rfl .n)) .n (L2 _ _ _) (fun w hS => (Kn.own .m0) w hS) (fun v1 B hv => ?_)
  rcases hv with ⟨y2, rfl, rfl⟩ | ⟨y3, y4, rfl, rfl⟩ | ⟨y5, y6, y7, rfl, rfl⟩ | ⟨y8, y9, y10, y11, rfl, y12, rfl⟩
  ·
   refine Gm rfl (Gt (AK rfl rfl) (Gt (AK rfl rfl) (Gt (BR rfl) (Gt (Ai Df rfl) ?_))))
   refine AR (AJ ((AS.BM V hk.1 hk.2).comp A0.l4) rfl rfl rfl FC rfl (.t .h)) ?_
   refine AO (AB (.t2 1 2) ?_)
   refine MG _ _ _ ?_ (.t2 1 2) (.refl _)
   · exact ⟨(WC hln.2.1 y2).symm, rfl⟩
  ·
   refine Gm rfl (Gt (AK rfl rfl) (Gt (AK rfl rfl) (Gt (BR rfl) (Gt (Ai Df rfl) ?_))))
   refine AR (AJ ((AS.BM V hk.1 hk.2).comp A0.l4) rfl rfl rfl FC rfl (.t .h)) ?_
   refine AO (AB (.t2 1 2) ?_)
   refine MG _ _ _ ?_ (.t2 1 2) (.refl _)
   · exact ⟨(VG hln.2.1 y3 y4).symm, rfl⟩
  ·
   refine Gm rfl (Gt (AK rfl rfl) (Gt (AK rfl rfl) (Gt (BR rfl) (Gt (Ai Df rfl) ?_))))
   refine AR (AJ ((AS.BM V hk.1 hk.2).comp A0.l4) rfl rfl rfl FC rfl (.t .h)) ?_
   refine AO (AB (.t2 1 2) ?_)
   refine MG _ _ _ ?_ (.t2 1 2) (.refl _)
   · exact ⟨(Tc hln.2.1 y5 y6 y7).symm, rfl⟩
  refine Gm rfl (Gt (AK rfl rfl) (Gt (AK rfl rfl) (Gt (BR rfl) (Gt (Ai Df rfl) ?_))))
  refine AR (AJ ((AS.BM V hk.1 hk.2).comp A0.l4) rfl rfl rfl FC rfl (.t (.t .h))) ?_
  refine AO (AB (.t2 1 2) ?_)
  refine CP (.c .h (.c (.t .h) (.c (.t .h) (.c (.t .h) (.c (.t .h) (.c (.t .h) .n)))))) ?_
  refine CZ ?_
  refine MG _ _ _ ?_ (.t2 1 2) (.refl _)
  · exact ⟨(Tm hln.2.1 y8 y9 y10 _).symm, rfl⟩
 obtain ⟨hE1, hE2⟩ := hC
 have ht2 : sl.told.length ≤ 1000000 := by rw [← hlv]; exact ht
 refine Gs (Gm rfl (Gt (BR rfl) (Gt (Ai Df rfl) (Gt (Ai J8 rfl) (Gt (AG rfl DV .m1 (((AS.BM V hk.1 hk.2).comp A0.l4).comp Aw.l4) rfl rfl) (Gt (BS rfl) (Gn (.t3 1 2 23) ?_)))))))
 refine Gc (fun c1 => ?_) (fun c1 => ?_)
 ·
  have c1p := kz c1
  refine AI (Gm rfl (Gm rfl (Gt (BR rfl) (Gt (Ai Ps rfl) (Gt (AG rfl FQ .m1 ((AS.BM V hk.1 hk.2).comp A0.l5) rfl rfl) (Gm rfl ?_))))))
  refine Eu A4 DB rfl Tryz.underlying52 Ei Rg rfl (by decide) (by decide) rfl rfl (fun b1 => ?_)
  refine CO DB rfl Tryz.underlying52 Ei Rg rfl XP (by decide) (by decide) rfl rfl (fun w hS => Src.DU Tryz.underlying52 ((Kn.own .m0) w hS)) (by (try dsimp only); omega) (fun _ => (.t (.t (.t (.t .h))))) (fun h14 h14l h14z => ?_)
  refine Gt (BR rfl) (Gt (Ai Ps rfl) ?_)
  refine AR (AJ ((AS.BM V hk.1 hk.2).comp A0.l5) rfl rfl rfl M3 rfl (.t (.t .h))) ?_
  refine AO ?_
  refine Be rfl .n ?_
  intro w1 hS
  have hS := (hS.perm (Av.perm (.c (.t (.t (.t .h))) (.c (.t .h) (.c (.t (.t .h)) (.c (.t .h) (.c (.t .h) (.c (.t .h) .n)))))))).Az
  have hS := hS.close' hk.1 hk.2 (by rfl) (by exact hE2) (by rfl)
  refine ⟨_, ⟨V.BM k _, ls.put k ⟨_, _, _⟩, ev, rfl, ?ga1, rfl⟩, hS⟩
  case ga1 => exact EN hk.1 hk.2 hsv hlv (f := fun x => x.tell u) (by show _ = ((Cb sv sl).line u).note u; rw [← hE1]; exact (YX (l := ⟨sl.queue, ws, sl.told⟩) c1 _).symm)
 refine Aa ?_
 refine Be rfl .n ?_
 intro w1 hS
 have hS := (hS.perm (Av.perm (.c (.t (.t .h)) (.c .h (.c (.t .h) (.c .h (.c .h (.c .h .n)))))))).Az
 have hS := hS.close' hk.1 hk.2 (by rfl) (by exact hE2) (by rfl)
 refine ⟨_, ⟨V.BM k _, ls.put k ⟨_, _, _⟩, ev, rfl, ?ga2, rfl⟩, hS⟩
 case ga2 => exact EN hk.1 hk.2 hsv hlv (f := fun x => x.tell u) (by show _ = ((Cb sv sl).line u).note u; rw [← hE1]; exact (YO (l := ⟨sl.queue, ws, sl.told⟩) c1).symm)
theorem Ea (b : Nat) (V : AM) (ls : Vector BG 4) (ev : List Ing.Event) (f : Hd) (es : List Ing.Event) (n : Nat) (hf : f.len = es.length) (hn : Vd ls n) (hm : n + es.length ≤ 1000000) (hl : ev.length ≤ 1000000) (he : (∀ e ∈ es, ∀ c : Int, (decide (c < 0) || decide (6 ≤ c) || decide (AH.QH (e.G0.at c) 1 = 0)) = false → AH.Small e)) : Ew Tryz.prog 79 #[.pointer (some ⟨b, 0, none⟩), f.val] [Ad.box b 101 (AM.enc V), Ad.Ds (CI 9 (AM.Ax V) ls), Ad.own (AM.last V) 56 16 ((ev).flatMap Ing.Event.enc), Ad.own f 56 16 (es.flatMap Ing.Event.enc)] (fun w => (GV 2 FL w ∧ 2 ∉ CW [Ad.box b 101 (AM.enc V), Ad.Ds (CI 9 (AM.Ax V) ls), Ad.own (AM.last V) 56 16 ((ev).flatMap Ing.Event.enc), Ad.own f 56 16 (es.flatMap Ing.Event.enc)]) ∧ (GV 0 AH.C0 w ∧ 0 ∉ CW [Ad.box b 101 (AM.enc V), Ad.Ds (CI 9 (AM.Ax V) ls), Ad.own (AM.last V) 56 16 ((ev).flatMap Ing.Event.enc), Ad.own f 56 16 (es.flatMap Ing.Event.enc)])) (fun v B => ∃ V' ls' ev', v = .tuple #[] ∧ A3 V' ls' ev' = AL.G6 (A3 V ls ev) es ∧ B = [Ad.box b 101 (AM.enc V'), Ad.Ds (CI 9 (AM.Ax V') ls'), Ad.own (AM.last V') 56 16 ((ev').flatMap Ing.Event.enc), Ad.own f 56 16 (es.flatMap Ing.Event.enc)]) := by
 intro w hS0 hH
 obtain ⟨⟨gl0, gm0⟩, ⟨gl1, gm1⟩⟩ := hH
 refine Am _ _ Tryz.func79 rfl rfl rfl (hS0) ?_
 refine Ap ?_
 refine YH (fun w hS => (Kn.own .m2 w hS).K1 Ing.Event.fl (by decide)) (fun hLl => ?_)
 refine AI (Gm rfl (Gm rfl (Gt (BR rfl) (Gt (Ai PG rfl) (Gt (AG rfl DT .m0 AM.l3 rfl rfl) (Gm rfl ?_))))))
 refine CO Ing.Event.fl rfl Tryz.underlying53 Mn Hk rfl WR (by decide) (by decide) rfl rfl (fun w hS => Src.DU Tryz.underlying53 ((Kn.own .m3) w hS)) (by (try dsimp only); omega) (fun _ => (.t (.t .h))) (fun h1 h1l h1z => ?_)
 refine Gt (BR rfl) (Gt (Ai PG rfl) ?_)
 refine AR (AJ AM.l3 rfl rfl rfl QB rfl .h) ?_
 refine Gn (.t2 0 1) (Gs (Gm rfl (Gt (Ao rfl Tryz.underlying53 rfl) (Gm rfl (Gn (.t4 0 19 20 21) (Ae ?_))))))
 refine Bl (.t4 21 0 19 20) ?_
 refine BZ (.t (.t .h)) ?_
 refine BZ (.t (.t .h)) ?_
 refine BZ (.t (.t .h)) ?_
 refine Hc (fun (k : Int) (V1 : AM) (ls1 : Vector BG 4) (ev1 : List Ing.Event) => 0 ≤ k ∧ k ≤ (es.length : Int) ∧ A3 V1 ls1 ev1 = ({ (A3 V ls ev) with last := ev ++ es } : AL).IV (es.take k.toNat) ∧ Vd ls1 (n + k.toNat)) (fun (k : Int) (V1 : AM) (ls1 : Vector BG 4) (ev1 : List Ing.Event) => ((es.length : Int) - k).toNat) (fun (k : Int) (V1 : AM) (ls1 : Vector BG 4) (ev1 : List Ing.Event) => [(21, .int .i64 k)]) (fun (k : Int) (V1 : AM) (ls1 : Vector BG 4) (ev1 : List Ing.Event) => [Ad.box b 101 (AM.enc V1), Ad.Ds (CI 9 (AM.Ax V1) ls1), Ad.own (AM.last V1) 56 16 (ev1.flatMap Ing.Event.enc)]) (0) (_) (_) (_) ?_ rfl rfl (fun k V1 ls1 ev1 hI1 => ?_)
 · exact ⟨by omega, by omega, rfl, hn⟩
 obtain ⟨hI11, hI12, hI13, hI14⟩ := hI1
 refine Gs (Gt (A6 rfl rfl) (AO (AA (Ap ?_))))
 refine Gc (fun c1 => ?_) (fun c1 => ?_)
 ·
  have c1p := kz c1
  refine Aa ?_
  refine AB (.t4 0 19 20 21) ?_
  refine AA (Ap (Ae (Gs ?_)))
  refine Gt (Bm aN (by decide) (Kn.own .m3) rfl rfl (by omega) (by omega)) ?_
  refine Gt (LH rfl NG (by decide) Ing.Event.fl (Kn.own .m3) (by omega)) ?_
  refine BF rfl Hk rfl (fun b1 => ?_)
  refine AR (AJ (AS.id Ing.Event.fl.len Ing.Event.fl.one) rfl rfl rfl Mn rfl .h) ?_
  refine Gn (.t5 0 5 19 20 21) (Gs (Gm rfl (AO (AA (Ae ?_)))))
  refine Bl (.t6 25 0 5 19 20 21) ?_
  refine BZ (.t (.t (.t .h))) ?_
  refine BZ (.t (.t (.t .h))) ?_
  refine BZ (.t (.t (.t .h))) ?_
  refine Hc (fun (i : Int) (V2 : AM) (ls2 : Vector BG 4) (ev2 : List Ing.Event) => 0 ≤ i ∧ i ≤ 4 ∧ A3 V2 ls2 ev2 = AL.Ce (es.getD k.toNat default) (A3 V1 ls1 ev1) i.toNat ∧ (∀ j : Int, i ≤ j → j < 4 → (ls2.at j).told.length ≤ n + k.toNat) ∧ (∀ j : Int, 0 ≤ j → j < 4 → (ls2.at j).told.length ≤ n + k.toNat + 1)) (fun (i : Int) (V2 : AM) (ls2 : Vector BG 4) (ev2 : List Ing.Event) => (4 - i).toNat) (fun (i : Int) (V2 : AM) (ls2 : Vector BG 4) (ev2 : List Ing.Event) => [(25, .int .i64 i)]) (fun (i : Int) (V2 : AM) (ls2 : Vector BG 4) (ev2 : List Ing.Event) => [Ad.box b 101 (AM.enc V2), Ad.Ds (CI 9 (AM.Ax V2) ls2), Ad.own (AM.last V2) 56 16 (ev2.flatMap Ing.Event.enc)]) (0) (V1) (ls1) (ev1) ?_ rfl rfl (fun i V2 ls2 ev2 hI2 => ?_)
  · exact ⟨by omega, by omega, rfl, (fun j j0 j1 => hI14 j j0 j1), (fun j j0 j1 => Nat.le_succ_of_le (hI14 j j0 j1))⟩
  obtain ⟨hI21, hI22, hI23, hI24, hI25⟩ := hI2
  refine Gs (Gt (A6 rfl rfl) (AO (AA (Ap ?_))))
  refine Gc (fun c2 => ?_) (fun c2 => ?_)
  ·
   have c2p := kz c2
   refine Aa ?_
   refine AB (.t6 0 5 19 20 21 25) ?_
   refine AA (Ap (Ae (Gs (Gm rfl (Ga rfl (Gn (.t7 0 5 6 19 20 21 25) (Gs ?_)))))))
   refine Gm rfl (Gm rfl (Gt (BR rfl) (Gt (Ai GU rfl) ?_)))
   refine Gt (AQ PW rfl rfl (by omega) (by omega)) ?_
   refine Ga rfl (Gn (.t7 0 5 7 19 20 21 25) (B7 (Gm rfl (Gt (BR rfl) (Gt (Ai H5 rfl) ?_)))))
   refine Gt (AG rfl A2 .m0 ((AM.l1.comp (AS.ar (n := 4) A0.fl (by omega))).comp A0.l0) rfl rfl) ?_
   refine Gt (CK rfl rfl) (Gn (.t8 0 5 7 19 20 21 25 37) ?_)
   refine Gc (fun c3 => ?_) (fun c3 => ?_)
   ·
    have c3p := kz c3
    refine BX (AW (Ag ?_))
    refine AB (.t6 0 5 19 20 21 25) ?_
    refine AA (AI ?_)
    refine Gt (As rfl rfl (IntWalk.i64_in _ (by omega))) ?_
    refine Gm rfl ?_
    refine AO (AB (.t6 0 5 19 20 21 25) ?_)
    refine Cu (i + 1) _ _ _ ?_ ?_ (.t6 25 0 5 19 20 21) (.refl _)
    · exact ⟨by omega, by omega, ((J2 hI21 (by omega) hI23).trans (A9 c3)).symm, (fun j j0 j1 => hI24 j (by omega) j1), hI25⟩
    · omega
   have c3p := kz c3
   refine Aa ?_
   refine AB (.t7 0 5 7 19 20 21 25) ?_
   refine AA (Ap ?_)
   refine BD (N := 11) [0, 0, 2, 6, 14, 31, 63, 127, 127, 255, 1023] mix (by kernel_rfl) rfl ?_
   refine Pf 0 rfl (AZ rfl NG .m3 (AS.id Ing.Event.fl.len Ing.Event.fl.one) rfl) (Pf 1 rfl (AE rfl) (Pf 2 rfl (BR rfl) (Pf 3 rfl (Ai HU rfl) ?_)))
   refine Pf 4 rfl (AG rfl A2 .m0 ((AM.l1.comp (AS.ar (n := 4) A0.fl (by omega))).comp A0.l1) rfl rfl) ?_
   refine BV 5 rfl rfl (by kernel_rfl) (KQ (Jn (Dp aZ (.c rfl (.c rfl .n)) (fun w hS => L6 (es.getD k.toNat default) _ (he _ (Oh (d := default) (xs := es) (i := k.toNat) (by omega)) _) w (gl0.stM gm0 hS) (gl1.stM gm1 hS))))) ?_
   refine Pf 6 rfl (AE rfl) (Pf 7 rfl (AK rfl rfl) (Pf 8 rfl (AK rfl rfl) (Pf 9 rfl (Ay rfl) (Pf 10 rfl (Ay rfl) ?_))))
   refine A1 (by kernel_rfl) ?_
   refine AB (.t9 0 5 7 8 9 19 20 21 25) ?_
   refine AA (Gs (Gm rfl (Gn (.t9 0 5 7 8 19 20 21 25 47) ?_)))
   refine Gc (fun c4 => ?_) (fun c4 => ?_)
   ·
    have c4p := kz c4
    refine AI (Gm rfl (Gm rfl (Gm rfl ?_)))
    refine Ah rfl SM (.c rfl (.c rfl (.c rfl .n))) (.c .h (.c .h (.c .h .n))) (D0 _ V2 ls2 _ i _ (by omega) (Nat.le_trans (hI24 i (by omega) (by omega)) (by omega))) (fun v2 B hv => ?_)
    obtain ⟨y3, y4, y5, rfl, y6, rfl⟩ := hv
    refine AO (AB (.t6 0 5 19 20 21 25) ?_)
    refine AT (AA (AI ?_))
    refine Gt (As rfl rfl (IntWalk.i64_in _ (by omega))) ?_
    refine Gm rfl ?_
    refine AO (AB (.t6 0 5 19 20 21 25) ?_)
    refine Cu (i + 1) _ _ _ ?_ ?_ (.t6 25 0 5 19 20 21) (.refl _)
    · exact ⟨by omega, by omega, y6.trans ((J2 hI21 (by omega) hI23).trans ((AU c3).trans (A9 c4))).symm, (fun j j0 j1 => by have h := hI24 j (by omega) j1; rw [(J5 hI21 (by omega) y6 (by omega) j1).2 (by omega)]; exact h), (fun j j0 j1 => if c : j = i then (by subst c; have h := hI24 j (by omega) j1; have h2 := (J5 hI21 (by omega) y6 j0 j1).1; omega) else (by rw [(J5 hI21 (by omega) y6 j0 j1).2 c]; exact hI25 j j0 j1))⟩
    · omega
   have c4p := kz c4
   refine Aa ?_
   refine AB (.t6 0 5 19 20 21 25) ?_
   refine AT (AA (AI ?_))
   refine Gt (As rfl rfl (IntWalk.i64_in _ (by omega))) ?_
   refine Gm rfl ?_
   refine AO (AB (.t6 0 5 19 20 21 25) ?_)
   refine Cu (i + 1) _ _ _ ?_ ?_ (.t6 25 0 5 19 20 21) (.refl _)
   · exact ⟨by omega, by omega, ((J2 hI21 (by omega) hI23).trans ((AU c3).trans (AU c4))).symm, (fun j j0 j1 => hI24 j (by omega) j1), hI25⟩
   · omega
  have c2p := kz c2
  obtain rfl : i = 4 := by omega
  refine BX (AW (AW (Ag ?_)))
  refine AB (.t4 0 19 20 21) ?_
  refine AT (AA (AI ?_))
  refine Gt (As rfl rfl (IntWalk.i64_in _ (by omega))) ?_
  refine Gm rfl ?_
  refine AO (AB (.t4 0 19 20 21) ?_)
  refine CP (.c .h (.c .h (.c .h (.c (.t .h) .n)))) ?_
  refine CZ ?_
  refine Cu (k + 1) _ _ _ ?_ ?_ (.t4 21 0 19 20) (.refl _)
  · exact ⟨by omega, by omega, by rw [R3 hI11 (by omega), ← hI13]; exact hI23, fun j j0 j1 => by have h := hI25 j j0 j1; rw [show (k + 1).toNat = k.toNat + 1 by omega]; omega⟩
  · omega
 have c1p := kz c1
 obtain rfl : k = (es.length : Int) := by omega
 refine BX (AW (AW (Ag ?_)))
 refine Be rfl .n ?_
 intro w1 hS
 have hS := (hS.perm (Av.perm (.c .h (.c .h (.c .h (.c .h .n)))))).Az
 refine ⟨_, ⟨V1, ls1, ev1, rfl, ?ga, rfl⟩, hS⟩
 case ga => rw [hI13, show (es.length : Int).toNat = es.length by omega, List.take_length]; exact (Vu rfl).symm
theorem P1 (b : Nat) (V : AM) (ls : Vector BG 4) (ev : List Ing.Event) (k : Int) (u : Aq) (n m : Nat) (hk : 0 ≤ k ∧ k < 4) (hF : AL.Fit (A3 V ls ev) n m) (hn : n ≤ 900000) (hm : m ≤ 900000) (hu : u.length ≤ 1000) : Ew Tryz.prog 93 #[.pointer (some ⟨b, 0, none⟩), .pointer (some ⟨b, 165 + k.toNat * 22, none⟩), BQ u] [Ad.box b 101 (AM.enc V), Ad.Ds (CI 9 (AM.Ax V) ls), Ad.own (AM.last V) 56 16 ((ev).flatMap Ing.Event.enc)] (fun w => (GV 2 FL w ∧ 2 ∉ CW [Ad.box b 101 (AM.enc V), Ad.Ds (CI 9 (AM.Ax V) ls), Ad.own (AM.last V) 56 16 ((ev).flatMap Ing.Event.enc)]) ∧ (GV 0 AH.C0 w ∧ 0 ∉ CW [Ad.box b 101 (AM.enc V), Ad.Ds (CI 9 (AM.Ax V) ls), Ad.own (AM.last V) 56 16 ((ev).flatMap Ing.Event.enc)])) (fun v B => ∃ V' ls' ev', v = .tuple #[] ∧ A3 V' ls' ev' = AL.named (A3 V ls ev) k u ∧ B = [Ad.box b 101 (AM.enc V'), Ad.Ds (CI 9 (AM.Ax V') ls'), Ad.own (AM.last V') 56 16 ((ev').flatMap Ing.Event.enc)]) := by
 intro w hS0 hH
 obtain ⟨⟨gl0, gm0⟩, ⟨gl1, gm1⟩⟩ := hH
 have hel := AF.OV V.w u
 have hes := AF.KE (s := u) hF.Gz
 have htn := F6 hF
 refine Am _ _ Tryz.func93 rfl rfl rfl (hS0) ?_
 refine Gs (Gm rfl (Gt (BR rfl) (Gt (Ai D2 rfl) (Gt (AZ rfl BT .m0 AM.l0 rfl) (Gm rfl ?_)))))
 refine BC rfl Y9 (.c rfl (.c rfl .n)) .n (K7 V.w u hF.Gz.Lr (by omega)) (fun w hS => gl1.pull gm1 hS .n) (fun v1 B hv => ?_)
 obtain ⟨y2, rfl, y3, rfl⟩ := hv
 refine Gm rfl (Gt (AK rfl rfl) (Gt (AK rfl rfl) (Gt (AK rfl rfl) (Gt (AK rfl rfl) ?_))))
 refine BF rfl L4 rfl (fun b1 => ?_)
 refine AR (AJ (AS.id AH.fl.len AH.fl.one) rfl rfl rfl Dq rfl .h) ?_
 refine Ga rfl (Ga rfl (Ga rfl (Gn (.t6 0 1 6 7 8 9) (Gs (Gm rfl (Gn (.t6 0 1 6 7 8 21) (Ae ?_)))))))
 refine Gs (Gt (Af rfl rfl) (Ga rfl (Gn (.t7 0 1 6 7 8 21 25) ?_)))
 refine Gc (fun c1 => ?_) (fun c1 => ?_)
 ·
  have c1p := kz c1
  refine Gs (Gm rfl (Gt (AZ rfl BT .m0 (AS.id AH.fl.len AH.fl.one) rfl) (Gt (BR rfl) (Gt (Ai D2 rfl) ?_))))
  refine AR (AJ AM.l0 rfl rfl rfl Dq rfl (.t (.t .h))) ?_
  refine Gn (.t4 0 1 7 8) (Ap ?_)
  refine Eb (.c (.t (.t .h)) (.c (.t (.t .h)) .n)) ?_
  refine FK (k := k) hk.1 hk.2 (fun sv sl hsv hlv hln => ?_)
  refine AI (Gm rfl (Gm rfl (Gm rfl (Gt (BR rfl) (Gt (Ai H5 rfl) ?_)))))
  refine AR (AJ ((AS.BM { V with w := (AF.Bf V.w u).1 } hk.1 hk.2).comp A0.l0) rfl rfl rfl Cy rfl (.t (.t (.t .h)))) ?_
  refine Gt (BR rfl) (Gt (Ai HU rfl) ?_)
  refine AR (AJ ((AS.BM { V with w := (AF.Bf V.w u).1 } hk.1 hk.2).comp A0.l1) rfl rfl rfl Cy rfl (.t (.t (.t .h)))) ?_
  refine Gn (.t2 0 8) ?_
  refine Eb (.c .h (.c .h (.c .h (.c .h (.c .h .n))))) ?_
  refine GP hk.1 hk.2 (by rfl) (by rfl) (by rfl) ?_
  refine AI (Gm rfl (Gm rfl ?_))
  refine BC rfl UT (.c rfl (.c rfl .n)) (.c .h (.c .h (.c (.t (.t .h)) (.c (.t .h) .n)))) (Ea _ (AM.BM { V with w := (AF.Bf V.w u).1 } k { sv with state := 2, A8 := (AF.Bf V.w u).2.1 }) (ls.put k ⟨sl.queue, sl.wait, sl.told⟩) ev _ (AF.Bf V.w u).2.2.1 n (by assumption) (F6 (by rw [(show A3 (AM.BM { V with w := (AF.Bf V.w u).1 } k { sv with state := 2, A8 := (AF.Bf V.w u).2.1 }) (ls.put k ⟨sl.queue, sl.wait, sl.told⟩) ev = ({ (A3 V ls ev) with w := (AF.Bf V.w u).1 } : AL).set k { AL.at_ (A3 V ls ev) k with state := 2, A8 := (AF.Bf V.w u).2.1 } from EN (V := { V with w := (AF.Bf V.w u).1 }) hk.1 hk.2 hsv hlv (f := fun x => { x with state := 2, A8 := (AF.Bf V.w u).2.1 }) rfl)]; exact hF.enters hk.1 hk.2 (of_decide_eq_true c1))) (by omega) (Nat.le_trans hF.last (by omega)) (fun e he c _ => hes.2 e he)) (fun w hS => ⟨gl0.pull gm0 hS (.c .h (.c .h (.c (.t (.t .h)) (.c (.t .h) .n)))), gl1.pull gm1 hS (.c .h (.c .h (.c (.t (.t .h)) (.c (.t .h) .n))))⟩) (fun v5 B hv => ?_)
  obtain ⟨y6, y7, y8, rfl, y9, rfl⟩ := hv
  refine AO (AB (.nil _) ?_)
  refine AT ?_
  refine Be rfl .n ?_
  intro w1 hS
  have hS := (hS.perm (Av.perm (.c .h (.c .h (.c .h .n))))).Az
  refine ⟨_, ⟨y6, y7, y8, rfl, ?ga1, rfl⟩, hS⟩
  case ga1 => exact W5 c1 (show A3 (AM.BM { V with w := (AF.Bf V.w u).1 } k { sv with state := 2, A8 := (AF.Bf V.w u).2.1 }) (ls.put k ⟨sl.queue, sl.wait, sl.told⟩) ev = ({ (A3 V ls ev) with w := (AF.Bf V.w u).1 } : AL).set k { AL.at_ (A3 V ls ev) k with state := 2, A8 := (AF.Bf V.w u).2.1 } from EN (V := { V with w := (AF.Bf V.w u).1 }) hk.1 hk.2 hsv hlv (f := fun x => { x with state := 2, A8 := (AF.Bf V.w u).2.1 }) rfl) y9
 have c1p := kz c1
 refine Gs (Gt (Af rfl rfl) (Ga rfl (Gn (.t3 0 1 41) ?_)))
 refine Gc (fun c2 => ?_) (fun c2 => ?_)
 ·
  have c2p := kz c2
  refine AI (Gm rfl (Gm rfl ?_))
  refine Ah rfl SM (.c rfl (.c rfl (.c rfl .n))) (.c (.t (.t .h)) (.c (.t (.t .h)) (.c (.t (.t .h)) .n))) (D0 _ V ls ev k _ hk (Nat.le_trans (htn k hk.1 hk.2) (by omega))) (fun v10 B hv => ?_)
  obtain ⟨y11, y12, y13, rfl, y14, rfl⟩ := hv
  refine AO (AB (.nil _) ?_)
  refine AT ?_
  refine Be rfl .n ?_
  intro w1 hS
  have hS := (hS.perm (Av.perm (.c .h (.c .h (.c .h .n))))).Az
  refine ⟨_, ⟨y11, y12, y13, rfl, ?ga2, rfl⟩, hS⟩
  case ga2 => exact Wo c1 c2 y14
 have c2p := kz c2
 refine AI (Gm rfl (Gm rfl ?_))
 refine Ah rfl SM (.c rfl (.c rfl (.c rfl .n))) (.c (.t (.t .h)) (.c (.t (.t .h)) (.c (.t (.t .h)) .n))) (D0 _ V ls ev k _ hk (Nat.le_trans (htn k hk.1 hk.2) (by omega))) (fun v15 B hv => ?_)
 obtain ⟨y16, y17, y18, rfl, y19, rfl⟩ := hv
 refine AO (AB (.nil _) ?_)
 refine AT ?_
 refine Be rfl .n ?_
 intro w1 hS
 have hS := (hS.perm (Av.perm (.c .h (.c .h (.c .h .n))))).Az
 refine ⟨_, ⟨y16, y17, y18, rfl, ?ga3, rfl⟩, hS⟩
 case ga3 => exact Wn c1 c2 y19
theorem Bn (z : Int) : JU Tryz.prog 150 #[.int .i64 z] [] (fun v B => v = .tuple #[.agg (Order.enc default).toArray, .int .i64 z] ∧ B = []) := by
 intro w hS0
 refine Am _ _ Tryz.func150 rfl rfl rfl (hS0) ?_
 refine Gs ?_
 refine BF rfl K0 rfl (fun b1 => ?_)
 refine Ga rfl (Gn (.t2 0 2) (Gs (Gt (BA Qe K0 rfl .nil) (Gm rfl ?_))))
 refine AR (AJ (AS.id Order.fl.len Order.fl.one) rfl rfl rfl Dl rfl .h) ?_
 refine Ga rfl (Gn (.t2 2 3) (Ab ?_))
 refine AY rfl (.cell rfl .m0 (.inl ⟨(by rw [Order.fl.len]; exact B2), rfl⟩) (.tmp rfl .n)) ?_
 intro w1 hS
 have hS := (hS.perm (Av.perm .n)).Az
 exact ⟨_, ⟨rfl, rfl⟩, hS⟩
theorem Es (s : Aq) (c : UInt8) (w : World) : EL Tryz.prog 87 #[BQ s, .int .u8 (c.toNat : Int)] w fun v w' => v = .int .i64 (Lib.indexByte s c) ∧ B4 w w' := by
 refine Am [] [] Tryz.func87 rfl rfl rfl (St.start w []) ?_
 refine Gs (Ga rfl (Gn (.t2 0 1) (Gs (Gm rfl (Gm rfl ?_)))))
 refine Gt (Jw Tryz.func112 (by kernel_rfl) (by kernel_rfl) (by kernel_rfl) (by kernel_rfl) rfl rfl) ?_
 refine Ga rfl (Gn (.t1 4) (Ab ?_))
 refine AY rfl (.tmp rfl .n) ?_
 intro w1 hS; refine ⟨?_, hS.Aj⟩; rfl
theorem Dn (s : Aq) (c : UInt8) (w : World) : EL Tryz.prog 76 #[BQ s, BQ [c]] w fun v w' => v = .int .i64 (Lib.indexByte s c) ∧ B4 w w' := by
 refine Am [] [] Tryz.func76 rfl rfl rfl (St.start w []) ?_
 refine Gs (Ga rfl (Gn (.t2 0 1) (Gs (Gm rfl (Gt (BE rfl Tryz.underlying9 rfl) (Ga rfl (Gn (.t3 0 1 5) ?_)))))))
 refine Ap (Ae (Gs (Gm rfl (Gt (Af rfl rfl) (Gm rfl (BU 19 rfl rfl (fun q => AE rfl) (BU 19 rfl rfl (fun q => AE rfl) ?_)))))))
 refine BU 19 rfl rfl (fun q => Bs (cF rfl q) (cF rfl q)) ?_
 refine Gt (BP rfl rfl (fun h => by rw [h]; rfl)) ?_
 refine Ga rfl (Gn (.t4 0 1 5 16) ?_)
 refine Gc (fun c1 => ?_) (fun c1 => ?_)
 ·
  refine Gs (Ga rfl (Gn (.t1 4) (Ab (AP (AD ?_)))))
  refine AY rfl (.tmp rfl .n) ?_
  intro w1 hS; refine ⟨?_, hS.Aj⟩; have e : [c] = s := by simpa using c1
  rw [← e, Page.UK]; rfl
 have c1p := kz c1
 refine Gs (Gm rfl (Gt (Af rfl rfl) (Ga rfl (Gn (.t4 0 1 5 24) ?_))))
 refine GJ rfl (by simp) ?_
 refine Gs (Gm rfl (Gm rfl ?_))
 refine Gt (Bg Tryz.underlying9 rfl rfl (by decide) (by first | omega | simp)) ?_
 refine A7 rfl aT (.c rfl (.c rfl .n)) (fun w hS => Es _ _ w) ?_
 refine Ga rfl (Gn (.t1 4) (Ab (AP (AD ?_))))
 refine AY rfl (.tmp rfl .n) ?_
 intro w1 hS; refine ⟨?_, hS.Aj⟩; rfl
theorem E0 (s : Aq) (c : UInt8) (w : World) : EL Tryz.prog 176 #[BQ s, BQ [c]] w fun v w' => v = .int .i64 (Lib.indexByte s c) ∧ B4 w w' := by
 refine Am [] [] Tryz.func176 rfl rfl rfl (St.start w []) ?_
 refine Gs (Ga rfl (Gn (.t2 0 1) (Gs (Gm rfl (Gm rfl ?_)))))
 refine A7 rfl Zz (.c rfl (.c rfl .n)) (fun w hS => Dn _ _ w) ?_
 refine Ga rfl (Gn (.t1 4) (Ab ?_))
 refine AY rfl (.tmp rfl .n) ?_
 intro w1 hS; refine ⟨?_, hS.Aj⟩; rfl
theorem Gp (s : Aq) (c : UInt8) (w : World) : EL Tryz.prog 174 #[BQ s, BQ [c]] w fun v w' => v = .int .i64 ((s.count c : Nat) : Int) ∧ B4 w w' := by
 refine Am [] [] Tryz.func174 rfl rfl rfl (St.start w []) ?_
 refine Gs (Ga rfl (Gn (.t2 0 1) (B7 (Gm rfl (Gt (BE rfl Tryz.underlying9 rfl) (Gt (Af rfl rfl) (Gn (.t3 0 1 9) ?_)))))))
 refine EE rfl (by simp) ?_
 refine Aa ?_
 refine AB (.t2 0 1) ?_
 refine AA (B7 (Gm rfl (Gt (BE rfl Tryz.underlying9 rfl) (Gt (Af rfl rfl) (Gn (.t3 0 1 15) ?_)))))
 refine GJ rfl (by simp) ?_
 refine Gs (Gm rfl (Gm rfl ?_))
 refine Gt (Bg Tryz.underlying9 rfl rfl (by decide) (by first | omega | simp)) ?_
 refine Gt (Mh Tryz.func185 (by kernel_rfl) (by kernel_rfl) (by kernel_rfl) (by kernel_rfl) rfl rfl) ?_
 refine Ga rfl (Gn (.t1 4) (Ab (AD ?_)))
 refine AY rfl (.tmp rfl .n) ?_
 intro w1 hS; refine ⟨?_, hS.Aj⟩; rfl
theorem Ia (s : Aq) (c : UInt8) (hs : s.length ≤ 10000000) : JU Tryz.prog 179 #[BQ s, BQ [c], .int .i64 0, .int .i64 (-1)] [] (fun v B => ∃ h' : Hd, v = h'.val ∧ h'.len = (Words.pieces c s).length ∧ B = [Ad.own h' 9 1 ((Words.pieces c s).flatMap A4)]) := by
 intro w hS0
 have hcl := List.count_le_length (a := c) (l := s)
 have hpl := Words.Ey c s
 refine Am _ _ Tryz.func179 rfl rfl rfl (hS0) ?_
 refine Gs (Ga rfl (Gn (.t4 0 1 2 3) (B7 (Gm rfl (Gt (Af rfl rfl) (Gn (.t5 0 1 2 3 13) ?_))))))
 refine EE rfl (by simp) ?_
 refine Aa ?_
 refine AB (.t4 0 1 2 3) ?_
 refine AA (B7 (Gm rfl (Gt (Bs rfl rfl) (Gn (.t5 0 1 2 3 15) ?_))))
 refine EE rfl (by simp) ?_
 refine Aa ?_
 refine AB (.t4 0 1 2 3) ?_
 refine AA (B7 (Gm rfl (Gt (A6 rfl rfl) (Gn (.t5 0 1 2 3 20) ?_))))
 refine GJ rfl (by simp) ?_
 refine AI (Gm rfl (Gm rfl ?_))
 refine A7 rfl XZ (.c rfl (.c rfl .n)) (fun w hS => Gp _ c w) ?_
 refine Gt (As rfl rfl (IntWalk.i64_in _ (by (try simp only [List.length_cons, List.length_nil]); omega))) ?_
 refine Ga rfl (Gn (.t4 0 1 2 3) (Gs (Gm rfl (Gm rfl (Gt (BE rfl Tryz.underlying9 rfl) ?_)))))
 refine Gt (As rfl rfl (IntWalk.i64_in _ (by (try simp only [List.length_cons, List.length_nil]); omega))) ?_
 refine Gt (Kf rfl rfl) (Ga rfl (Gn (.t4 0 1 2 3) (Gs (Gm rfl ?_))))
 refine TU rfl Tryz.underlying52 Ei Rg XP rfl rfl (by (try simp only [List.length_cons, List.length_nil]); omega) (by (try simp only [List.length_cons, List.length_nil]); omega) (fun b1 => ?_)
 refine Ga rfl (Gn (.t5 0 1 2 3 9) (Gs (Gm rfl ?_)))
 refine Gt (Ex rfl rfl (IntWalk.i64_in _ (by (try simp only [List.length_cons, List.length_nil]); omega))) ?_
 refine Ga rfl (Gn (.t5 0 1 2 3 9) (Gs (Ga rfl (AO (AA (Ap (Ae ?_)))))))
 refine Bl (.t6 0 10 1 2 3 9) ?_
 refine DX (fun (i : Int) (r : Aq) (xs : List Aq) => Words.Mj c s i r xs) (fun (i : Int) (r : Aq) (xs : List Aq) => ((s.count c : Int) - i).toNat) (fun (i : Int) (r : Aq) (xs : List Aq) => [(0, BQ r), (10, .int .i64 i)]) (fun (i : Int) (r : Aq) (xs : List Aq) => [Ad.own ⟨some ⟨b1, 0, none⟩, (min (((s.count c : Nat) : Int) + 1) ((s.length : Int) + 1)).toNat, (min (((s.count c : Nat) : Int) + 1) ((s.length : Int) + 1)).toNat⟩ 9 1 (xs.flatMap A4)]) (0) (s) (_) ?_ rfl rfl (fun i r xs hI1 => ?_)
 · exact Words.Mj.start c s _ (by omega)
 have hI11 := hI1; have hi0 := hI1.i0; have hi1 := hI1.i1; have hrl := hI1.rl; have hxl := hI1.len
 refine B7 (Gm rfl (Gm rfl (Gt (A6 rfl rfl) (Gn (.t7 0 1 2 3 9 10 36) ?_))))
 refine Gc (fun c1 => ?_) (fun c1 => ?_)
 ·
  have c1p := kz c1
  refine Aa ?_
  refine AB (.t6 0 1 2 3 9 10) ?_
  refine AA (Ae (Gs (Gm rfl (Gm rfl ?_))))
  refine A7 rfl WD (.c rfl (.c rfl .n)) (fun w hS => E0 _ c w) ?_
  refine Ga rfl (Gn (.t7 0 1 2 3 9 10 11) (B7 (Gm rfl (Gt (A6 rfl rfl) (Gn (.t8 0 1 2 3 9 10 11 41) ?_)))))
  refine Gc (fun c2 => ?_) (fun c2 => ?_)
  ·
   have c2p := kz c2
   refine BX (AW ?_)
   refine Iw rfl ?_
   refine AW (Ag ?_)
   refine AB (.t3 0 9 10) ?_
   refine AA (Gs (Gm rfl (Gm rfl (Gm rfl ?_))))
   refine Gt (Bm Ij (by decide) (Kn.own .m0) rfl rfl (by omega) (by (try dsimp only); omega)) ?_
   refine AR (Mi rfl rfl Ei (by have := hI11.len; omega) .h) ?_
   refine Gn (.t2 9 10) (Gs (Gm rfl (Gm rfl ?_)))
   refine Gt (As rfl rfl (IntWalk.i64_in _ (by (try simp only [List.length_cons, List.length_nil]); omega))) ?_
   refine JP DB rfl Tryz.underlying52 Ei rfl rfl (by (try simp only [List.length_cons, List.length_nil]); omega) (by (try simp only [List.length_cons, List.length_nil]); omega) (fun _ => .h) ?_
   refine Ga rfl (Gn (.t1 8) (Ab ?_))
   refine AY rfl (.tmp rfl .n) ?_
   intro w1 hS
   have hS := (hS.perm (Av.perm (.c .h .n))).Az
   have hd := hI11.done (by first | (right; simpa using c2) | (left; omega))
   exact ⟨_, ⟨_, rfl, by rw [hd.2] at *; (try simp only [Hd.cut] at *); omega, by rw [hd.2]⟩, hS⟩
  have c2p := kz c2
  obtain ⟨hm0, hm1, hnx⟩ := hI11.next rfl (by simpa using c2)
  refine Aa ?_
  refine AB (.t7 0 1 2 3 9 10 11) ?_
  refine AA (Gs (Gm rfl (Gm rfl (Gm rfl (Gm rfl (Gm rfl ?_))))))
  refine Gt (As rfl rfl (IntWalk.i64_in _ (by (try simp only [List.length_cons, List.length_nil]); omega))) ?_
  refine Gt (Hf Tryz.underlying9 rfl rfl (by (try simp only [List.length_cons, List.length_nil]); omega) (by (try simp only [List.length_cons, List.length_nil]); omega)) ?_
  refine Gt (Bm Ij (by decide) (Kn.own .m0) rfl rfl (by omega) (by (try dsimp only); omega)) ?_
  refine AR (Mi rfl rfl Ei (by have := hI11.len; omega) .h) ?_
  refine Gn (.t7 0 1 2 3 9 10 11) (Gs (Gm rfl (Gm rfl (Gm rfl (Gt (BE rfl Tryz.underlying9 rfl) ?_)))))
  refine Gt (As rfl rfl (IntWalk.i64_in _ (by (try simp only [List.length_cons, List.length_nil]); omega))) ?_
  refine Gt (Fx Tryz.underlying9 rfl rfl (by (try simp only [List.length_cons, List.length_nil]); omega) (by (try simp only [List.length_cons, List.length_nil]); omega)) ?_
  refine Ga rfl (Gn (.t6 0 1 2 3 9 10) (AI (Gm rfl ?_)))
  refine Gt (As rfl rfl (IntWalk.i64_in _ (by (try simp only [List.length_cons, List.length_nil]); omega))) ?_
  refine Ga rfl ?_
  refine AO (AB (.t6 0 1 2 3 9 10) ?_)
  refine AT ?_
  refine Bt (i + 1) _ _ ?_ ?_ (.t6 0 10 1 2 3 9) (.refl _)
  · rw [Int.add_zero]
    exact hnx
  · omega
 have c1p := kz c1
 refine BX (AW (AW (Ag ?_)))
 refine AB (.t3 0 9 10) ?_
 refine AA (Gs (Gm rfl (Gm rfl (Gm rfl ?_))))
 refine Gt (Bm Ij (by decide) (Kn.own .m0) rfl rfl (by omega) (by (try dsimp only); omega)) ?_
 refine AR (Mi rfl rfl Ei (by have := hI11.len; omega) .h) ?_
 refine Gn (.t2 9 10) (Gs (Gm rfl (Gm rfl ?_)))
 refine Gt (As rfl rfl (IntWalk.i64_in _ (by (try simp only [List.length_cons, List.length_nil]); omega))) ?_
 refine JP DB rfl Tryz.underlying52 Ei rfl rfl (by (try simp only [List.length_cons, List.length_nil]); omega) (by (try simp only [List.length_cons, List.length_nil]); omega) (fun _ => .h) ?_
 refine Ga rfl (Gn (.t1 8) (Ab ?_))
 refine AY rfl (.tmp rfl .n) ?_
 intro w1 hS
 have hS := (hS.perm (Av.perm (.c .h .n))).Az
 have hd := hI11.done (by first | (right; simpa using c1) | (left; omega))
 exact ⟨_, ⟨_, rfl, by rw [hd.2] at *; (try simp only [Hd.cut] at *); omega, by rw [hd.2]⟩, hS⟩
theorem J9 (s : Aq) (c : UInt8) (hs : s.length ≤ 10000000) : JU Tryz.prog 167 #[BQ s, BQ [c]] [] (fun v B => ∃ h' : Hd, v = h'.val ∧ h'.len = (Words.pieces c s).length ∧ B = [Ad.own h' 9 1 ((Words.pieces c s).flatMap A4)]) := by
 intro w hS0
 refine Am _ _ Tryz.func167 rfl rfl rfl (hS0) ?_
 refine Gs (Ga rfl (Gn (.t2 0 1) (Gs (Gm rfl (Gm rfl ?_)))))
 refine Ah rfl ZT (.c rfl (.c rfl (.c rfl (.c rfl .n)))) .n (Ia _ c hs) (fun v1 B hv => ?_)
 obtain ⟨y2, rfl, y3, rfl⟩ := hv
 refine Ga rfl (Gn (.t1 4) (Ab ?_))
 refine AY rfl (.tmp rfl .n) ?_
 intro w1 hS
 have hS := (hS.perm (Av.perm (.c .h .n))).Az
 exact ⟨_, ⟨_, rfl, by assumption, rfl⟩, hS⟩
theorem Nl (u : Aq) (hu : u.length ≤ 10000000) (w : World) : EL Tryz.prog 168 #[BQ u] w fun v w' => v = BQ (Words.low u) ∧ B4 w w' := by
 refine Am [] [] Tryz.func168 rfl rfl rfl (St.start w []) ?_
 refine Gs (Ga rfl (Gn (.t1 0) (Gs (Gm rfl ?_))))
 refine Ng rfl Tryz.underlying9 Tryz.underlying105 Tryz.underlying5 rfl (fun h1 h1l => ?_)
 refine Ga rfl (Gn (.t1 3) (B7 (Gm rfl (Gt (Ao rfl Tryz.underlying105 rfl) (Gm rfl (AO (AA ?_)))))))
 refine Ae ?_
 refine Bl (.t4 10 3 8 9) ?_
 refine CT (fun (k : Int) => 0 ≤ k ∧ k ≤ u.length) (fun (k : Int) => ((u.length : Int) - k).toNat) (fun (k : Int) => [(10, .int .i64 k)]) (fun (k : Int) => [Ad.own h1 5 1 ((Words.G4 u k.toNat).flatMap C8)]) (0) ?_ rfl rfl (fun k hI1 => ?_)
 · exact ⟨by omega, by omega⟩
 obtain ⟨hI11, hI12⟩ := hI1
 refine Gs (Gt (A6 rfl rfl) (AO (AA (Ap ?_))))
 refine Gc (fun c1 => ?_) (fun c1 => ?_)
 ·
  have c1p := kz c1
  have hat := Words.Sx (w := u) hI11 (by omega)
  have hc8 := (u.getD k.toNat 0).toNat_lt
  refine Aa ?_
  refine AB (.t4 3 8 9 10) ?_
  refine AA (Ap (Ae (Gs (Gm rfl ?_))))
  refine Gt (Bm V9 (by decide) (Kn.own .m0) rfl rfl (by omega) (by omega)) ?_
  refine Gt (VJ rfl Zb (Kn.own .m0) (by rw [Words.MR]; omega)) ?_
  refine Ga rfl (Ga rfl (Gn (.t6 3 4 5 8 9 10) (Gs (Gm rfl (Gt (CL rfl rfl) (Gm rfl (Bh 17 rfl rfl (fun q => AE rfl) ?_)))))))
  refine Bh 17 rfl rfl (fun q => HS (Bc rfl q) rfl) (Gt (BI rfl rfl (fun h => h)) (Gn (.t7 3 4 5 8 9 10 20) ?_))
  refine Gc (fun c2 => ?_) (fun c2 => ?_)
  ·
   have c2p := kz c2
   rw [hat] at c2
   have hset := Words.QL (w := u) hI11 (by omega)
   rw [← Words.Wv c2] at hset
   refine AI (Gm rfl (Gm rfl (Gm rfl ?_)))
   refine Gt (As rfl rfl (IntWalk.u8_in _ (by (try simp only [hat] at c2p ⊢); omega))) ?_
   refine Gt (Ex rfl rfl (IntWalk.u8_in _ (by (try simp only [hat] at c2p ⊢); omega))) ?_
   refine Gt (Bm V9 (by decide) (Kn.own .m0) rfl rfl (by omega) (by omega)) ?_
   refine AR (YB rfl rfl (by simp only [hat] at c2p ⊢; omega) UO (by rw [Words.MR]; omega) .h) ?_
   refine AO (AB (.t4 3 8 9 10) ?_)
   refine AT (AA (AI ?_))
   refine Gt (As rfl rfl (IntWalk.i64_in _ (by (try simp only [hat] at c2p ⊢); omega))) ?_
   refine Gm rfl ?_
   refine AO (AB (.t4 3 8 9 10) ?_)
   refine B0 (k + 1) ?_ ?_ (.t4 10 3 8 9) (by rw [← hset]; first | exact (.refl _) | (rw [← hat]; exact (.refl _)))
   · exact ⟨by omega, by omega⟩
   · omega
  have c2p := kz c2
  rw [hat] at c2
  have hset := Words.UL (w := u) hI11 (by omega) (Words.WX c2)
  refine Aa ?_
  refine AB (.t4 3 8 9 10) ?_
  refine AT (AA (AI ?_))
  refine Gt (As rfl rfl (IntWalk.i64_in _ (by (try simp only [hat] at c2p ⊢); omega))) ?_
  refine Gm rfl ?_
  refine AO (AB (.t4 3 8 9 10) ?_)
  refine B0 (k + 1) ?_ ?_ (.t4 10 3 8 9) (by rw [← hset]; first | exact (.refl _) | (rw [← hat]; exact (.refl _)))
  · exact ⟨by omega, by omega⟩
  · omega
 have c1p := kz c1
 refine BX (AW (AW (Ag ?_)))
 refine AB (.t1 3) ?_
 refine AA (Gs (Gm rfl (Gt (JY Tryz.underlying105 Tryz.underlying9 Tryz.underlying5 rfl (Kn.own .m0)) (Ga rfl (Gn (.t1 2) (Ab ?_))))))
 refine AY rfl (.tmp rfl .n) ?_
 intro w1 hS; refine ⟨?_, hS.Aj⟩; obtain rfl : k = u.length := by omega
 rw [show (u.length : Int).toNat = u.length by omega, Words.Vx]; rfl
theorem LM (s : Aq) (hs : s.length ≤ 4000000) : JU Tryz.prog 151 #[BQ s] [] (fun v B => ∃ h' : Hd, v = h'.val ∧ h'.len = (Words.words s).length ∧ B = [Ad.own h' 9 1 ((Words.words s).flatMap A4)]) := by
 intro w hS0
 have hpl := Words.Ey 32 s
 have hcl := List.count_le_length (a := (32 : UInt8)) (l := s)
 refine Am _ _ Tryz.func151 rfl rfl rfl (hS0) ?_
 refine Gs (Ga rfl (Gn (.t1 0) (Gs (Ga rfl (AO (AA (B7 ?_)))))))
 refine Gm rfl ?_
 refine Ah rfl ZU (.c rfl (.c rfl .n)) .n (J9 _ 32 (by omega)) (fun v1 B hv => ?_)
 obtain ⟨y2, rfl, y3, rfl⟩ := hv
 refine Gt (Ao rfl Tryz.underlying52 rfl) (Gm rfl (Gn (.t4 3 7 8 9) (Ae ?_)))
 refine Bl (.t4 3 9 7 8) ?_
 refine EM A4 9 1 ?_
 refine DX (fun (k : Int) (xs : List Aq) (g : Hd) => 0 ≤ k ∧ k ≤ ((Words.pieces 32 s).length : Int) ∧ xs = Words.IL s k.toNat ∧ g.len = xs.length ∧ xs.length ≤ k.toNat) (fun (k : Int) (xs : List Aq) (g : Hd) => (((Words.pieces 32 s).length : Int) - k).toNat) (fun (k : Int) (xs : List Aq) (g : Hd) => [(3, g.val), (9, .int .i64 k)]) (fun (k : Int) (xs : List Aq) (g : Hd) => [Ad.own g 9 1 (xs.flatMap A4)]) (0) ([]) (_) ?_ rfl rfl (fun k xs g hI1 => ?_)
 · exact ⟨by omega, by omega, rfl, rfl, by simp⟩
 obtain ⟨hI11, hI12, hI13, hI14, hI15⟩ := hI1
 refine Gs (Gt (A6 rfl rfl) (AO (AA (Ap ?_))))
 refine Gc (fun c1 => ?_) (fun c1 => ?_)
 ·
  have c1p := kz c1
  refine Aa ?_
  refine AB (.t4 3 7 8 9) ?_
  refine AA (Ap (Ae (Gs ?_)))
  refine Gt (Bm Ij (by decide) (Kn.own .m1) rfl rfl (by omega) (by omega)) ?_
  refine Gt (DL rfl CN (Kn.own .m1) (by omega)) ?_
  refine Ga rfl (Gn (.t5 3 5 7 8 9) (Gs (Gm rfl (Gt (Dj rfl rfl) (Gn (.t6 3 5 7 8 9 14) ?_)))))
  refine Gc (fun c2 => ?_) (fun c2 => ?_)
  ·
   have c2p := kz c2
   refine AI (Gm rfl (Gm rfl ?_))
   refine A7 rfl Y4 (.c rfl .n) (fun w hS => Nl _ (by have := Words.Td (c := 32) (s := s) k.toNat; omega) w) ?_
   refine Eu A4 DB rfl Tryz.underlying52 Ei Rg rfl (by decide) (by decide) rfl rfl (fun b1 => ?_)
   refine CO DB rfl Tryz.underlying52 Ei Rg rfl XP (by decide) (by decide) rfl rfl (fun w hS => Src.DU Tryz.underlying52 ((Kn.own .m0) w hS)) (by (try dsimp only); omega) (fun _ => (.t .h)) (fun h5 h5l h5z => ?_)
   refine Ga rfl ?_
   refine AO (AB (.t4 3 7 8 9) ?_)
   refine AT (AA (AI ?_))
   refine Gt (As rfl rfl (IntWalk.i64_in _ (by omega))) ?_
   refine Gm rfl ?_
   refine AO (AB (.t4 3 7 8 9) ?_)
   refine Bt (k + 1) _ _ ?_ ?_ (.t4 3 9 7 8) (.cons _ (.refl _))
   · exact ⟨by omega, by omega, by rw [Words.Uo hI11 (by omega) c2, ← hI13], (by (try dsimp only at *) <;> (try simp only [List.length_append, List.length_cons, List.length_nil]) <;> omega), (by (try simp only [List.length_append, List.length_cons, List.length_nil]); omega)⟩
   · omega
  have c2p := kz c2
  refine Aa ?_
  refine AB (.t4 3 7 8 9) ?_
  refine AT (AA (AI ?_))
  refine Gt (As rfl rfl (IntWalk.i64_in _ (by omega))) ?_
  refine Gm rfl ?_
  refine AO (AB (.t4 3 7 8 9) ?_)
  refine Bt (k + 1) _ _ ?_ ?_ (.t4 3 9 7 8) (.refl _)
  · exact ⟨by omega, by omega, by rw [Words.VB hI11 (by omega) c2, ← hI13], (by (try dsimp only at *) <;> (try simp only [List.length_append, List.length_cons, List.length_nil]) <;> omega), (by (try simp only [List.length_append, List.length_cons, List.length_nil]); omega)⟩
  · omega
 have c1p := kz c1
 obtain rfl : k = ((Words.pieces 32 s).length : Int) := by omega
 refine BX (AW (AW (Ag ?_)))
 refine AB (.t1 3) ?_
 refine AA (Gs (Gm rfl (Ga rfl (Gn (.t1 2) (Ab ?_)))))
 refine AY rfl (.tmp rfl .n) ?_
 intro w1 hS
 have hS := (hS.perm (Av.perm (.c .h .n))).Az
 exact ⟨_, ⟨_, rfl, by rw [Words.Mp, ← hI13]; assumption, by rw [Words.Mp, ← hI13]⟩, hS⟩
theorem DE (s p : Aq) (w : World) : EL Tryz.prog 180 #[BQ s, BQ p] w fun v w' => v = .bool (decide ((p.length : Int) ≤ (s.length : Int)) && decide (s.take p.length = p)) ∧ B4 w w' := by
 refine Am [] [] Tryz.func180 rfl rfl rfl (St.start w []) ?_
 refine Gs (Ga rfl (Gn (.t2 0 1) (Gs (Gm rfl (Gt (BE rfl Tryz.underlying9 rfl) (Gm rfl (Gt (BE rfl Tryz.underlying9 rfl) ?_)))))))
 refine Gt (CL rfl rfl) (Gm rfl (Bh 10 rfl rfl (fun q => AE rfl) (Bh 10 rfl rfl (fun q => AE rfl) (Bh 10 rfl rfl (fun q => BE rfl Tryz.underlying9 (Bc rfl q)) ?_))))
 refine Bh 10 rfl rfl (fun q => by have q1 := q; (try simp at q1); exact Hf Tryz.underlying9 (Bc rfl q) (Bc rfl q) (by omega) (by omega)) ?_
 refine Bh 10 rfl rfl (fun q => AE rfl) (Bh 10 rfl rfl (fun q => Bs (Bc rfl q) (Bc rfl q)) (Gt (BI rfl rfl (fun h => h)) (Ga rfl (Gn (.t1 4) (Ab ?_)))))
 refine AY rfl (.tmp rfl .n) ?_
 intro w1 hS; refine ⟨?_, hS.Aj⟩; rfl
theorem IB (s p : Aq) (w : World) : EL Tryz.prog 169 #[BQ s, BQ p] w fun v w' => v = .bool (decide ((p.length : Int) ≤ (s.length : Int)) && decide (s.take p.length = p)) ∧ B4 w w' := by
 refine Am [] [] Tryz.func169 rfl rfl rfl (St.start w []) ?_
 refine Gs (Ga rfl (Gn (.t2 0 1) (Gs (Gm rfl (Gm rfl ?_)))))
 refine A7 rfl Xt (.c rfl (.c rfl .n)) (fun w hS => DE _ _ w) ?_
 refine Ga rfl (Gn (.t1 4) (Ab ?_))
 refine AY rfl (.tmp rfl .n) ?_
 intro w1 hS; refine ⟨?_, hS.Aj⟩; rfl
theorem IW (u : Aq) (w : World) (gl0 : GV 0 AH.C0 w) : EL Tryz.prog 152 #[BQ u] w fun v w' => v = .tuple #[.int .i64 (Words.verb u).1, .int .i64 (Words.verb u).2] ∧ B4 w w' := by
 refine Am [] [] Tryz.func152 rfl rfl rfl (St.start w []) ?_
 refine Gs (Ga rfl (Ga rfl (Gn (.t1 0) (B7 (Gm rfl (Gt (Dj rfl rfl) (Gn (.t2 0 7) ?_)))))))
 refine Gc (fun c1 => ?_) (fun c1 => ?_)
 ·
  have c1p := kz c1
  refine Gs (Gt (VI gl0 Words.Rj rfl Yg rfl) (Gm rfl (Gn (.t3 0 8 9) (Ae ?_))))
  refine Bl (.t3 9 0 8) ?_
  refine CT (fun (k : Int) => 0 ≤ k ∧ k ≤ 21 ∧ Words.I3 u 21 = Words.I3 u (21 - k).toNat) (fun (k : Int) => (21 - k).toNat) (fun (k : Int) => [(9, .int .i64 k)]) (fun (k : Int) => []) (0) ?_ rfl rfl (fun k hI1 => ?_)
  · exact ⟨by omega, by omega, rfl⟩
  obtain ⟨hI11, hI12, hI13⟩ := hI1
  refine Gs (Gt (A6 rfl rfl) (AO (AA (Ap ?_))))
  refine Gc (fun c2 => ?_) (fun c2 => ?_)
  ·
   have c2p := kz c2
   rw [Words.Rz hI11 (by omega)] at hI13
   refine Aa ?_
   refine AB (.t3 0 8 9) ?_
   refine AA (Ap (Ae (Gs (Gm rfl ?_))))
   refine Gt (JV DB Tryz.underlying133 Ei CN rfl rfl (by omega) (by omega) rfl) ?_
   refine Ga rfl (Ga rfl (Gn (.t5 0 4 5 8 9) (Gs (Gm rfl (Gm rfl ?_)))))
   refine A7 rfl ZD (.c rfl (.c rfl .n)) (fun w hS => IB _ _ w) ?_
   refine Gn (.t5 0 4 8 9 15) ?_
   refine Gc (fun c3 => ?_) (fun c3 => ?_)
   ·
    have cp : Words.pre (AH.F3.getD k.toNat []) u = true := c3
    refine Gs (Gm rfl (Ga rfl (Ga rfl (Gn (.t2 2 3) (Ab (AP (AD ?_)))))))
    refine AD (AP (AD ?_))
    refine AY rfl (.tmp rfl (.tmp rfl .n)) ?_
    intro w1 hS; refine ⟨?_, hS.Aj⟩; rw [show Words.verb u = _ from A9 c1, hI13, A9 cp]; rfl
   have c3p := kz c3
   have cp : Words.pre (AH.F3.getD k.toNat []) u = false := c3
   refine Aa ?_
   refine AB (.t3 0 8 9) ?_
   refine AT (AA (AI ?_))
   refine Gt (As rfl rfl (IntWalk.i64_in _ (by omega))) ?_
   refine Gm rfl ?_
   refine AO (AB (.t3 0 8 9) ?_)
   refine B0 (k + 1) ?_ ?_ (.t3 9 0 8) (.refl _)
   · exact ⟨by omega, by omega, by rw [hI13, AU cp]⟩
   · omega
  have c2p := kz c2
  obtain rfl : k = 21 := by omega
  refine BX (AW (AW (Ag ?_)))
  refine AB (.nil _) ?_
  refine AA (Gs (Ga rfl (Ga rfl (AO (AA (Ab ?_))))))
  refine AY rfl (.tmp rfl (.tmp rfl .n)) ?_
  intro w1 hS; refine ⟨?_, hS.Aj⟩; rw [show Words.verb u = _ from A9 c1, hI13]; rfl
 refine Aa ?_
 refine AB (.nil _) ?_
 refine AA (Gs (Ga rfl (Ga rfl (AO (AA (Ab ?_))))))
 refine AY rfl (.tmp rfl (.tmp rfl .n)) ?_
 intro w1 hS; refine ⟨?_, hS.Aj⟩; rw [show Words.verb u = _ from AU c1]; rfl
theorem Ic (s : Aq) (hs : s.length ≤ 10000000) (w : World) : EL Tryz.prog 153 #[BQ s, BQ [32]] w fun v w' => v = BQ (Words.Ol 32 s) ∧ B4 w w' := by
 refine Am [] [] Tryz.func153 rfl rfl rfl (St.start w []) ?_
 refine Gs (Ga rfl (Gn (.t2 0 1) (B7 (Gm rfl (Gt (Bs rfl rfl) (Gm rfl (BU 9 rfl rfl (fun q => AE rfl) ?_)))))))
 refine BU 9 rfl rfl (fun q => Bs (cF rfl q) rfl) ?_
 refine Gt (BP rfl rfl (fun h => by rw [h]; rfl)) ?_
 refine Gn (.t3 0 1 12) ?_
 refine Gc (fun c1 => ?_) (fun c1 => ?_)
 ·
  refine Gs (Gm rfl (Ga rfl (Gn (.t1 4) (Ab (AD ?_)))))
  refine AY rfl (.tmp rfl .n) ?_
  intro w1 hS; refine ⟨?_, hS.Aj⟩; have e : s = [] := by simpa using c1
  subst e; rfl
 have c1p := kz c1
 refine Aa ?_
 refine AB (.t2 0 1) ?_
 refine AA (B7 (Gm rfl (Gt (BE rfl Tryz.underlying9 rfl) (Gt (Af rfl rfl) (Gm rfl (Bh 17 rfl rfl (fun q => AE rfl) ?_))))))
 refine Bh 17 rfl rfl (fun q => by have q1 := q; (try simp at q1); exact Bg Tryz.underlying9 (Bc rfl q) rfl (by decide) (by (try simp only [List.length_cons, List.length_nil]); omega)) ?_
 refine Bh 17 rfl rfl (fun q => A6 (Bc rfl q) rfl) (Gt (BI rfl rfl (fun h => h)) (Gn (.t3 0 1 21) ?_))
 refine GJ rfl rfl ?_
 refine Gs (Gm rfl (Gm rfl ?_))
 refine Gt (Bg Tryz.underlying9 rfl rfl (by decide) (by (try simp only [List.length_cons, List.length_nil]); omega)) ?_
 refine A7 rfl XX (.c rfl (.c rfl .n)) (fun w hS => Eh _ 32 hs w) ?_
 refine Ga rfl (Gn (.t1 4) (Ab (AD ?_)))
 refine AY rfl (.tmp rfl .n) ?_
 intro w1 hS; refine ⟨?_, hS.Aj⟩; rfl
theorem F5 (s : Aq) (c : UInt8) (hs : s.length ≤ 10000000) (w : World) : EL Tryz.prog 59 #[BQ s, BQ [c]] w fun v w' => v = .tuple #[BQ (Words.cut c s).1, BQ (Words.cut c s).2.1, .bool (Words.cut c s).2.2] ∧ B4 w w' := by
 refine Am [] [] Tryz.func59 rfl rfl rfl (St.start w []) ?_
 refine Gs (Ga rfl (Ga rfl (Ga rfl (Gn (.t2 0 1) (B7 (Gm rfl (Gm rfl ?_)))))))
 refine A7 rfl Zz (.c rfl (.c rfl .n)) (fun w hS => Dn _ c w) ?_
 refine Ga rfl (Gn (.t3 0 1 7) (Gs (Gm rfl (Gt (CL rfl rfl) (Gn (.t4 0 1 7 12) ?_)))))
 refine Gc (fun c1 => ?_) (fun c1 => ?_)
 ·
  have c1p := kz c1
  have hm := Words.X9 (c := c) (s := s) (by simpa using c1)
  refine Ap ?_
  refine BD (N := 12) [0, 0, 3, 0, 0, 0, 32, 112, 248, 7, 1023, 2047] mix (by kernel_rfl) rfl ?_
  refine Pf 0 rfl (AE rfl) (Pf 1 rfl (AE rfl) (Pf 3 rfl (AE rfl) (Pf 4 rfl (AE rfl) (Pf 5 rfl (AE rfl) (Pf 6 rfl (BE rfl Tryz.underlying9 rfl) ?_)))))
  refine Pf 7 rfl (As rfl rfl (IntWalk.i64_in _ (by (try simp only [List.length_cons, List.length_nil]); omega))) ?_
  refine Io 2 8 rfl rfl (by kernel_rfl) ?_ ?_
  ·
   refine Gt (Hf Tryz.underlying9 rfl rfl (by (try simp only [List.length_cons, List.length_nil]); omega) (by (try simp only [List.length_cons, List.length_nil]); omega)) ?_
   refine Bo rfl ⟨?_, ?_⟩
   · exact (Po rfl (As rfl rfl (IntWalk.i64_in _ (by (try simp only [List.length_cons, List.length_nil]); omega))) rfl rfl (Po rfl (BE rfl Tryz.underlying9 rfl) rfl rfl (Po rfl (AE rfl) rfl rfl (Po rfl (AE rfl) rfl rfl (Po rfl (AE rfl) rfl rfl (Pk (Pk Ar)))))))
   refine Pf 9 rfl (Ay rfl) ?_
   refine An 8 rfl (by kernel_rfl) ?_
   refine Gt (Fx Tryz.underlying9 rfl rfl (by (try simp only [List.length_cons, List.length_nil]); omega) (by (try simp only [List.length_cons, List.length_nil]); omega)) ?_
   refine Bo rfl ⟨?_, ?_⟩
   · exact (Po rfl (Ay rfl) rfl rfl (Pk (Pk (Pk (Pk (Pk (Po rfl (AE rfl) rfl rfl (Po rfl (AE rfl) rfl rfl Ar))))))))
   refine Pf 10 rfl (Ay rfl) (Pf 11 rfl (Ay rfl) ?_)
   refine A1 (by kernel_rfl) ?_
   refine AB (.t3 4 5 6) ?_
   refine AA (Ab (AD ?_))
   refine AY rfl (.tmp rfl (.tmp rfl (.tmp rfl .n))) ?_
   intro w1 hS; refine ⟨?_, hS.Aj⟩; rw [show Words.cut c s = _ from (A9 c1)]; rfl
  ·
   refine Gt (Fx Tryz.underlying9 rfl rfl (by (try simp only [List.length_cons, List.length_nil]); omega) (by (try simp only [List.length_cons, List.length_nil]); omega)) ?_
   refine Bo rfl ⟨?_, ?_⟩
   · exact (Pk (Pk (Pk (Pk (Pk (Po rfl (AE rfl) rfl rfl (Po rfl (AE rfl) rfl rfl Ar)))))))
   refine An 2 rfl (by kernel_rfl) ?_
   refine Gt (Hf Tryz.underlying9 rfl rfl (by (try simp only [List.length_cons, List.length_nil]); omega) (by (try simp only [List.length_cons, List.length_nil]); omega)) ?_
   refine Bo rfl ⟨?_, ?_⟩
   · exact (Po rfl (As rfl rfl (IntWalk.i64_in _ (by (try simp only [List.length_cons, List.length_nil]); omega))) rfl rfl (Po rfl (BE rfl Tryz.underlying9 rfl) rfl rfl (Po rfl (AE rfl) rfl rfl (Po rfl (AE rfl) rfl rfl (Po rfl (AE rfl) rfl rfl (Pk (Pk Ar)))))))
   refine Pf 9 rfl (Ay rfl) (Pf 10 rfl (Ay rfl) (Pf 11 rfl (Ay rfl) ?_))
   refine A1 (by kernel_rfl) ?_
   refine AB (.t3 4 5 6) ?_
   refine AA (Ab (AD ?_))
   refine AY rfl (.tmp rfl (.tmp rfl (.tmp rfl .n))) ?_
   intro w1 hS; refine ⟨?_, hS.Aj⟩; rw [show Words.cut c s = _ from (A9 c1)]; rfl
 refine Aa ?_
 refine AB (.t1 0) ?_
 refine AA (Gs (Gm rfl (Ga rfl (Ga rfl (Ga rfl (Gn (.t3 4 5 6) (Ab ?_)))))))
 refine AY rfl (.tmp rfl (.tmp rfl (.tmp rfl .n))) ?_
 intro w1 hS; refine ⟨?_, hS.Aj⟩; rw [show Words.cut c s = _ from (AU c1)]; rfl
theorem Ho (s : Aq) (c : UInt8) (hs : s.length ≤ 10000000) (w : World) : EL Tryz.prog 30 #[BQ s, BQ [c]] w fun v w' => v = .tuple #[BQ (Words.cut c s).1, BQ (Words.cut c s).2.1, .bool (Words.cut c s).2.2] ∧ B4 w w' := by
 refine Am [] [] Tryz.func30 rfl rfl rfl (St.start w []) ?_
 refine Gs (Ga rfl (Ga rfl (Ga rfl (Gn (.t2 0 1) (Gs (Gm rfl (Gm rfl ?_)))))))
 refine A7 rfl aa (.c rfl (.c rfl .n)) (fun w hS => F5 _ c hs w) ?_
 refine Gt (AK rfl rfl) (Gt (AK rfl rfl) (Gt (AK rfl rfl) (Ga rfl (Ga rfl (Ga rfl (Gn (.t3 4 5 6) (Ab ?_)))))))
 refine AY rfl (.tmp rfl (.tmp rfl (.tmp rfl .n))) ?_
 intro w1 hS; refine ⟨?_, hS.Aj⟩; rfl
theorem Eo (s p : Aq) (w : World) : EL Tryz.prog 181 #[BQ s, BQ p] w fun v w' => v = .tuple #[BQ (Words.L0 s p).1, .bool (Words.L0 s p).2] ∧ B4 w w' := by
 refine Am [] [] Tryz.func181 rfl rfl rfl (St.start w []) ?_
 refine Gs (Ga rfl (Ga rfl (Gn (.t2 0 1) (B7 (Gm rfl (Gm rfl ?_))))))
 refine A7 rfl Xt (.c rfl (.c rfl .n)) (fun w hS => DE _ _ w) ?_
 refine Gt (BS rfl) (Gn (.t3 0 1 9) ?_)
 refine Gc (fun c1 => ?_) (fun c1 => ?_)
 ·
  refine Gs (Gm rfl (Ga rfl (Ga rfl (Gn (.t2 4 5) (Ab (AD ?_))))))
  refine AY rfl (.tmp rfl (.tmp rfl .n)) ?_
  intro w1 hS; refine ⟨?_, hS.Aj⟩; rw [show Words.L0 s p = _ from (A9 c1)]; rfl
 have c1p := kz c1
 have hle : p.length ≤ s.length := by simp at c1; omega
 refine Aa ?_
 refine AB (.t2 0 1) ?_
 refine AA (Gs (Gm rfl (Gm rfl (Gt (BE rfl Tryz.underlying9 rfl) ?_))))
 refine Gt (Fx Tryz.underlying9 rfl rfl (by omega) (by omega)) ?_
 refine Ga rfl (Ga rfl (Gn (.t2 4 5) (Ab ?_)))
 refine AY rfl (.tmp rfl (.tmp rfl .n)) ?_
 intro w1 hS; refine ⟨?_, hS.Aj⟩; rw [show Words.L0 s p = _ from (AU c1)]; rfl
theorem IQ (s p : Aq) (w : World) : EL Tryz.prog 170 #[BQ s, BQ p] w fun v w' => v = .tuple #[BQ (Words.L0 s p).1, .bool (Words.L0 s p).2] ∧ B4 w w' := by
 refine Am [] [] Tryz.func170 rfl rfl rfl (St.start w []) ?_
 refine Gs (Ga rfl (Ga rfl (Gn (.t2 0 1) (Gs (Gm rfl (Gm rfl ?_))))))
 refine A7 rfl Z7 (.c rfl (.c rfl .n)) (fun w hS => Eo _ _ w) ?_
 refine Gt (AK rfl rfl) (Gt (AK rfl rfl) (Ga rfl (Ga rfl (Gn (.t2 4 5) (Ab ?_)))))
 refine AY rfl (.tmp rfl (.tmp rfl .n)) ?_
 intro w1 hS; refine ⟨?_, hS.Aj⟩; rfl
theorem FO (s : Aq) (c : UInt8) (w : World) : EL Tryz.prog 171 #[BQ s, BQ [c]] w fun v w' => v = .bool (decide (0 ≤ Lib.indexByte s c)) ∧ B4 w w' := by
 refine Am [] [] Tryz.func171 rfl rfl rfl (St.start w []) ?_
 refine Gs (Ga rfl (Gn (.t2 0 1) (Gs (Gm rfl (Gm rfl ?_)))))
 refine A7 rfl WD (.c rfl (.c rfl .n)) (fun w hS => E0 _ c w) ?_
 refine Gt (CL rfl rfl) (Ga rfl (Gn (.t1 4) (Ab ?_)))
 refine AY rfl (.tmp rfl .n) ?_
 intro w1 hS; refine ⟨?_, hS.Aj⟩; rfl
def Pp : Go.Shelf.Ren := ⟨fun | 172 => 172 | 244 => 182 | 245 => 183 | 247 => 188 | 279 => 189 | 280 => 190 | 281 => 191 | 282 => 192 | 287 => 194 | 316 => 195 | 171 => 53 | 205 => 196 | 321 => 197 | 322 => 198 | 243 => 72 | 246 => 86 | 283 => 108 | 284 => 109 | 285 => 110 | 286 => 111 | 129 => 142 | 317 => 141 | 318 => 143 | 319 => 144 | 320 => 145 | 337 => 162 | 338 => 163 | n => n, fun | 9 => 9 | 3 => 3 | 75 => 109 | 76 => 111 | 4 => 4 | 5 => 5 | 167 => 237 | 37 => 105 | 0 => 0 | 85 => 238 | 2 => 2 | 168 => 240 | 53 => 173 | 175 => 244 | 46 => 140 | 210 => 247 | 127 => 134 | 145 => 252 | 143 => 250 | 21 => 21 | 171 => 172 | 173 => 176 | 212 => 205 | 51 => 178 | 20 => 20 | 213 => 206 | 232 => 226 | 233 => 227 | 80 => 114 | n => n, fun | 15 => 7 | 16 => 8 | 17 => 2 | 18 => 3 | 19 => 4 | n => n⟩
theorem U8 : LaysC.n172 Tryz.prog Pp where
  mixed := by kernel_rfl
  f129 := Tryz.func142.trans (congrArg some (by kernel_rfl))
  f171 := Tryz.func53.trans (congrArg some (by kernel_rfl))
  f172 := Tryz.func172.trans (congrArg some (by kernel_rfl))
  f205 := Tryz.func196.trans (congrArg some (by kernel_rfl))
  f243 := Tryz.func72.trans (congrArg some (by kernel_rfl))
  f244 := Tryz.func182.trans (congrArg some (by kernel_rfl))
  f245 := Tryz.func183.trans (congrArg some (by kernel_rfl))
  f246 := Tryz.func86.trans (congrArg some (by kernel_rfl))
  f247 := Tryz.func188.trans (congrArg some (by kernel_rfl))
  f279 := Tryz.func189.trans (congrArg some (by kernel_rfl))
  f280 := Tryz.func190.trans (congrArg some (by kernel_rfl))
  f281 := Tryz.func191.trans (congrArg some (by kernel_rfl))
  f282 := Tryz.func192.trans (congrArg some (by kernel_rfl))
  f283 := Tryz.func108.trans (congrArg some (by kernel_rfl))
  f284 := Tryz.func109.trans (congrArg some (by kernel_rfl))
  f285 := Tryz.func110.trans (congrArg some (by kernel_rfl))
  f286 := Tryz.func111.trans (congrArg some (by kernel_rfl))
  f287 := Tryz.func194.trans (congrArg some (by kernel_rfl))
  f316 := Tryz.func195.trans (congrArg some (by kernel_rfl))
  f317 := Tryz.func141.trans (congrArg some (by kernel_rfl))
  f318 := Tryz.func143.trans (congrArg some (by kernel_rfl))
  f319 := Tryz.func144.trans (congrArg some (by kernel_rfl))
  f320 := Tryz.func145.trans (congrArg some (by kernel_rfl))
  f321 := Tryz.func197.trans (congrArg some (by kernel_rfl))
  f322 := Tryz.func198.trans (congrArg some (by kernel_rfl))
  f337 := Tryz.func162.trans (congrArg some (by kernel_rfl))
  f338 := Tryz.func163.trans (congrArg some (by kernel_rfl))
  t0 := Tryz.underlying0
  a0 := Tryz.isAgg0
  z0 := Tryz.sizeOf0
  v0 := Tryz.zeroValue0
  t2 := Tryz.underlying2
  a2 := Tryz.isAgg2
  z2 := Tryz.sizeOf2
  v2 := Tryz.zeroValue2
  t3 := Tryz.underlying3
  a3 := Tryz.isAgg3
  z3 := Tryz.sizeOf3
  v3 := Tryz.zeroValue3
  t4 := Tryz.underlying4
  a4 := Tryz.isAgg4
  z4 := Tryz.sizeOf4
  v4 := Tryz.zeroValue4
  t5 := Tryz.underlying5
  a5 := Tryz.isAgg5
  z5 := Tryz.sizeOf5
  v5 := Tryz.zeroValue5
  t9 := Tryz.underlying9
  a9 := Tryz.isAgg9
  z9 := Tryz.sizeOf9
  v9 := Tryz.zeroValue9
  t20 := Tryz.underlying20
  a20 := Tryz.isAgg20
  z20 := Tryz.sizeOf20
  v20 := Tryz.zeroValue20
  t21 := Tryz.underlying21
  a21 := Tryz.isAgg21
  z21 := Tryz.sizeOf21
  v21 := Tryz.zeroValue21
  t37 := Tryz.underlying105
  a37 := Tryz.isAgg105
  z37 := Tryz.sizeOf105
  v37 := Tryz.zeroValue105
  t46 := Tryz.underlying140
  a46 := Tryz.isAgg140
  z46 := Tryz.sizeOf140
  v46 := Tryz.zeroValue140
  t51 := Tryz.underlying178
  a51 := Tryz.isAgg178
  z51 := Tryz.sizeOf178
  v51 := Tryz.zeroValue178
  t53 := Tryz.underlying173
  a53 := Tryz.isAgg173
  z53 := Tryz.sizeOf173
  v53 := Tryz.zeroValue173
  t75 := Tryz.underlying109
  a75 := Tryz.isAgg109
  z75 := Tryz.sizeOf109
  v75 := Tryz.zeroValue109
  t76 := Tryz.underlying111
  a76 := Tryz.isAgg111
  z76 := Tryz.sizeOf111
  v76 := Tryz.zeroValue111
  t85 := Tryz.underlying238
  a85 := Tryz.isAgg238
  z85 := Tryz.sizeOf238
  v85 := Tryz.zeroValue238
  t127 := Tryz.underlying134
  a127 := Tryz.isAgg134
  z127 := Tryz.sizeOf134
  v127 := Tryz.zeroValue134
  t143 := Tryz.underlying250
  a143 := Tryz.isAgg250
  z143 := Tryz.sizeOf250
  v143 := Tryz.zeroValue250
  t145 := Tryz.underlying252
  a145 := Tryz.isAgg252
  z145 := Tryz.sizeOf252
  v145 := Tryz.zeroValue252
  t167 := Tryz.underlying237
  a167 := Tryz.isAgg237
  z167 := Tryz.sizeOf237
  v167 := Tryz.zeroValue237
  t168 := Tryz.underlying240
  a168 := Tryz.isAgg240
  z168 := Tryz.sizeOf240
  v168 := Tryz.zeroValue240
  t171 := Tryz.underlying172
  a171 := Tryz.isAgg172
  z171 := Tryz.sizeOf172
  v171 := Tryz.zeroValue172
  t173 := Tryz.underlying176
  a173 := Tryz.isAgg176
  z173 := Tryz.sizeOf176
  v173 := Tryz.zeroValue176
  t175 := Tryz.underlying244
  a175 := Tryz.isAgg244
  z175 := Tryz.sizeOf244
  v175 := Tryz.zeroValue244
  t210 := Tryz.underlying247
  a210 := Tryz.isAgg247
  z210 := Tryz.sizeOf247
  v210 := Tryz.zeroValue247
  t212 := Tryz.underlying205
  a212 := Tryz.isAgg205
  z212 := Tryz.sizeOf205
  v212 := Tryz.zeroValue205
  t213 := Tryz.underlying206
  a213 := Tryz.isAgg206
  z213 := Tryz.sizeOf206
  t232 := Tryz.underlying226
  a232 := Tryz.isAgg226
  z232 := Tryz.sizeOf226
  v232 := Tryz.zeroValue226
  t233 := Tryz.underlying227
  a233 := Tryz.isAgg227
  z233 := Tryz.sizeOf227
  v233 := Tryz.zeroValue227
  g15 := by kernel_rfl
  g16 := by kernel_rfl
  g17 := by kernel_rfl
  g18 := by kernel_rfl
  g19 := by kernel_rfl
  t80 := Tryz.underlying114
  a80 := Tryz.isAgg114
  z80 := Tryz.sizeOf114
  v80 := Tryz.zeroValue114
  i0 := by kernel_rfl
  i2 := by kernel_rfl
  i3 := by kernel_rfl
  i4 := by kernel_rfl
  i5 := by kernel_rfl
  i9 := by kernel_rfl
  i20 := by kernel_rfl
  i21 := by kernel_rfl
  i37 := by kernel_rfl
  i46 := by kernel_rfl
  i51 := by kernel_rfl
  i53 := by kernel_rfl
  i75 := by kernel_rfl
  i76 := by kernel_rfl
  i80 := by kernel_rfl
  i85 := by kernel_rfl
  i127 := by kernel_rfl
  i143 := by kernel_rfl
  i145 := by kernel_rfl
  i167 := by kernel_rfl
  i168 := by kernel_rfl
  i171 := by kernel_rfl
  i173 := by kernel_rfl
  i175 := by kernel_rfl
  i210 := by kernel_rfl
  i212 := by kernel_rfl
  i232 := by kernel_rfl
  i233 := by kernel_rfl
  m15 := by kernel_rfl
  m16 := by kernel_rfl
  m17 := by kernel_rfl
  m18 := by kernel_rfl
  m19 := by kernel_rfl
  c0 := by kernel_rfl
  c2 := by kernel_rfl
  c3 := by kernel_rfl
  c4 := by kernel_rfl
  c5 := by kernel_rfl
  c9 := by kernel_rfl
  c20 := by kernel_rfl
  c21 := by kernel_rfl
  c37 := by kernel_rfl
  c46 := by kernel_rfl
  c51 := by kernel_rfl
  c53 := by kernel_rfl
  c75 := by kernel_rfl
  c76 := by kernel_rfl
  c80 := by kernel_rfl
  c85 := by kernel_rfl
  c127 := by kernel_rfl
  c143 := by kernel_rfl
  c145 := by kernel_rfl
  c167 := by kernel_rfl
  c168 := by kernel_rfl
  c171 := by kernel_rfl
  c173 := by kernel_rfl
  c175 := by kernel_rfl
  c210 := by kernel_rfl
  c212 := by kernel_rfl
  c213 := by kernel_rfl
  c232 := by kernel_rfl
  c233 := by kernel_rfl
theorem Kj (s : Aq) (hs : s.length ≤ 10000000) : Ew Tryz.prog 172 #[BQ s] [] (fun w => F8 7 w ∧ F8 8 w) (fun v B => (∃ k : Int, Lib.atoiAll s = .ok k ∧ v = .tuple #[.int .i64 k, .nilIface] ∧ B = []) ∨ (∃ (k : Int) (t : TypeId) (x : Value), (∀ j, Lib.atoiAll s ≠ .ok j) ∧ v = .tuple #[.int .i64 k, .iface t x] ∧ B = [])) :=
  V8 U8 s hs (by kernel_rfl) (by kernel_rfl)
end Go.Proofs.YtoidpggbbfncpaaGreatDoor
