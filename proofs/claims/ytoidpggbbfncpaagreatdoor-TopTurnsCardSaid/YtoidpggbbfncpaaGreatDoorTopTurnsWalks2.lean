/- What the functions that the law TopTurns reaches compute: walks, part 2. No condition. -/
import Derived.Test.YtoidpggbbfncpaaGreatDoorCards
import Derived.Test.YtoidpggbbfncpaaGreatDoorTie
import Derived.Deep.DeepHandedRow
import Derived.Test.YtoidpggbbfncpaaGreatDoorRows
import Derived.Test.YtoidpggbbfncpaaGreatDoorTopTurnsEc3
import Derived.Test.YtoidpggbbfncpaaGreatDoorTopTurnsRa1
import Derived.Test.YtoidpggbbfncpaaGreatDoorTopTurnsRb1
import Derived.Test.YtoidpggbbfncpaaGreatDoorTopTurnsRc1
import Derived.Test.YtoidpggbbfncpaaGreatDoorTopTurnsWalks
set_option linter.unusedSimpArgs false
set_option linter.unusedVariables false
set_option maxRecDepth 100000
set_option maxHeartbeats 1000000
namespace Go.Proofs.YtoidpggbbfncpaaGreatDoor
open Go Go.Ing Go.RowKit Go.ChangeShapes Go.WideShapes Go.ChangeAt
theorem HD (b : Nat) (T : AF) (g : Hd) (hg : g.len = T.out.length) (hb : 0 ≤ T.b ∧ T.b < 6) (hw : T.w.DE) (hn : T.out.length ≤ 90000) : FL Tryz.prog 100 #[.pointer (some ⟨b, 0, none⟩)] [Ac.box b 163 (Ad.enc ⟨T.w, T.b, g⟩), Ac.own g 56 16 (T.out.flatMap Ing.Event.enc)] (fun w => (GV 0 AH.DG w ∧ 0 ∉ Cd [Ac.box b 163 (Ad.enc ⟨T.w, T.b, g⟩), Ac.own g 56 16 (T.out.flatMap Ing.Event.enc)])) (fun v B => ∃ g' : Hd, v = .tuple #[] ∧ g'.len = (T.look).out.length ∧ B = [Ac.box b 163 (Ad.enc ⟨(T.look).w, (T.look).b, g'⟩), Ac.own g' 56 16 ((T.look).out.flatMap Ing.Event.enc)]) := by
 intro w hS0 hH
 obtain ⟨gl0, gm0⟩ := hH
 refine Al _ _ Tryz.func100 rfl rfl rfl (hS0) ?_
 refine Ao ?_
 refine BE (N := 12) [0, 0, 2, 6, 14, 1, 33, 97, 255, 511, 0, 2047] mix (by kernel_rfl) rfl ?_
 refine Pf 0 rfl (AE rfl) (Pf 1 rfl (AE rfl) (Pf 2 rfl (BT rfl) (Pf 3 rfl (Ah CP rfl) (Pf 4 rfl (AG rfl A3 .m0 Ad.l1 rfl rfl) (Pf 5 rfl (BT rfl) (Pf 6 rfl (Ah A9 rfl) (Pf 7 rfl (Ah Bn rfl) ?_)))))))
 refine Pf 8 rfl (AR C6 rfl rfl (by (try dsimp only at *); (try simp only [List.length_append, List.length_cons, List.length_nil]); omega) (by (try dsimp only at *); (try simp only [List.length_append, List.length_cons, List.length_nil]); omega)) ?_
 refine Pf 9 rfl (AZ rfl Fj .m0 ((Ad.l0.comp AH.l2).comp (AU.arr (n := 6) Aj.fl (by (try dsimp only at *); (try simp only [List.length_append, List.length_cons, List.length_nil]); omega) (by (try dsimp only at *); (try simp only [List.length_append, List.length_cons, List.length_nil]); omega))) rfl) ?_
 refine An 10 rfl (by kernel_rfl) ?_
 refine BH rfl Lw rfl (fun b1 => ?_)
 refine Bp rfl ⟨?_, ?_⟩
 · exact (Po rfl (AZ rfl Fj .m1 ((Ad.l0.comp AH.l2).comp (AU.arr (n := 6) Aj.fl (by (try dsimp only at *); (try simp only [List.length_append, List.length_cons, List.length_nil]); omega) (by (try dsimp only at *); (try simp only [List.length_append, List.length_cons, List.length_nil]); omega))) rfl) rfl rfl (Po rfl (AR C6 rfl rfl (by (try dsimp only at *); (try simp only [List.length_append, List.length_cons, List.length_nil]); omega) (by (try dsimp only at *); (try simp only [List.length_append, List.length_cons, List.length_nil]); omega)) rfl rfl (Po rfl (Ah Bn rfl) rfl rfl (Po rfl (Ah A9 rfl) rfl rfl (Po rfl (BT rfl) rfl rfl (Po rfl (AG rfl A3 .m1 Ad.l1 rfl rfl) rfl rfl (Po rfl (Ah CP rfl) rfl rfl (Po rfl (BT rfl) rfl rfl (Po rfl (AE rfl) rfl rfl (Po rfl (AE rfl) rfl rfl Aq))))))))))
 refine An 11 rfl (by kernel_rfl) ?_
 refine AT (AK (AU.id Aj.fl.len Aj.fl.one) rfl rfl rfl KQ rfl .h) ?_
 refine BN rfl ⟨?_, ?_⟩
 · exact (Pk (Pk (Pk (Pk (Pk (Pk (Pk (Pk (Pk (Pk Aq))))))))))
 refine A4 (by kernel_rfl) ?_
 refine AB (.t2 0 2) ?_
 refine AA (Ao (Ao ?_))
 refine BE (N := 8) [0, 1, 3, 7, 0, 16, 63, 127] mix (by kernel_rfl) rfl ?_
 refine Pf 0 rfl (AE rfl) (Pf 1 rfl (BT rfl) (Pf 2 rfl (Ah A9 rfl) (Pf 3 rfl (AZ rfl BW .m1 Ad.l0 rfl) (Pf 4 rfl (Ah C2 rfl) (Pf 5 rfl (AG rfl A3 .m0 Aj.l3 rfl rfl) ?_)))))
 refine BZ 6 rfl rfl (by kernel_rfl) (Lb (K9 (D7 Ug (.c rfl (.c rfl .n)) (fun w hS => Ea _ _ w)))) ?_
 refine Pf 7 rfl (BV rfl) ?_
 refine A4 (by kernel_rfl) ?_
 refine AB (.t3 0 2 26) ?_
 refine AA ?_
 refine Gc (fun c1 => ?_) (fun c1 => ?_)
 ·
  have c1p := kz c1
  refine Gs (Gm rfl ?_)
  refine Ag rfl ED (.c rfl (.c rfl .n)) (.c (.t .h) (.c (.t .h) .n)) (Bc _ _ _ _ (by assumption) (by first | exact hb | (rw [hXb]; exact hb)) (by (try simp only [AF.CE, AF.Cb, (AF.HO _ _ _).2.2] at *); (try dsimp only at *); omega)) (fun v1 B hv => ?_)
  obtain ⟨y2, rfl, y3, rfl⟩ := hv
  refine Gn (.nil _) (Ab (AD ?_))
  refine AY rfl .n ?_
  intro w1 hS
  have hS := (hS.perm (Ax.perm (.c .h (.c .h .n)))).A1
  refine ⟨_, ⟨?gq1, rfl, ?hl1, ?hB1⟩, hS⟩
  case hB1 => rw [show T.look = _ from BB c1]; rfl
  case hl1 => rw [show T.look = _ from BB c1]; assumption
 have c1p := kz c1
 have hr := AH.To c1
 have hnr := hw.ro (T.w.AN.at T.b).room
 refine Aa ?_
 refine AB (.t2 0 2) ?_
 refine AA (Ao ?_)
 refine BE (N := 10) [0, 0, 2, 1, 9, 25, 63, 127, 0, 511] mix (by kernel_rfl) rfl ?_
 refine Pf 0 rfl (AE rfl) (Pf 1 rfl (Ah C2 rfl) (Pf 2 rfl (AG rfl A3 .m0 Aj.l3 rfl rfl) (Pf 3 rfl (BT rfl) (Pf 4 rfl (Ah A9 rfl) (Pf 5 rfl (Ah Gv rfl) ?_)))))
 refine Pf 6 rfl (AR Ox rfl rfl (by (try dsimp only at *); (try simp only [List.length_append, List.length_cons, List.length_nil]); omega) (by (try dsimp only at *); (try simp only [List.length_append, List.length_cons, List.length_nil]); omega)) ?_
 refine Pf 7 rfl (AZ rfl OI .m1 ((Ad.l0.comp AH.l0).comp (AU.arr (n := 6) Room.fl (by (try dsimp only at *); (try simp only [List.length_append, List.length_cons, List.length_nil]); omega) (by (try dsimp only at *); (try simp only [List.length_append, List.length_cons, List.length_nil]); omega))) rfl) ?_
 refine An 8 rfl (by kernel_rfl) ?_
 refine BH rfl O1 rfl (fun b2 => ?_)
 refine Bp rfl ⟨?_, ?_⟩
 · exact (Po rfl (AZ rfl OI .m2 ((Ad.l0.comp AH.l0).comp (AU.arr (n := 6) Room.fl (by (try dsimp only at *); (try simp only [List.length_append, List.length_cons, List.length_nil]); omega) (by (try dsimp only at *); (try simp only [List.length_append, List.length_cons, List.length_nil]); omega))) rfl) rfl rfl (Po rfl (AR Ox rfl rfl (by (try dsimp only at *); (try simp only [List.length_append, List.length_cons, List.length_nil]); omega) (by (try dsimp only at *); (try simp only [List.length_append, List.length_cons, List.length_nil]); omega)) rfl rfl (Po rfl (Ah Gv rfl) rfl rfl (Po rfl (Ah A9 rfl) rfl rfl (Po rfl (BT rfl) rfl rfl (Po rfl (AG rfl A3 .m1 Aj.l3 rfl rfl) rfl rfl (Po rfl (Ah C2 rfl) rfl rfl (Po rfl (AE rfl) rfl rfl Aq))))))))
 refine An 9 rfl (by kernel_rfl) ?_
 refine AT (AK (AU.id Room.fl.len Room.fl.one) rfl rfl rfl Q0 rfl .h) ?_
 refine BN rfl ⟨?_, ?_⟩
 · exact (Pk (Pk (Pk (Pk (Pk (Pk (Pk (Pk Aq))))))))
 refine A4 (by kernel_rfl) ?_
 refine AB (.t3 0 2 3) ?_
 refine AA (Gs (Gm rfl (Gt (Ah Z0 rfl) (Gt (AG rfl CV .m0 Room.l0 rfl rfl) ?_))))
 refine Gt (CT rfl rfl (by (try dsimp only at *); (try simp only [List.length_append, List.length_cons, List.length_nil]); omega)) ?_
 refine Gt (CT rfl rfl (by (try dsimp only at *); (try simp only [List.length_append, List.length_cons, List.length_nil]); omega)) ?_
 refine Ag rfl ED (.c rfl (.c rfl .n)) (.c (.t (.t .h)) (.c (.t (.t .h)) .n)) (Bc _ _ _ _ (by assumption) (by first | exact hb | (rw [hXb]; exact hb)) (by (try simp only [AF.CE, AF.Cb, (AF.HO _ _ _).2.2] at *); (try dsimp only at *); omega)) (fun v4 B hv => ?_)
 obtain ⟨y5, rfl, y6, rfl⟩ := hv
 refine Gn (.t3 0 2 3) (Gs (Ga rfl (AQ (AA (CG (Gt (Ah MM rfl) (Gt (AZ rfl ZD .m2 Room.l2 rfl) ?_)))))))
 refine Gm rfl (Gn (.t6 0 2 3 4 44 45) (Af ?_))
 refine Bo (.t6 4 45 0 2 3 44) ?_
 refine Gk (fun (k : Int) (x : Ap) => 0 ≤ k ∧ k ≤ 6 ∧ x = AF.Ia (T.w.BQ.at T.me.room) k.toNat) (fun (k : Int) (x : Ap) => (6 - k).toNat) (fun (k : Int) (x : Ap) => [(4, BS x), (45, .int .i64 k)]) (fun (k : Int) (x : Ap) => []) (0) (_) ?_ rfl rfl (fun k x hI1 => ?_)
 · exact ⟨by omega, by omega, rfl⟩
 obtain ⟨hI11, hI12, hI13⟩ := hI1
 refine Gs (Gt (A8 rfl rfl) (AQ (AA (Ao ?_))))
 refine Gc (fun c2 => ?_) (fun c2 => ?_)
 ·
  have c2p := kz c2
  have hcl := AH.JC k
  have hwl := AF.ML (T.w.BQ.at T.me.room) k.toNat
  rw [← hI13] at hwl
  have hst := AF.TX (r := T.w.BQ.at T.me.room) hI11
  refine Aa ?_
  refine AB (.t6 0 2 3 4 44 45) ?_
  refine AA (Ao (Af (Gs (Gm rfl ?_))))
  refine Gt (KL Bv Tryz.underlying23 C5 A3 rfl rfl (by (try dsimp only at *); (try simp only [List.length_append, List.length_cons, List.length_nil]); omega) (by (try dsimp only at *); (try simp only [List.length_append, List.length_cons, List.length_nil]); omega) rfl) ?_
  refine Ga rfl (Ga rfl (Gn (.t8 0 2 3 4 5 6 44 45) (CG (Gm rfl (Gt (Ae rfl rfl) (Gn (.t8 0 2 3 4 5 44 45 50) ?_))))))
  refine Gc (fun c3 => ?_) (fun c3 => ?_)
  ·
   have c3p := kz c3
   have cp3 : decide ((T.w.BQ.at T.me.room).CM.at k = 0) = true := c3
   rw [BB cp3] at hst
   refine Bf (AX (Ai ?_))
   refine AB (.t6 0 2 3 4 44 45) ?_
   refine AA (AJ ?_)
   refine Gt (Av rfl rfl (IntWalk.i64_in _ (by (try dsimp only at *); (try simp only [List.length_append, List.length_cons, List.length_nil]); omega))) ?_
   refine Gm rfl ?_
   refine AQ (AB (.t6 0 2 3 4 44 45) ?_)
   refine Cq (k + 1) _ ?_ ?_ (.t6 4 45 0 2 3 44) (.refl _)
   · exact ⟨by omega, by omega, by rw [hst, ← hI13]⟩
   · omega
  have c3p := kz c3
  have cp3 : decide ((T.w.BQ.at T.me.room).CM.at k = 0) = false := c3
  rw [AW cp3] at hst
  refine Aa ?_
  refine AB (.t7 0 2 3 4 5 44 45) ?_
  refine AA (Gs (Gm rfl (Gm rfl ?_)))
  refine BA rfl bP (.c rfl .n) (fun w hS => Hq _ w (gl0.stM gm0 hS)) ?_
  refine Gt (CT rfl rfl (by (try dsimp only at *); (try simp only [List.length_append, List.length_cons, List.length_nil]); omega)) ?_
  refine Gt (CT rfl rfl (by (try dsimp only at *); (try simp only [List.length_append, List.length_cons, List.length_nil]); omega)) ?_
  refine Ga rfl (Gn (.t7 0 2 3 4 5 44 45) (Gs (Gm rfl (Gt (Ah Mc rfl) ?_))))
  refine Gt (AR VO rfl rfl (by (try dsimp only at *); (try simp only [List.length_append, List.length_cons, List.length_nil]); omega) (by (try dsimp only at *); (try simp only [List.length_append, List.length_cons, List.length_nil]); omega)) ?_
  refine Gt (AG rfl Dj .m2 (Room.l3.comp (AU.arr (n := 6) HF (by (try dsimp only at *); (try simp only [List.length_append, List.length_cons, List.length_nil]); omega) (by (try dsimp only at *); (try simp only [List.length_append, List.length_cons, List.length_nil]); omega))) rfl rfl) ?_
  refine Gn (.t7 0 2 3 4 44 45 59) ?_
  refine Gc (fun c4 => ?_) (fun c4 => ?_)
  ·
   have c4p := kz c4
   have cp4 : (T.w.BQ.at T.me.room).shut.at k = true := c4
   rw [BB cp4] at hst
   refine AJ (Gm rfl ?_)
   refine Gt (CT rfl rfl (by (try dsimp only at *); (try simp only [List.length_append, List.length_cons, List.length_nil]); omega)) ?_
   refine Ga rfl ?_
   refine AQ (AB (.t6 0 2 3 4 44 45) ?_)
   refine AV (AA (AJ ?_))
   refine Gt (Av rfl rfl (IntWalk.i64_in _ (by (try dsimp only at *); (try simp only [List.length_append, List.length_cons, List.length_nil]); omega))) ?_
   refine Gm rfl ?_
   refine AQ (AB (.t6 0 2 3 4 44 45) ?_)
   refine Cq (k + 1) _ ?_ ?_ (.t6 4 45 0 2 3 44) (.refl _)
   · exact ⟨by omega, by omega, by rw [hst, ← hI13]⟩
   · omega
  have c4p := kz c4
  have cp4 : (T.w.BQ.at T.me.room).shut.at k = false := c4
  rw [AW cp4] at hst
  refine Aa ?_
  refine AB (.t6 0 2 3 4 44 45) ?_
  refine AV (AA (AJ ?_))
  refine Gt (Av rfl rfl (IntWalk.i64_in _ (by (try dsimp only at *); (try simp only [List.length_append, List.length_cons, List.length_nil]); omega))) ?_
  refine Gm rfl ?_
  refine AQ (AB (.t6 0 2 3 4 44 45) ?_)
  refine Cq (k + 1) _ ?_ ?_ (.t6 4 45 0 2 3 44) (.refl _)
  · exact ⟨by omega, by omega, by rw [hst, ← hI13]⟩
  · omega
 have c2p := kz c2
 obtain rfl : k = 6 := by omega
 subst hI13
 refine Bf (AX (AX (Ai ?_)))
 refine AB (.t3 0 2 4) ?_
 refine AA (Gs (Gm rfl (Gm rfl ?_)))
 refine Ag rfl ED (.c rfl (.c rfl .n)) (.c .h (.c .h .n)) (Bc _ _ _ _ (by assumption) (by first | exact hb | (rw [hXb]; exact hb)) (by (try simp only [AF.CE, AF.Cb, (AF.HO _ _ _).2.2] at *); (try dsimp only at *); omega)) (fun v7 B hv => ?_)
 obtain ⟨y8, rfl, y9, rfl⟩ := hv
 refine Gn (.t2 0 2) (Ao (Ao ?_))
 refine BE (N := 8) [0, 1, 3, 7, 0, 16, 63, 127] mix (by kernel_rfl) rfl ?_
 refine Pf 0 rfl (AE rfl) (Pf 1 rfl (BT rfl) (Pf 2 rfl (Ah A9 rfl) (Pf 3 rfl (AZ rfl BW .m0 Ad.l0 rfl) (Pf 4 rfl (Ah C2 rfl) (Pf 5 rfl (AG rfl A3 .m3 Aj.l3 rfl rfl) ?_)))))
 refine An 6 rfl (by kernel_rfl) ?_
 refine Ag rfl SZ (.c rfl (.c rfl (.c rfl .n))) .n (FF _ _ _) (fun v10 B hv => ?_)
 obtain ⟨y11, rfl, y12, rfl⟩ := hv
 refine Bp rfl ⟨?_, ?_⟩
 · exact (Pk (Pk (Pk (Pk (Pk (Pk Aq))))))
 refine Pf 7 rfl (A0 rfl) ?_
 refine A4 (by kernel_rfl) ?_
 refine AB (.t2 0 7) ?_
 refine AA (Gs (Gm rfl (Gt (Ar rfl Tryz.underlying169 rfl) (Gt (Cj rfl rfl) (Gn (.t3 0 7 75) ?_)))))
 refine Gc (fun c5 => ?_) (fun c5 => ?_)
 ·
  have c5p := kz c5
  rw [y12] at c5
  refine AJ (Gm rfl (Gm rfl ?_))
  refine Ag rfl ZC (.c rfl (.c rfl (.c rfl .n))) (.c (.t .h) (.c (.t .h) (.c .h .n))) (LW _ T.Jl _ [72, 101, 114, 101, 32, 105, 115] _ (T.w.has 0 T.me.room) (by assumption) hb (by assumption) (AH.H6 _ _ _) (fun i hi => AH.Fp hi) hw (by decide) (by rw [(AF.Tt T).2.2]; omega)) (fun v14 B hv => ?_)
  obtain ⟨y15, rfl, y16, rfl⟩ := hv
  refine Gn (.t1 0) (Gs (Gm rfl (AQ (AA (Af ?_)))))
  refine Bo (.t2 79 0) ?_
  refine Be (.t .h) ?_
  refine Be (.t .h) ?_
  refine Dt (fun (k : Int) (X : AF) (h : Hd) => 0 ≤ k ∧ k ≤ 6 ∧ X = T.D5.FX k.toNat ∧ h.len = X.out.length) (fun (k : Int) (X : AF) (h : Hd) => (6 - k).toNat) (fun (k : Int) (X : AF) (h : Hd) => [(79, .int .i64 k)]) (fun (k : Int) (X : AF) (h : Hd) => [Ac.box b 163 (Ad.enc ⟨X.w, X.b, h⟩), Ac.own h 56 16 (X.out.flatMap Ing.Event.enc)]) (0) (_) (_) ?_ rfl rfl (fun k X h hI2 => ?_)
  · exact ⟨by omega, by omega, (show T.D5 = _ from BB c5).symm, by assumption⟩
  obtain ⟨hI21, hI22, hI23, hI24⟩ := hI2
  refine Gs (Gt (A8 rfl rfl) (AQ (AA (Ao ?_))))
  refine Gc (fun c6 => ?_) (fun c6 => ?_)
  ·
   have c6p := kz c6
   have hnb := hw.be k
   have hXl := AF.KD T.D5 k.toNat
   have hBl := AF.Q7 T
   rw [← hI23] at hXl
   have hXw : X.w = T.w := hXl.1.trans hBl.1
   have hXb : X.b = T.b := hXl.2.1.trans hBl.2.1
   rw [← hXw] at hnb
   refine Aa ?_
   refine AB (.t2 0 79) ?_
   refine AA (Ao (Af (Gs (Gm rfl (Ga rfl (Gn (.t3 0 8 79) (Ao ?_)))))))
   refine BE (N := 18) [0, 0, 2, 6, 14, 31, 63, 127, 255, 511, 1023, 127, 2175, 6271, 14463, 127, 65535, 131071] mix (by kernel_rfl) rfl ?_
   refine Pf 0 rfl (AE rfl) (Pf 1 rfl (AE rfl) (Pf 2 rfl (BT rfl) (Pf 3 rfl (Ah CP rfl) (Pf 4 rfl (AG rfl A3 .m0 Ad.l1 rfl rfl) (Pf 5 rfl (CX rfl rfl) (Pf 6 rfl (AE rfl) (MU 7 88 rfl rfl rfl (fun q => AE rfl) ?_)))))))
   refine MU 8 88 rfl rfl rfl (fun q => BT (Bh rfl q)) (MU 9 88 rfl rfl rfl (fun q => Ah A9 (Bh rfl q)) (MU 10 88 rfl rfl rfl (fun q => AZ (Bh rfl q) BW .m0 Ad.l0 rfl) (MU 11 88 rfl rfl rfl (fun q => AE rfl) (MU 12 88 rfl rfl rfl (fun q => BT (Bh rfl q)) (MU 13 88 rfl rfl rfl (fun q => Ah CP (Bh rfl q)) (MU 14 88 rfl rfl rfl (fun q => AG (Bh rfl q) A3 .m0 Ad.l1 rfl rfl) (MU 15 88 rfl rfl rfl (fun q => AE rfl) ?_)))))))
   refine BZ 16 rfl rfl (by kernel_rfl) (Rh (t := 88) rfl rfl (fun q => K9 (D7 Nu (.c (Bh rfl q) (.c (Bh rfl q) (.c (Bh rfl q) .n))) (fun w hS => DN _ _ _ w)))) ?_
   refine Pf 17 rfl (BK rfl rfl (fun h => h)) ?_
   refine A4 (by kernel_rfl) ?_
   refine AB (.t4 0 8 79 99) ?_
   refine AA ?_
   refine Gc (fun c7 => ?_) (fun c7 => ?_)
   ·
    have c7p := kz c7
    have cp7 : (!decide (k = T.D5.b) && T.D5.w.Il T.D5.b k) = true := by rw [hBl.1, hBl.2.1, ← hXw, ← hXb]; exact c7
    refine AJ (Gm rfl (Gm rfl (Gm rfl (Gt (BT rfl) (Gt (Ah A9 rfl) (Gt (Ah Bn rfl) ?_))))))
    refine Gt (AR C6 rfl rfl (by (try dsimp only at *); (try simp only [List.length_append, List.length_cons, List.length_nil]); omega) (by (try dsimp only at *); (try simp only [List.length_append, List.length_cons, List.length_nil]); omega)) ?_
    refine Gt (Ah K1 rfl) ?_
    refine Gt (AG rfl CV .m0 (((Ad.l0.comp AH.l2).comp (AU.arr (n := 6) Aj.fl (by (try dsimp only at *); (try simp only [List.length_append, List.length_cons, List.length_nil]); omega) (by (try dsimp only at *); (try simp only [List.length_append, List.length_cons, List.length_nil]); omega))).comp Aj.l0) rfl rfl) ?_
    refine Gt (CT rfl rfl (by (try dsimp only at *); (try simp only [List.length_append, List.length_cons, List.length_nil]); omega)) ?_
    refine Ag rfl ED (.c rfl (.c rfl .n)) (.c .h (.c .h .n)) (Bc _ _ _ _ (by assumption) (by first | exact hb | (rw [hXb]; exact hb)) (by (try simp only [AF.CE, AF.Cb, (AF.HO _ _ _).2.2] at *); (try dsimp only at *); omega)) (fun v17 B hv => ?_)
    obtain ⟨y18, rfl, y19, rfl⟩ := hv
    refine AQ (AB (.t2 0 79) ?_)
    refine AV (AA (AJ ?_))
    refine Gt (Av rfl rfl (IntWalk.i64_in _ (by (try dsimp only at *); (try simp only [List.length_append, List.length_cons, List.length_nil]); omega))) ?_
    refine Gm rfl ?_
    refine AQ (AB (.t2 0 79) ?_)
    refine Bz (k + 1) _ _ ?_ ?_ (.t2 79 0) (.refl _)
    · exact ⟨by omega, by omega, by rw [AF.JG hI21, BB cp7, ← hI23, hBl.1, ← hXw], by assumption⟩
    · omega
   have c7p := kz c7
   have cp7 : (!decide (k = T.D5.b) && T.D5.w.Il T.D5.b k) = false := by rw [hBl.1, hBl.2.1, ← hXw, ← hXb]; exact c7
   refine Aa ?_
   refine AB (.t2 0 79) ?_
   refine AV (AA (AJ ?_))
   refine Gt (Av rfl rfl (IntWalk.i64_in _ (by (try dsimp only at *); (try simp only [List.length_append, List.length_cons, List.length_nil]); omega))) ?_
   refine Gm rfl ?_
   refine AQ (AB (.t2 0 79) ?_)
   refine Bz (k + 1) _ _ ?_ ?_ (.t2 79 0) (.refl _)
   · exact ⟨by omega, by omega, by rw [AF.JG hI21, AW cp7, ← hI23], by assumption⟩
   · omega
  have c6p := kz c6
  obtain rfl : k = 6 := by omega
  refine Bf (AX (AX (Ai ?_)))
  refine Bk rfl .n ?_
  intro w1 hS
  have hS := (hS.perm (Ax.perm (.c .h (.c .h .n)))).A1
  have hq : T.look = X := (show T.look = _ from AW c1).trans hI23.symm
  refine ⟨_, ⟨?gqc6, rfl, ?hlc6, ?hBc6⟩, hS⟩
  case hBc6 => rw [hq]
  case hlc6 => rw [hq]; assumption
 have c5p := kz c5
 rw [y12] at c5
 refine Aa ?_
 refine AB (.t1 0) ?_
 refine AA (Gs (Gm rfl (AQ (AA (Af ?_)))))
 refine Bo (.t2 79 0) ?_
 refine Be (.t (.t .h)) ?_
 refine Be (.t (.t .h)) ?_
 refine Dt (fun (k : Int) (X : AF) (h : Hd) => 0 ≤ k ∧ k ≤ 6 ∧ X = T.D5.FX k.toNat ∧ h.len = X.out.length) (fun (k : Int) (X : AF) (h : Hd) => (6 - k).toNat) (fun (k : Int) (X : AF) (h : Hd) => [(79, .int .i64 k)]) (fun (k : Int) (X : AF) (h : Hd) => [Ac.box b 163 (Ad.enc ⟨X.w, X.b, h⟩), Ac.own h 56 16 (X.out.flatMap Ing.Event.enc)]) (0) (_) (_) ?_ rfl rfl (fun k X h hI2 => ?_)
 · exact ⟨by omega, by omega, (show T.D5 = _ from AW c5).symm, by assumption⟩
 obtain ⟨hI21, hI22, hI23, hI24⟩ := hI2
 refine Gs (Gt (A8 rfl rfl) (AQ (AA (Ao ?_))))
 refine Gc (fun c8 => ?_) (fun c8 => ?_)
 ·
  have c8p := kz c8
  have hnb := hw.be k
  have hXl := AF.KD T.D5 k.toNat
  have hBl := AF.Q7 T
  rw [← hI23] at hXl
  have hXw : X.w = T.w := hXl.1.trans hBl.1
  have hXb : X.b = T.b := hXl.2.1.trans hBl.2.1
  rw [← hXw] at hnb
  refine Aa ?_
  refine AB (.t2 0 79) ?_
  refine AA (Ao (Af (Gs (Gm rfl (Ga rfl (Gn (.t3 0 8 79) (Ao ?_)))))))
  refine BE (N := 18) [0, 0, 2, 6, 14, 31, 63, 127, 255, 511, 1023, 127, 2175, 6271, 14463, 127, 65535, 131071] mix (by kernel_rfl) rfl ?_
  refine Pf 0 rfl (AE rfl) (Pf 1 rfl (AE rfl) (Pf 2 rfl (BT rfl) (Pf 3 rfl (Ah CP rfl) (Pf 4 rfl (AG rfl A3 .m0 Ad.l1 rfl rfl) (Pf 5 rfl (CX rfl rfl) (Pf 6 rfl (AE rfl) (MU 7 88 rfl rfl rfl (fun q => AE rfl) ?_)))))))
  refine MU 8 88 rfl rfl rfl (fun q => BT (Bh rfl q)) (MU 9 88 rfl rfl rfl (fun q => Ah A9 (Bh rfl q)) (MU 10 88 rfl rfl rfl (fun q => AZ (Bh rfl q) BW .m0 Ad.l0 rfl) (MU 11 88 rfl rfl rfl (fun q => AE rfl) (MU 12 88 rfl rfl rfl (fun q => BT (Bh rfl q)) (MU 13 88 rfl rfl rfl (fun q => Ah CP (Bh rfl q)) (MU 14 88 rfl rfl rfl (fun q => AG (Bh rfl q) A3 .m0 Ad.l1 rfl rfl) (MU 15 88 rfl rfl rfl (fun q => AE rfl) ?_)))))))
  refine BZ 16 rfl rfl (by kernel_rfl) (Rh (t := 88) rfl rfl (fun q => K9 (D7 Nu (.c (Bh rfl q) (.c (Bh rfl q) (.c (Bh rfl q) .n))) (fun w hS => DN _ _ _ w)))) ?_
  refine Pf 17 rfl (BK rfl rfl (fun h => h)) ?_
  refine A4 (by kernel_rfl) ?_
  refine AB (.t4 0 8 79 99) ?_
  refine AA ?_
  refine Gc (fun c9 => ?_) (fun c9 => ?_)
  ·
   have c9p := kz c9
   have cp7 : (!decide (k = T.D5.b) && T.D5.w.Il T.D5.b k) = true := by rw [hBl.1, hBl.2.1, ← hXw, ← hXb]; exact c9
   refine AJ (Gm rfl (Gm rfl (Gm rfl (Gt (BT rfl) (Gt (Ah A9 rfl) (Gt (Ah Bn rfl) ?_))))))
   refine Gt (AR C6 rfl rfl (by (try dsimp only at *); (try simp only [List.length_append, List.length_cons, List.length_nil]); omega) (by (try dsimp only at *); (try simp only [List.length_append, List.length_cons, List.length_nil]); omega)) ?_
   refine Gt (Ah K1 rfl) ?_
   refine Gt (AG rfl CV .m0 (((Ad.l0.comp AH.l2).comp (AU.arr (n := 6) Aj.fl (by (try dsimp only at *); (try simp only [List.length_append, List.length_cons, List.length_nil]); omega) (by (try dsimp only at *); (try simp only [List.length_append, List.length_cons, List.length_nil]); omega))).comp Aj.l0) rfl rfl) ?_
   refine Gt (CT rfl rfl (by (try dsimp only at *); (try simp only [List.length_append, List.length_cons, List.length_nil]); omega)) ?_
   refine Ag rfl ED (.c rfl (.c rfl .n)) (.c .h (.c .h .n)) (Bc _ _ _ _ (by assumption) (by first | exact hb | (rw [hXb]; exact hb)) (by (try simp only [AF.CE, AF.Cb, (AF.HO _ _ _).2.2] at *); (try dsimp only at *); omega)) (fun v20 B hv => ?_)
   obtain ⟨y21, rfl, y22, rfl⟩ := hv
   refine AQ (AB (.t2 0 79) ?_)
   refine AV (AA (AJ ?_))
   refine Gt (Av rfl rfl (IntWalk.i64_in _ (by (try dsimp only at *); (try simp only [List.length_append, List.length_cons, List.length_nil]); omega))) ?_
   refine Gm rfl ?_
   refine AQ (AB (.t2 0 79) ?_)
   refine Bz (k + 1) _ _ ?_ ?_ (.t2 79 0) (.refl _)
   · exact ⟨by omega, by omega, by rw [AF.JG hI21, BB cp7, ← hI23, hBl.1, ← hXw], by assumption⟩
   · omega
  have c9p := kz c9
  have cp7 : (!decide (k = T.D5.b) && T.D5.w.Il T.D5.b k) = false := by rw [hBl.1, hBl.2.1, ← hXw, ← hXb]; exact c9
  refine Aa ?_
  refine AB (.t2 0 79) ?_
  refine AV (AA (AJ ?_))
  refine Gt (Av rfl rfl (IntWalk.i64_in _ (by (try dsimp only at *); (try simp only [List.length_append, List.length_cons, List.length_nil]); omega))) ?_
  refine Gm rfl ?_
  refine AQ (AB (.t2 0 79) ?_)
  refine Bz (k + 1) _ _ ?_ ?_ (.t2 79 0) (.refl _)
  · exact ⟨by omega, by omega, by rw [AF.JG hI21, AW cp7, ← hI23], by assumption⟩
  · omega
 have c8p := kz c8
 obtain rfl : k = 6 := by omega
 refine Bf (AX (AX (Ai ?_)))
 refine Bk rfl .n ?_
 intro w1 hS
 have hS := (hS.perm (Ax.perm (.c .h (.c .h .n)))).A1
 have hq : T.look = X := (show T.look = _ from AW c1).trans hI23.symm
 refine ⟨_, ⟨?gqc8, rfl, ?hlc8, ?hBc8⟩, hS⟩
 case hBc8 => rw [hq]
 case hlc8 => rw [hq]; assumption
theorem L7 (X : AH) (s : Ap) (hw : X.DE) (hs : s.length ≤ 100000000) : FL Tryz.prog 114 #[.agg X.enc.toArray, BS s] [] (fun w => (GV 0 AH.DG w ∧ 0 ∉ Cd [])) (fun v B => ∃ h : Hd, v = .tuple #[.agg ((AF.BU X s).1.enc).toArray, .int .i64 (AF.BU X s).2.1, h.val, .int .i64 (AF.BU X s).2.2.2] ∧ h.len = (AF.BU X s).2.2.1.length ∧ B = [Ac.own h 56 16 ((AF.BU X s).2.2.1.flatMap Ing.Event.enc)]) := by
 intro w hS0 hH
 obtain ⟨gl0, gm0⟩ := hH
 refine Al _ _ Tryz.func114 rfl rfl rfl (hS0) ?_
 refine Gs ?_
 refine B4 rfl rfl rfl (fun b1 => ?_)
 refine BH rfl M9 rfl (fun b2 => ?_)
 refine Ga rfl (Ga rfl (Ga rfl (Gn (.t3 1 2 4) (CG (Gt (AZ rfl BW .m1 (AU.id AH.fl.len AH.fl.one) rfl) ?_)))))
 refine BA rfl Z4 (.c rfl .n) (fun w hS => HS _ w) ?_
 refine Gt (BV rfl) (Gn (.t4 1 2 4 14) ?_)
 refine Gc (fun c1 => ?_) (fun c1 => ?_)
 ·
  refine Gs (Gt (AZ rfl BW .m1 (AU.id AH.fl.len AH.fl.one) rfl) ?_)
  refine AT (AK (AU.id AH.fl.len AH.fl.one) rfl rfl rfl D6 rfl .h) ?_
  refine Ga rfl (Ga rfl (Ga rfl (Gn (.t4 4 5 6 7) (Ab (AD ?_)))))
  refine AY rfl (.cell rfl .m0 (.inl ⟨(by rw [AH.fl.len]; exact BW), rfl⟩) (.tmp rfl (.tmp rfl (.tmp rfl .n)))) ?_
  intro w1 hS
  have hS := hS.Ck 56 16
  have hS := (hS.perm (Ax.perm (.c .h .n))).A1
  have hq : AF.BU X s = _ := BB c1
  refine ⟨_, ⟨⟨none, 0, 0⟩, ?hv, ?hl, ?hB⟩, hS⟩
  case hv => rw [hq]; rfl
  case hl => rw [hq]; rfl
  case hB => rw [hq]; rfl
 have c1p := kz c1
 refine Aa ?_
 refine AB (.t3 1 2 4) ?_
 refine AA (CG (Gm rfl ?_))
 refine BA rfl cj (.c rfl .n) (fun w hS => MA _ (by first | assumption | omega) w) ?_
 refine Gt (BV rfl) (Gn (.t4 1 2 4 18) ?_)
 refine Gc (fun c2 => ?_) (fun c2 => ?_)
 ·
  refine Gs (Gt (AZ rfl BW .m1 (AU.id AH.fl.len AH.fl.one) rfl) ?_)
  refine AT (AK (AU.id AH.fl.len AH.fl.one) rfl rfl rfl D6 rfl .h) ?_
  refine Ga rfl (Ga rfl (Ga rfl (Gn (.t4 4 5 6 7) (Ab (AD ?_)))))
  refine AY rfl (.cell rfl .m0 (.inl ⟨(by rw [AH.fl.len]; exact BW), rfl⟩) (.tmp rfl (.tmp rfl (.tmp rfl .n)))) ?_
  intro w1 hS
  have hS := hS.Ck 56 16
  have hS := (hS.perm (Ax.perm (.c .h .n))).A1
  have hq : AF.BU X s = _ := (AW c1).trans (BB c2)
  refine ⟨_, ⟨⟨none, 0, 0⟩, ?hv, ?hl, ?hB⟩, hS⟩
  case hv => rw [hq]; rfl
  case hl => rw [hq]; rfl
  case hB => rw [hq]; rfl
 have c2p := kz c2
 refine Aa ?_
 refine AB (.t3 1 2 4) ?_
 refine AA (CG (Gt (Ah Bn rfl) (Gt (AZ rfl Y7 .m1 AH.l2 rfl) (Gm rfl (Gn (.t5 1 2 4 21 22) (Af ?_))))))
 refine Bo (.t5 22 1 2 4 21) ?_
 refine Ci (fun (k : Int) => 0 ≤ k ∧ k ≤ 6 ∧ B5 6 (fun k => !AF.IY X s k) 6 = B5 6 (fun k => !AF.IY X s k) (6 - k).toNat) (fun (k : Int) => (6 - k).toNat) (fun (k : Int) => [(22, .int .i64 k)]) (fun (k : Int) => []) (0) ?_ rfl rfl (fun k hI1 => ?_)
 · exact ⟨by omega, by omega, rfl⟩
 obtain ⟨hI11, hI12, hI13⟩ := hI1
 refine Gs (Gt (A8 rfl rfl) (AQ (AA (Ao ?_))))
 refine Gc (fun c3 => ?_) (fun c3 => ?_)
 ·
  have c3p := kz c3
  refine Aa ?_
  refine AB (.t5 1 2 4 21 22) ?_
  refine AA (Ao (Af (Gs ?_)))
  refine Gt (F3 Aj.fl Tryz.underlying33 Fj rfl rfl (by first | omega | exact hb.1 | exact hb.2 | (dsimp only; omega)) (by first | omega | exact hb.1 | exact hb.2 | (dsimp only; omega))) ?_
  refine BH rfl Lw rfl (fun b3 => ?_)
  refine AT (AK (AU.id Aj.fl.len Aj.fl.one) rfl rfl rfl KQ rfl .h) ?_
  refine Gn (.t6 1 2 4 9 21 22) (Gs (Gt (Ah IB rfl) (Gt (AG rfl Dj .m0 Aj.l1 rfl rfl) (Gm rfl (Bi 27 rfl rfl (fun q => Ah K1 rfl) (Bi 27 rfl rfl (fun q => AG (Bh rfl q) CV .m0 Aj.l0 rfl rfl) (Bi 27 rfl rfl (fun q => AE rfl) ?_)))))))
  refine Bi 27 rfl rfl (fun q => Bw (Bh rfl q) (Bh rfl q)) (Gt (BK rfl rfl (fun h => h)) (Gn (.t6 1 2 4 21 22 32) ?_))
  refine Gc (fun c4 => ?_) (fun c4 => ?_)
  ·
   have c4p := kz c4
   refine Gs (Gt (AZ rfl BW .m2 (AU.id AH.fl.len AH.fl.one) rfl) ?_)
   refine AT (AK (AU.id AH.fl.len AH.fl.one) rfl rfl rfl D6 rfl (.t .h)) ?_
   refine Ga rfl (Ga rfl (Ga rfl (Gn (.t4 4 5 6 7) (Ab (AS (AD (AD ?_)))))))
   refine AS (AD ?_)
   refine AY rfl (.cell rfl .m1 (.inl ⟨(by rw [AH.fl.len]; exact BW), rfl⟩) (.tmp rfl (.tmp rfl (.tmp rfl .n)))) ?_
   intro w1 hS
   have hS := hS.Ck 56 16
   have hS := (hS.perm (Ax.perm (.c .h .n))).A1
   have ha : (!B5 6 (fun k => !AF.IY X s k) 6) = true := by rw [hI13, DU (fun k => !AF.IY X s k) (show k < 6 by omega), show AF.IY X s k = true from c4]; rfl
   have hq : AF.BU X s = _ := (AW c1).trans ((AW c2).trans (BB ha))
   refine ⟨_, ⟨⟨none, 0, 0⟩, ?hv, ?hl, ?hB⟩, hS⟩
   case hv => rw [hq]; rfl
   case hl => rw [hq]; rfl
   case hB => rw [hq]; rfl
  have c4p := kz c4
  refine Aa ?_
  refine AB (.t5 1 2 4 21 22) ?_
  refine AV (AA (AJ ?_))
  refine Gt (Av rfl rfl (IntWalk.i64_in _ (by first | omega | exact hb.1 | exact hb.2 | (dsimp only; omega)))) ?_
  refine Gm rfl ?_
  refine AQ (AB (.t5 1 2 4 21 22) ?_)
  refine B8 (k + 1) ?_ ?_ (.t5 22 1 2 4 21) (.cons _ (.refl _))
  · exact ⟨by omega, by omega, by rw [hI13, DU (fun k => !AF.IY X s k) (show k < 6 by omega), show AF.IY X s k = false from c4]; rfl⟩
  · omega
 have c3p := kz c3
 have hno : (!B5 6 (fun k => !AF.IY X s k) 6) = false := by rw [hI13, show (6 - k).toNat = 0 by omega]; rfl
 refine Bf (AX (AX (Ai ?_)))
 refine AB (.t3 1 2 4) ?_
 refine AA (CG (Ga rfl (AQ (AA (Af ?_)))))
 refine Bo (.t4 10 1 2 4) ?_
 refine Ci (fun (k : Int) => 2 ≤ k ∧ k ≤ 6 ∧ AF.CK X 6 = AF.CK X (5 - (k - 1)).toNat) (fun (k : Int) => (6 - k).toNat) (fun (k : Int) => [(10, .int .i64 k)]) (fun (k : Int) => []) (2) ?_ rfl rfl (fun k hI2 => ?_)
 · exact ⟨by omega, by omega, AF.Vi X⟩
 obtain ⟨hI21, hI22, hI23⟩ := hI2
 refine CG (Gm rfl (Gt (A8 rfl rfl) (Gn (.t5 1 2 4 10 36) ?_)))
 refine Gc (fun c5 => ?_) (fun c5 => ?_)
 ·
  have c5p := kz c5
  refine Aa ?_
  refine AB (.t4 1 2 4 10) ?_
  refine AA (Ao (Af (Gs (Gm rfl (Gt (Ah Bn rfl) ?_)))))
  refine Gt (AR C6 rfl rfl (by first | omega | exact hb.1 | exact hb.2 | (dsimp only; omega)) (by first | omega | exact hb.1 | exact hb.2 | (dsimp only; omega))) ?_
  refine Gt (Ah IB rfl) ?_
  refine Gt (AG rfl Dj .m1 ((AH.l2.comp (AU.ar (n := 6) Aj.fl (by first | omega | exact hb | (dsimp only; omega)))).comp Aj.l1) rfl rfl) ?_
  refine Gt (BV rfl) (Gn (.t5 1 2 4 10 44) ?_)
  refine Gc (fun c6 => ?_) (fun c6 => ?_)
  ·
   have c6p := kz c6
   have hF := AF.P3 (s := s) (by simpa using c1) hw (by omega) (show 0 ≤ k by omega) (show k < 6 by omega)
   have hb := hF.b
   refine Gs (Gt (AZ rfl BW .m1 (AU.id AH.fl.len AH.fl.one) rfl) (Gm rfl (Gt (BC Ul Uf rfl (.cons Ad.l0 rfl rfl rfl (.cons Ad.l1 rfl rfl rfl .nil))) ?_)))
   refine B4 rfl rfl rfl (fun b4 => ?_)
   refine Ga rfl (Gn (.t4 1 4 10 11) (Gs (Gm rfl (Gm rfl (Gm rfl (Gt (BC Wt Lw rfl (.cons Aj.l0 rfl rfl rfl (.cons Aj.l1 rfl rfl rfl (.cons Aj.l4 rfl rfl rfl .nil)))) (Gt (BT rfl) ?_)))))))
   refine Gt (Ah A9 rfl) (Gt (Ah Bn rfl) ?_)
   refine Gt (AR C6 rfl rfl (by first | omega | exact hb.1 | exact hb.2 | (dsimp only; omega)) (by first | omega | exact hb.1 | exact hb.2 | (dsimp only; omega))) ?_
   refine AT (AK ((Ad.l0.comp AH.l2).comp (AU.ar (n := 6) Aj.fl (by first | omega | exact hb | (dsimp only; omega)))) rfl rfl rfl KQ rfl .h) ?_
   refine Gn (.t3 4 10 11) (Gs (Gm rfl ?_))
   refine Dh Ing.Event.enc 56 16 ?_
   refine Ag rfl UD (.c rfl (.c rfl .n)) (.c (.t .h) (.c .h .n)) (GO _ (⟨X.C3 k (AF.J2 s), k, []⟩ : AF) _ 17 rfl hb (Nat.zero_le _)) (fun v5 B hv => ?_)
   obtain ⟨y6, rfl, y7, rfl⟩ := hv
   refine Gn (.t3 4 10 11) (Gs (Gm rfl ?_))
   refine BF rfl Ua (.c rfl .n) (.c .h (.c .h .n)) (HD _ (AF.kind (⟨X.C3 k (AF.J2 s), k, []⟩ : AF) 17) _ y7 hb hF.br (by decide : (0 : Nat) + 1 ≤ 90000)) (fun w hS => gl0.pull gm0 hS (.c .h (.c .h .n))) (fun v8 B hv => ?_)
   obtain ⟨y9, rfl, y10, rfl⟩ := hv
   refine Gn (.t3 4 10 11) (Ao ?_)
   refine BE (N := 13) [0, 1, 3, 7, 0, 0, 32, 96, 224, 15, 543, 2047, 4095] mix (by kernel_rfl) rfl ?_
   refine Pf 0 rfl (AE rfl) (Pf 1 rfl (BT rfl) (Pf 2 rfl (Ah A9 rfl) (Pf 3 rfl (AZ rfl BW .m0 Ad.l0 rfl) (Pf 4 rfl (AE rfl) (Pf 5 rfl (AE rfl) (Pf 6 rfl (BT rfl) (Pf 7 rfl (Ah CJ rfl) ?_)))))))
   refine Pf 8 rfl (AG rfl Di .m0 Ad.l2 rfl rfl) ?_
   refine An 9 rfl (by kernel_rfl) ?_
   refine AT (AK (AU.id AH.fl.len AH.fl.one) rfl rfl rfl D6 rfl (.t (.t .h))) ?_
   refine BN rfl ⟨?_, ?_⟩
   · exact (Po rfl (AG rfl Di .m0 Ad.l2 rfl rfl) rfl rfl (Po rfl (Ah CJ rfl) rfl rfl (Po rfl (BT rfl) rfl rfl (Po rfl (AE rfl) rfl rfl (Po rfl (AE rfl) rfl rfl (Pk (Pk (Pk (Pk Aq)))))))))
   refine Pf 10 rfl (A0 rfl) (Pf 11 rfl (A0 rfl) (Pf 12 rfl (A0 rfl) ?_))
   refine A4 (by kernel_rfl) ?_
   refine AB (.t4 4 5 6 7) ?_
   refine AA (Ab (AS (AD (AD (AS (AD ?_))))))
   refine AY rfl (.cell rfl .m2 (.inl ⟨(by rw [AH.fl.len]; exact BW), rfl⟩) (.tmp rfl (.tmp rfl (.tmp rfl .n)))) ?_
   intro w1 hS
   have hS := (hS.perm (Ax.perm (.c (.t .h) .n))).A1
   have hfr : AF.CK X 6 = k := hI23.trans (AF.Vv hI21 (by omega) c6)
   have hf0 : decide (AF.CK X 6 < 0) = false := decide_eq_false (by omega)
   have hq : AF.BU X s = _ := (AW c1).trans ((AW c2).trans ((AW hno).trans (AW hf0)))
   rw [hfr] at hq
   refine ⟨_, ⟨y9, ?hv, ?hl, ?hB⟩, hS⟩
   case hv => rw [hq]; (try rfl)
   case hl => rw [hq]; exact y10
   case hB => rw [hq]; (try rfl)
  have c6p := kz c6
  refine Aa ?_
  refine AB (.t4 1 2 4 10) ?_
  refine AV (AA (AJ (Gm rfl ?_)))
  refine Gt (Av rfl rfl (IntWalk.i64_in _ (by first | omega | exact hb.1 | exact hb.2 | (dsimp only; omega)))) ?_
  refine Ga rfl ?_
  refine AQ (AB (.t4 1 2 4 10) ?_)
  refine B8 (k + 1) ?_ ?_ (.t4 10 1 2 4) (.refl _)
  · exact ⟨by omega, by omega, by rw [hI23, AF.XV hI21 (by omega) c6, show (5 - (k + 1 - 1)) = 5 - k by omega]⟩
  · omega
 have c5p := kz c5
 obtain rfl : k = 6 := by omega
 refine Bf (AX (AX (Ai ?_)))
 refine AB (.t2 2 4) ?_
 refine AA (Gs (Gt (AZ rfl BW .m1 (AU.id AH.fl.len AH.fl.one) rfl) ?_))
 refine AT (AK (AU.id AH.fl.len AH.fl.one) rfl rfl rfl D6 rfl .h) ?_
 refine Ga rfl (Ga rfl (Ga rfl (Gn (.t4 4 5 6 7) (Ab ?_))))
 refine AY rfl (.cell rfl .m0 (.inl ⟨(by rw [AH.fl.len]; exact BW), rfl⟩) (.tmp rfl (.tmp rfl (.tmp rfl .n)))) ?_
 intro w1 hS
 have hS := hS.Ck 56 16
 have hS := (hS.perm (Ax.perm (.c .h .n))).A1
 have hf0 : decide (AF.CK X 6 < 0) = true := by rw [hI23]; rfl
 have hq : AF.BU X s = _ := (AW c1).trans ((AW c2).trans ((AW hno).trans (BB hf0)))
 refine ⟨_, ⟨⟨none, 0, 0⟩, ?hv, ?hl, ?hB⟩, hS⟩
 case hv => rw [hq]; rfl
 case hl => rw [hq]; rfl
 case hB => rw [hq]; rfl
theorem NA (z : Int) (w : World) : Ei Tryz.prog 49 #[.int .i64 z] w fun v w' => v = .tuple #[BS (AH.form z).1, BS (AH.form z).2] ∧ CB w w' := by
 refine Al [] [] Tryz.func49 rfl rfl rfl (St.start w []) ?_
 refine Gs (Ga rfl (Ga rfl (Gn (.t1 0) (CG (Gm rfl (Gn (.t1 4) (Af ?_)))))))
 refine Gs (Gt (Ae rfl rfl) (Ga rfl (Gn (.t2 4 5) ?_)))
 refine Gc (fun c1 => ?_) (fun c1 => ?_)
 ·
  refine Gs (Ga rfl (Ga rfl (Gn (.t2 2 3) (Ab (AS (AD ?_))))))
  refine AY rfl (.tmp rfl (.tmp rfl .n)) ?_
  intro w1 hS; refine ⟨?_, hS.Am⟩; rw [show AH.form z = _ from (BB c1)]; rfl
 refine Gs (Gt (Ae rfl rfl) (Ga rfl (Gn (.t2 4 7) ?_)))
 refine Gc (fun c2 => ?_) (fun c2 => ?_)
 ·
  refine Gs (Ga rfl (Ga rfl (Gn (.t2 2 3) (Ab (AS (AD ?_))))))
  refine AY rfl (.tmp rfl (.tmp rfl .n)) ?_
  intro w1 hS; refine ⟨?_, hS.Am⟩; rw [show AH.form z = _ from ((AW c1).trans (BB c2))]; rfl
 refine Gs (Gt (Ae rfl rfl) (Ga rfl (Gn (.t2 4 9) ?_)))
 refine Gc (fun c3 => ?_) (fun c3 => ?_)
 ·
  refine Gs (Ga rfl (Ga rfl (Gn (.t2 2 3) (Ab (AS (AD ?_))))))
  refine AY rfl (.tmp rfl (.tmp rfl .n)) ?_
  intro w1 hS; refine ⟨?_, hS.Am⟩; rw [show AH.form z = _ from ((AW c1).trans ((AW c2).trans (BB c3)))]; rfl
 refine Gs (Gt (Ae rfl rfl) (Ga rfl (Gn (.t2 4 11) ?_)))
 refine Gc (fun c4 => ?_) (fun c4 => ?_)
 ·
  refine Gs (Ga rfl (Ga rfl (Gn (.t2 2 3) (Ab (AS (AD ?_))))))
  refine AY rfl (.tmp rfl (.tmp rfl .n)) ?_
  intro w1 hS; refine ⟨?_, hS.Am⟩; rw [show AH.form z = _ from ((AW c1).trans ((AW c2).trans ((AW c3).trans (BB c4))))]; rfl
 refine Gs (Gt (Ae rfl rfl) (Ga rfl (Gn (.t2 4 13) ?_)))
 refine Gc (fun c5 => ?_) (fun c5 => ?_)
 ·
  refine Gs (Ga rfl (Ga rfl (Gn (.t2 2 3) (Ab (AS (AD ?_))))))
  refine AY rfl (.tmp rfl (.tmp rfl .n)) ?_
  intro w1 hS; refine ⟨?_, hS.Am⟩; rw [show AH.form z = _ from ((AW c1).trans ((AW c2).trans ((AW c3).trans ((AW c4).trans (BB c5)))))]; rfl
 refine Gs (Gt (Ae rfl rfl) (Ga rfl (Gn (.t2 4 15) ?_)))
 refine Gc (fun c6 => ?_) (fun c6 => ?_)
 ·
  refine Gs (Ga rfl (Ga rfl (Gn (.t2 2 3) (Ab (AS (AD ?_))))))
  refine AY rfl (.tmp rfl (.tmp rfl .n)) ?_
  intro w1 hS; refine ⟨?_, hS.Am⟩; rw [show AH.form z = _ from ((AW c1).trans ((AW c2).trans ((AW c3).trans ((AW c4).trans ((AW c5).trans (BB c6))))))]; rfl
 refine Gs (Gt (Ae rfl rfl) (Ga rfl (Gn (.t2 4 17) ?_)))
 refine Gc (fun c7 => ?_) (fun c7 => ?_)
 ·
  refine Gs (Ga rfl (Ga rfl (Gn (.t2 2 3) (Ab (AS (AD ?_))))))
  refine AY rfl (.tmp rfl (.tmp rfl .n)) ?_
  intro w1 hS; refine ⟨?_, hS.Am⟩; rw [show AH.form z = _ from ((AW c1).trans ((AW c2).trans ((AW c3).trans ((AW c4).trans ((AW c5).trans ((AW c6).trans (BB c7)))))))]; rfl
 refine Gs (Gt (Ae rfl rfl) (Ga rfl (Gn (.t2 4 19) ?_)))
 refine Gc (fun c8 => ?_) (fun c8 => ?_)
 ·
  refine Gs (Ga rfl (Ga rfl (Gn (.t2 2 3) (Ab (AS (AD ?_))))))
  refine AY rfl (.tmp rfl (.tmp rfl .n)) ?_
  intro w1 hS; refine ⟨?_, hS.Am⟩; rw [show AH.form z = _ from ((AW c1).trans ((AW c2).trans ((AW c3).trans ((AW c4).trans ((AW c5).trans ((AW c6).trans ((AW c7).trans (BB c8))))))))]; rfl
 refine Gs (Gt (Ae rfl rfl) (Ga rfl (Gn (.t2 4 21) ?_)))
 refine Gc (fun c9 => ?_) (fun c9 => ?_)
 ·
  refine Gs (Ga rfl (Ga rfl (Gn (.t2 2 3) (Ab (AS (AD ?_))))))
  refine AY rfl (.tmp rfl (.tmp rfl .n)) ?_
  intro w1 hS; refine ⟨?_, hS.Am⟩; rw [show AH.form z = _ from ((AW c1).trans ((AW c2).trans ((AW c3).trans ((AW c4).trans ((AW c5).trans ((AW c6).trans ((AW c7).trans ((AW c8).trans (BB c9)))))))))]; rfl
 refine Gs (Gt (Ae rfl rfl) (Ga rfl (Gn (.t2 4 23) ?_)))
 refine Gc (fun c10 => ?_) (fun c10 => ?_)
 ·
  refine Gs (Ga rfl (Ga rfl (Gn (.t2 2 3) (Ab (AS (AD ?_))))))
  refine AY rfl (.tmp rfl (.tmp rfl .n)) ?_
  intro w1 hS; refine ⟨?_, hS.Am⟩; rw [show AH.form z = _ from ((AW c1).trans ((AW c2).trans ((AW c3).trans ((AW c4).trans ((AW c5).trans ((AW c6).trans ((AW c7).trans ((AW c8).trans ((AW c9).trans (BB c10))))))))))]; rfl
 refine Gs (Gt (Ae rfl rfl) (Ga rfl (Gn (.t2 4 25) ?_)))
 refine Gc (fun c11 => ?_) (fun c11 => ?_)
 ·
  refine Gs (Ga rfl (Ga rfl (Gn (.t2 2 3) (Ab (AS (AD ?_))))))
  refine AY rfl (.tmp rfl (.tmp rfl .n)) ?_
  intro w1 hS; refine ⟨?_, hS.Am⟩; rw [show AH.form z = _ from ((AW c1).trans ((AW c2).trans ((AW c3).trans ((AW c4).trans ((AW c5).trans ((AW c6).trans ((AW c7).trans ((AW c8).trans ((AW c9).trans ((AW c10).trans (BB c11)))))))))))]; rfl
 refine Gs (Gt (Ae rfl rfl) (Ga rfl (Gn (.t2 4 27) ?_)))
 refine Gc (fun c12 => ?_) (fun c12 => ?_)
 ·
  refine Gs (Ga rfl (Ga rfl (Gn (.t2 2 3) (Ab (AS (AD ?_))))))
  refine AY rfl (.tmp rfl (.tmp rfl .n)) ?_
  intro w1 hS; refine ⟨?_, hS.Am⟩; rw [show AH.form z = _ from ((AW c1).trans ((AW c2).trans ((AW c3).trans ((AW c4).trans ((AW c5).trans ((AW c6).trans ((AW c7).trans ((AW c8).trans ((AW c9).trans ((AW c10).trans ((AW c11).trans (BB c12))))))))))))]; rfl
 refine Gs (Gt (Ae rfl rfl) (Ga rfl (Gn (.t2 4 29) ?_)))
 refine Gc (fun c13 => ?_) (fun c13 => ?_)
 ·
  refine Gs (Ga rfl (Ga rfl (Gn (.t2 2 3) (Ab (AS (AD ?_))))))
  refine AY rfl (.tmp rfl (.tmp rfl .n)) ?_
  intro w1 hS; refine ⟨?_, hS.Am⟩; rw [show AH.form z = _ from ((AW c1).trans ((AW c2).trans ((AW c3).trans ((AW c4).trans ((AW c5).trans ((AW c6).trans ((AW c7).trans ((AW c8).trans ((AW c9).trans ((AW c10).trans ((AW c11).trans ((AW c12).trans (BB c13)))))))))))))]; rfl
 refine Gs (Gt (Ae rfl rfl) (Ga rfl (Gn (.t2 4 31) ?_)))
 refine Gc (fun c14 => ?_) (fun c14 => ?_)
 ·
  refine Gs (Ga rfl (Ga rfl (Gn (.t2 2 3) (Ab (AS (AD ?_))))))
  refine AY rfl (.tmp rfl (.tmp rfl .n)) ?_
  intro w1 hS; refine ⟨?_, hS.Am⟩; rw [show AH.form z = _ from ((AW c1).trans ((AW c2).trans ((AW c3).trans ((AW c4).trans ((AW c5).trans ((AW c6).trans ((AW c7).trans ((AW c8).trans ((AW c9).trans ((AW c10).trans ((AW c11).trans ((AW c12).trans ((AW c13).trans (BB c14))))))))))))))]; rfl
 refine Gs (Gt (Ae rfl rfl) (Ga rfl (Gn (.t2 4 33) ?_)))
 refine Gc (fun c15 => ?_) (fun c15 => ?_)
 ·
  refine Gs (Ga rfl (Ga rfl (Gn (.t2 2 3) (Ab (AS (AD ?_))))))
  refine AY rfl (.tmp rfl (.tmp rfl .n)) ?_
  intro w1 hS; refine ⟨?_, hS.Am⟩; rw [show AH.form z = _ from ((AW c1).trans ((AW c2).trans ((AW c3).trans ((AW c4).trans ((AW c5).trans ((AW c6).trans ((AW c7).trans ((AW c8).trans ((AW c9).trans ((AW c10).trans ((AW c11).trans ((AW c12).trans ((AW c13).trans ((AW c14).trans (BB c15)))))))))))))))]; rfl
 refine Gs (Gt (Ae rfl rfl) (Ga rfl (Gn (.t2 4 35) ?_)))
 refine Gc (fun c16 => ?_) (fun c16 => ?_)
 ·
  refine Gs (Ga rfl (Ga rfl (Gn (.t2 2 3) (Ab (AS (AD ?_))))))
  refine AY rfl (.tmp rfl (.tmp rfl .n)) ?_
  intro w1 hS; refine ⟨?_, hS.Am⟩; rw [show AH.form z = _ from ((AW c1).trans ((AW c2).trans ((AW c3).trans ((AW c4).trans ((AW c5).trans ((AW c6).trans ((AW c7).trans ((AW c8).trans ((AW c9).trans ((AW c10).trans ((AW c11).trans ((AW c12).trans ((AW c13).trans ((AW c14).trans ((AW c15).trans (BB c16))))))))))))))))]; rfl
 refine Gs (Gt (Ae rfl rfl) (Ga rfl (Gn (.t2 4 37) ?_)))
 refine Gc (fun c17 => ?_) (fun c17 => ?_)
 ·
  refine Gs (Ga rfl (Ga rfl (Gn (.t2 2 3) (Ab (AS (AD ?_))))))
  refine AY rfl (.tmp rfl (.tmp rfl .n)) ?_
  intro w1 hS; refine ⟨?_, hS.Am⟩; rw [show AH.form z = _ from ((AW c1).trans ((AW c2).trans ((AW c3).trans ((AW c4).trans ((AW c5).trans ((AW c6).trans ((AW c7).trans ((AW c8).trans ((AW c9).trans ((AW c10).trans ((AW c11).trans ((AW c12).trans ((AW c13).trans ((AW c14).trans ((AW c15).trans ((AW c16).trans (BB c17)))))))))))))))))]; rfl
 refine Gs (Gt (Ae rfl rfl) (Ga rfl (Gn (.t1 39) ?_)))
 refine Gc (fun c18 => ?_) (fun c18 => ?_)
 ·
  refine Gs (Ga rfl (Ga rfl (Gn (.t2 2 3) (Ab (AS (AD ?_))))))
  refine AY rfl (.tmp rfl (.tmp rfl .n)) ?_
  intro w1 hS; refine ⟨?_, hS.Am⟩; rw [show AH.form z = _ from ((AW c1).trans ((AW c2).trans ((AW c3).trans ((AW c4).trans ((AW c5).trans ((AW c6).trans ((AW c7).trans ((AW c8).trans ((AW c9).trans ((AW c10).trans ((AW c11).trans ((AW c12).trans ((AW c13).trans ((AW c14).trans ((AW c15).trans ((AW c16).trans ((AW c17).trans (BB c18))))))))))))))))))]; rfl
 refine Aa ?_
 refine AB (.nil _) ?_
 refine AV (AA (Gs (Ga rfl (Ga rfl (AQ (AA (Ab ?_)))))))
 refine AY rfl (.tmp rfl (.tmp rfl .n)) ?_
 intro w1 hS; refine ⟨?_, hS.Am⟩; rw [show AH.form z = _ from ((AW c1).trans ((AW c2).trans ((AW c3).trans ((AW c4).trans ((AW c5).trans ((AW c6).trans ((AW c7).trans ((AW c8).trans ((AW c9).trans ((AW c10).trans ((AW c11).trans ((AW c12).trans ((AW c13).trans ((AW c14).trans ((AW c15).trans ((AW c16).trans ((AW c17).trans (AW c18))))))))))))))))))]; rfl
theorem C8 (b : Nat) (p : Option Addr) (h : Hd) (hp : p = none ∨ p = some ⟨b, 0, none⟩) : JS Tryz.prog 71 #[.pointer (some ⟨b, 0, none⟩)] [Ac.box b 107 (DV.enc ⟨p, h⟩)] (fun v B => v = .tuple #[] ∧ B = [Ac.box b 107 (DV.enc ⟨some ⟨b, 0, none⟩, h⟩)]) := by
 intro w hS0
 refine Al _ _ Tryz.func71 rfl rfl rfl (hS0) ?_
 refine Gs (Gm rfl (Gt (BT rfl) (Gt (Ah Ql rfl) (Gt (AG rfl W8 .m0 DV.l0 rfl rfl) (Gt (FM Tryz.underlying104 rfl) (Gn (.t2 0 6) ?_))))))
 refine Gc (fun c1 => ?_) (fun c1 => ?_)
 ·
  obtain rfl : p = none := by simpa using c1
  refine AJ (Gm rfl (Gm rfl ?_))
  refine Gt ((let ⟨_, h, h2⟩ := So; RW Tryz.underlying104 Tryz.underlying152 h h2 rfl .m0 (by rw [DV.fl.len]; decide))) ?_
  refine Gt (SA Tryz.func85 (by kernel_rfl) (by kernel_rfl) (by kernel_rfl) (by kernel_rfl) rfl) ?_
  refine Gt ((let ⟨_, h, _⟩ := So; PF Tryz.underlying152 Tryz.underlying104 h rfl .m0 (by rw [DV.fl.len]; kernel_rfl))) ?_
  refine Gt (BT rfl) (Gt (Ah Ql rfl) ?_)
  refine AT (AK DV.l0 rfl rfl rfl ZF rfl .h) ?_
  refine AQ ?_
  refine Bk rfl .n ?_
  intro w1 hS
  have hS := (hS.perm (Ax.perm (.c .h .n))).A1
  exact ⟨_, ⟨rfl, rfl⟩, hS⟩
 obtain rfl : p = some ⟨b, 0, none⟩ := by rcases hp with h | h; (subst h; simp at c1); exact h
 refine Gs (Gm rfl (Gt (BT rfl) (Gt (Ah Ql rfl) (Gt (AG rfl W8 .m0 DV.l0 rfl rfl) (Gm rfl (Gt ((let ⟨_, h, _⟩ := So; Qk Tryz.underlying104 h rfl rfl)) (Gn (.t1 19) ?_)))))))
 refine EJ rfl rfl ?_
 refine Aa ?_
 refine Bk rfl .n ?_
 intro w1 hS
 have hS := (hS.perm (Ax.perm (.c .h .n))).A1
 exact ⟨_, ⟨rfl, rfl⟩, hS⟩
theorem Cg (b : Nat) (p : Option Addr) (h : Hd) (s : Ap) (hp : p = none ∨ p = some ⟨b, 0, none⟩) (hz : h.Z) (hl : h.len = s.length) (c : UInt8) (hb : s.length < 140737488355000) : JS Tryz.prog 50 #[.pointer (some ⟨b, 0, none⟩), .int .u8 (c.toNat : Int)] [Ac.box b 107 (DV.enc ⟨p, h⟩), Ac.own h 5 1 (s.flatMap DQ)] (fun v B => ∃ p' h', v = .nilIface ∧ (p' = none ∨ p' = some ⟨b, 0, none⟩) ∧ h'.Z ∧ h'.len = (s ++ [c]).length ∧ B = [Ac.box b 107 (DV.enc ⟨p', h'⟩), Ac.own h' 5 1 ((s ++ [c]).flatMap DQ)]) := by
 intro w hS0
 refine Al _ _ Tryz.func50 rfl rfl rfl (hS0) ?_
 refine Gs (Ga rfl (Gn (.t2 0 1) (Gs (Gm rfl ?_))))
 refine Ag rfl Zc (.c rfl .n) (.c .h .n) (C8 _ _ _ (by first | assumption | omega)) (fun v1 B hv => ?_)
 obtain ⟨rfl, rfl⟩ := hv
 refine Gn (.t2 0 1) (Gs (Gm rfl (Gm rfl (Gt (BT rfl) (Gt (Ah En rfl) (Gt (AG rfl ID .m0 DV.l1 rfl rfl) (Gm rfl ?_)))))))
 refine S1 rfl Tryz.underlying105 VT Zd rfl (by decide) (by decide) rfl rfl rfl (fun b1 => ?_)
 refine OB rfl Tryz.underlying105 VT Zd rfl dI (by decide) (by decide) rfl rfl (fun w hS => Src.D3 Tryz.underlying105 ((Kn.own .m0) w hS)) (by intro v hv; simp at hv; subst hv; rfl) (by dsimp only; omega) (fun _ => (.t (.t .h))) (fun h2 h2l h2z => ?_)
 have h2z := h2z hz; dsimp only at h2l
 refine Gt (BT rfl) (Gt (Ah En rfl) ?_)
 refine AT (AK DV.l1 rfl rfl rfl Tv rfl (.t .h)) ?_
 refine Gn (.nil _) (Gs (Ga rfl (AQ (AA (Ab ?_)))))
 refine AY rfl (.tmp rfl .n) ?_
 intro w1 hS
 have hS := (hS.perm (Ax.perm (.c (.t .h) (.c (.t .h) .n)))).A1
 exact ⟨_, ⟨_, _, rfl, .inr rfl, by assumption, by simp; omega, by rw [List.flatMap_append]; rfl⟩, hS⟩
theorem BM (b : Nat) (p : Option Addr) (h : Hd) (s : Ap) (hp : p = none ∨ p = some ⟨b, 0, none⟩) (hz : h.Z) (hl : h.len = s.length) (t : Ap) (hb : s.length + t.length < 140737488355000) : JS Tryz.prog 51 #[.pointer (some ⟨b, 0, none⟩), BS t] [Ac.box b 107 (DV.enc ⟨p, h⟩), Ac.own h 5 1 (s.flatMap DQ)] (fun v B => ∃ p' h', v = .tuple #[.int .i64 t.length, .nilIface] ∧ (p' = none ∨ p' = some ⟨b, 0, none⟩) ∧ h'.Z ∧ h'.len = (s ++ t).length ∧ B = [Ac.box b 107 (DV.enc ⟨p', h'⟩), Ac.own h' 5 1 ((s ++ t).flatMap DQ)]) := by
 intro w hS0
 refine Al _ _ Tryz.func51 rfl rfl rfl (hS0) ?_
 refine Gs (Ga rfl (Ga rfl (Gn (.t2 0 1) (Gs (Gm rfl ?_)))))
 refine Ag rfl Zc (.c rfl .n) (.c .h .n) (C8 _ _ _ (by first | assumption | omega)) (fun v1 B hv => ?_)
 obtain ⟨rfl, rfl⟩ := hv
 refine Gn (.t2 0 1) (Gs (Gm rfl (Gm rfl (Gt (BT rfl) (Gt (Ah En rfl) (Gt (AG rfl ID .m0 DV.l1 rfl rfl) (Gm rfl ?_)))))))
 refine Cc WC rfl Tryz.underlying105 VT Zd rfl dI (by decide) (by decide) rfl rfl (fun _ _ => Src.str Tryz.underlying9) (by dsimp only; omega) (fun _ => (.t .h)) (fun h2 h2l h2z => ?_)
 have h2z := h2z hz; dsimp only at h2l
 refine Gt (BT rfl) (Gt (Ah En rfl) ?_)
 refine AT (AK DV.l1 rfl rfl rfl Tv rfl .h) ?_
 refine Gn (.t1 1) (Gs (Gm rfl (Gt (BI rfl Tryz.underlying9 rfl) (Ga rfl (Ga rfl (Gn (.t2 4 5) (Ab ?_)))))))
 refine AY rfl (.tmp rfl (.tmp rfl .n)) ?_
 intro w1 hS
 have hS := (hS.perm (Ax.perm (.c .h (.c .h .n)))).A1
 exact ⟨_, ⟨_, _, rfl, .inr rfl, by assumption, by simp; omega, by rw [List.flatMap_append]⟩, hS⟩
def QQ : Go.Shelf.Ren := ⟨fun | 171 => 53 | 243 => 72 | 246 => 86 | 283 => 108 | 284 => 109 | 285 => 110 | 286 => 111 | 129 => 142 | 317 => 141 | 318 => 143 | 319 => 144 | 320 => 145 | 337 => 162 | 338 => 163 | n => n, fun | 3 => 3 | 9 => 9 | 2 => 2 | 4 => 4 | 171 => 172 | 0 => 0 | 53 => 173 | 37 => 105 | 5 => 5 | 173 => 176 | 212 => 205 | 51 => 178 | 20 => 20 | 213 => 206 | 46 => 140 | 232 => 226 | 233 => 227 | n => n, fun | 17 => 2 | 18 => 3 | 19 => 4 | n => n⟩
theorem W6 : LaysM.n171 Tryz.prog QQ where
  mixed := by kernel_rfl
  f129 := Tryz.func142.trans (congrArg some (by kernel_rfl))
  f171 := Tryz.func53.trans (congrArg some (by kernel_rfl))
  f243 := Tryz.func72.trans (congrArg some (by kernel_rfl))
  f246 := Tryz.func86.trans (congrArg some (by kernel_rfl))
  f283 := Tryz.func108.trans (congrArg some (by kernel_rfl))
  f284 := Tryz.func109.trans (congrArg some (by kernel_rfl))
  f285 := Tryz.func110.trans (congrArg some (by kernel_rfl))
  f286 := Tryz.func111.trans (congrArg some (by kernel_rfl))
  f317 := Tryz.func141.trans (congrArg some (by kernel_rfl))
  f318 := Tryz.func143.trans (congrArg some (by kernel_rfl))
  f319 := Tryz.func144.trans (congrArg some (by kernel_rfl))
  f320 := Tryz.func145.trans (congrArg some (by kernel_rfl))
  f337 := Tryz.func162.trans (congrArg some (by kernel_rfl))
  f338 := Tryz.func163.trans (congrArg some (by kernel_rfl))
  t0 := Tryz.underlying0
  a0 := Tryz.isAgg0
  z0 := Tryz.sizeOf0
  v0 := Tryz.zeroValue0
  t2 := Tryz.underlying2
  a2 := Tryz.isAgg2
  z2 := Tryz.sizeOf2
  v2 := Tryz.zeroValue2
  t3 := Tryz.underlying3
  a3 := Tryz.isAgg3
  z3 := Tryz.sizeOf3
  v3 := Tryz.zeroValue3
  t4 := Tryz.underlying4
  a4 := Tryz.isAgg4
  z4 := Tryz.sizeOf4
  v4 := Tryz.zeroValue4
  t5 := Tryz.underlying5
  a5 := Tryz.isAgg5
  z5 := Tryz.sizeOf5
  v5 := Tryz.zeroValue5
  t9 := Tryz.underlying9
  a9 := Tryz.isAgg9
  z9 := Tryz.sizeOf9
  v9 := Tryz.zeroValue9
  t20 := Tryz.underlying20
  a20 := Tryz.isAgg20
  z20 := Tryz.sizeOf20
  v20 := Tryz.zeroValue20
  t37 := Tryz.underlying105
  a37 := Tryz.isAgg105
  z37 := Tryz.sizeOf105
  v37 := Tryz.zeroValue105
  t46 := Tryz.underlying140
  a46 := Tryz.isAgg140
  z46 := Tryz.sizeOf140
  v46 := Tryz.zeroValue140
  t51 := Tryz.underlying178
  a51 := Tryz.isAgg178
  z51 := Tryz.sizeOf178
  v51 := Tryz.zeroValue178
  t53 := Tryz.underlying173
  a53 := Tryz.isAgg173
  z53 := Tryz.sizeOf173
  v53 := Tryz.zeroValue173
  t171 := Tryz.underlying172
  a171 := Tryz.isAgg172
  z171 := Tryz.sizeOf172
  v171 := Tryz.zeroValue172
  t173 := Tryz.underlying176
  a173 := Tryz.isAgg176
  z173 := Tryz.sizeOf176
  v173 := Tryz.zeroValue176
  t212 := Tryz.underlying205
  a212 := Tryz.isAgg205
  z212 := Tryz.sizeOf205
  v212 := Tryz.zeroValue205
  t213 := Tryz.underlying206
  a213 := Tryz.isAgg206
  z213 := Tryz.sizeOf206
  t232 := Tryz.underlying226
  a232 := Tryz.isAgg226
  z232 := Tryz.sizeOf226
  v232 := Tryz.zeroValue226
  t233 := Tryz.underlying227
  a233 := Tryz.isAgg227
  z233 := Tryz.sizeOf227
  v233 := Tryz.zeroValue227
  g17 := by kernel_rfl
  g18 := by kernel_rfl
  g19 := by kernel_rfl
  i0 := by kernel_rfl
  i2 := by kernel_rfl
  i3 := by kernel_rfl
  i4 := by kernel_rfl
  i5 := by kernel_rfl
  i9 := by kernel_rfl
  i20 := by kernel_rfl
  i37 := by kernel_rfl
  i46 := by kernel_rfl
  i51 := by kernel_rfl
  i53 := by kernel_rfl
  i171 := by kernel_rfl
  i173 := by kernel_rfl
  i212 := by kernel_rfl
  i232 := by kernel_rfl
  i233 := by kernel_rfl
  m17 := by kernel_rfl
  m18 := by kernel_rfl
  m19 := by kernel_rfl
theorem Ll (n : Int) (h0 : -9223372036854775808 ≤ n) (hy : n ≤ 9223372036854775807) (w : World) (gl0 : GV 2 Fu w) : Ei Tryz.prog 53 #[.int .i64 n] w fun v w' => v = BS (Lib.itoa n) ∧ CB w w' :=
  Ei.YL (Any.strconv_Itoa W6 n h0 hy w (Ss (by kernel_rfl) gl0))
theorem Ct (b : Nat) (p : Option Addr) (h : Hd) (s : Ap) (hz : h.Z) (hl : h.len = s.length) (hb : s.length < 140737488355000) : JS Tryz.prog 54 #[.pointer (some ⟨b, 0, none⟩)] [Ac.box b 107 (DV.enc ⟨p, h⟩), Ac.own h 5 1 (s.flatMap DQ)] (fun v B => v = BS s ∧ B = [Ac.box b 107 (DV.enc ⟨p, h⟩)]) := by
 intro w hS0
 refine Al _ _ Tryz.func54 rfl rfl rfl (hS0) ?_
 refine Gs (Ga rfl (Gn (.t1 0) (Ao ?_)))
 refine BE (N := 12) [0, 1, 3, 7, 15, 0, 32, 96, 224, 480, 1023, 2047] mix (by kernel_rfl) rfl ?_
 refine Pf 0 rfl (AE rfl) (Pf 1 rfl (BT rfl) (Pf 2 rfl (Ah En rfl) (Pf 3 rfl (AG rfl ID .m0 DV.l1 rfl rfl) ?_)))
 refine Pf 4 rfl (Qo rfl (by assumption)) ?_
 refine Pf 5 rfl (AE rfl) (Pf 6 rfl (BT rfl) (Pf 7 rfl (Ah En rfl) (Pf 8 rfl (AG rfl ID .m0 DV.l1 rfl rfl) (Pf 9 rfl (Ar rfl Tryz.underlying105 rfl) ?_))))
 refine An 10 rfl (by kernel_rfl) ?_
 refine NG rfl Tryz.underlying134 eF rfl rfl (by assumption) (by omega) (.t .h) ?_
 refine Bp rfl ⟨?_, ?_⟩
 · exact (Pk (Pk (Pk (Pk (Pk (Pk (Pk (Pk (Pk (Pk Aq))))))))))
 refine Pf 11 rfl (A0 rfl) ?_
 refine A4 (by kernel_rfl) ?_
 refine AB (.t1 2) ?_
 refine AA (Ab ?_)
 refine AY rfl (.tmp rfl .n) ?_
 intro w1 hS
 have hS := (hS.perm (Ax.perm (.c .h .n))).A1
 exact ⟨_, ⟨rfl, rfl⟩, hS⟩
theorem NF (e : Ing.Event) (b : Int) (hs : (decide (b < 0) || decide (6 ≤ b) || decide (AH.Rf (e.He.at b) 1 = 0)) = false → AH.Small e) (w : World) (gl0 : GV 2 Fu w) (gl1 : GV 0 AH.DG w) : Ei Tryz.prog 23 #[.agg e.enc.toArray, .int .i64 b] w fun v w' => v = .tuple #[BS (AH.tell e b).1, .bool (AH.tell e b).2] ∧ CB w w' := by
 refine Al [] [] Tryz.func23 rfl rfl rfl (St.start w []) ?_
 refine Gs ?_
 refine B4 rfl rfl rfl (fun b1 => ?_)
 refine Ga rfl (Ga rfl (Gn (.t2 1 2) (CG (Gm rfl (Gt (A8 rfl rfl) (Gm rfl (Ba 17 rfl rfl (fun q => AE rfl) ?_)))))))
 refine Ba 17 rfl rfl (fun q => CN (cF rfl q) rfl) ?_
 refine Gt (BR rfl rfl (fun h => by rw [h]; rfl)) ?_
 refine Gm rfl (Ba 21 rfl rfl (fun q => AE rfl) (Ba 21 rfl rfl (fun q => Ah NM rfl) ?_))
 refine Ba 21 rfl rfl (fun q => by have q1 := q; (try simp at q1); exact AR SU (cF rfl q) (cF rfl q) (by first | omega | (simp only [List.length_cons, List.length_nil]; omega)) (by first | omega | (simp only [List.length_cons, List.length_nil]; omega))) ?_
 refine Ba 21 rfl rfl (fun q => by have q1 := q; (try simp at q1); exact AG (cF rfl q) A3 .m0 (Ing.Event.l10.comp (AU.arr (n := 6) Bv (by first | omega | (simp only [List.length_cons, List.length_nil]; omega)) (by first | omega | (simp only [List.length_cons, List.length_nil]; omega)))) rfl rfl) ?_
 refine Ba 21 rfl rfl (fun q => Qc (cF rfl q) rfl (show _ = AH.Rf _ _ from rfl)) (Ba 21 rfl rfl (fun q => Ae (cF rfl q) rfl) ?_)
 refine Gt (BR rfl rfl (fun h => by rw [h]; rfl)) ?_
 refine Gn (.t3 1 2 28) ?_
 refine Gc (fun c1 => ?_) (fun c1 => ?_)
 ·
  refine Gs (Ga rfl (Ga rfl (Gn (.t2 4 5) (Ab (AD ?_)))))
  refine AY rfl (.tmp rfl (.tmp rfl .n)) ?_
  intro w1 hS; refine ⟨?_, hS.Am⟩; rw [show AH.tell e b = _ from BB c1]; rfl
 have c1p := kz c1
 have hs := hs c1
 have hr : 0 ≤ b ∧ b < 6 := by simp at c1; omega
 have htl := AH.Ou e b
 have h1l := AH.Ph hs b
 have h2l := AH.Nh hs b
 have h3l := hs.Bs
 have h4l := hs.text
 have h5l := AH.JC e.dir
 have h6l := Lib.itoa_length_le e.n hs.n0 hs.n1
 refine Aa ?_
 refine AB (.t2 1 2) ?_
 refine AA (Gs (Gt (Ah TK rfl) (Gt (AG rfl A3 .m0 Ing.Event.l0 rfl rfl) ?_)))
 refine BA rfl cc (.c rfl .n) (fun w hS => NA _ w) ?_
 refine Gm rfl (Gt (AM rfl rfl) (Gt (AM rfl rfl) (Ga rfl (Ga rfl (Gn (.t4 1 2 6 7) (Gs (Gm rfl ?_)))))))
 refine Ga rfl (Gn (.t4 1 2 6 8) (CG (Gm rfl (Gt (Ah Qu rfl) (Gt (AG rfl A3 .m0 Ing.Event.l2 rfl rfl) (Gt (Ae rfl rfl) (Gn (.t5 1 2 6 8 39) ?_)))))))
 refine Z6 (BS) (s := (AH.EK e b)) rfl rfl rfl rfl rfl rfl rfl ?_
 refine AB (.t3 1 2 8) ?_
 refine AA (CG (Gm rfl (Gt (Bw rfl rfl) (Gn (.t4 1 2 8 42) ?_))))
 refine Gc (fun c2 => ?_) (fun c2 => ?_)
 ·
  refine Gs (Ga rfl (Ga rfl (Gn (.t2 4 5) (Ab (AD ?_)))))
  refine AY rfl (.tmp rfl (.tmp rfl .n)) ?_
  intro w1 hS; refine ⟨?_, hS.Am⟩; rw [show AH.tell e b = _ from (AW c1).trans (BB c2)]; rfl
 have c2p := kz c2
 refine Aa ?_
 refine AB (.t3 1 2 8) ?_
 refine AA (Ao ?_)
 refine BE (N := 6) [0, 1, 0, 4, 3, 31] mix (by kernel_rfl) rfl ?_
 refine Pf 0 rfl (Ah XS rfl) (Pf 1 rfl (AG rfl CV .m0 Ing.Event.l6 rfl rfl) (Pf 2 rfl (Ah Xk rfl) (Pf 3 rfl (AG rfl CV .m0 Ing.Event.l7 rfl rfl) (Pf 4 rfl (A0 rfl) (Pf 5 rfl (A0 rfl) ?_)))))
 refine A4 (by kernel_rfl) ?_
 refine AB (.t5 1 2 8 9 10) ?_
 refine AA (CG (Gm rfl (Gt (Ah NM rfl) ?_)))
 refine Gt (AR SU rfl rfl (by first | omega | (simp only [List.length_cons, List.length_nil]; omega)) (by first | omega | (simp only [List.length_cons, List.length_nil]; omega))) ?_
 refine Gt (AG rfl A3 .m0 (Ing.Event.l10.comp (AU.arr (n := 6) Bv (by first | omega | (simp only [List.length_cons, List.length_nil]; omega)) (by first | omega | (simp only [List.length_cons, List.length_nil]; omega)))) rfl rfl) ?_
 refine Gt (Qc rfl rfl (show _ = AH.Rf _ _ from rfl)) (Gt (CX rfl rfl) (Gn (.t6 1 2 8 9 10 52) ?_))
 refine RA (BS) (s := (AH.IW e b)) rfl rfl rfl rfl rfl ?_
 refine AB (.t5 1 2 8 9 10) ?_
 refine AA (CG (Gm rfl (Gt (Ah NM rfl) ?_)))
 refine Gt (AR SU rfl rfl (by first | omega | (simp only [List.length_cons, List.length_nil]; omega)) (by first | omega | (simp only [List.length_cons, List.length_nil]; omega))) ?_
 refine Gt (AG rfl A3 .m0 (Ing.Event.l10.comp (AU.arr (n := 6) Bv (by first | omega | (simp only [List.length_cons, List.length_nil]; omega)) (by first | omega | (simp only [List.length_cons, List.length_nil]; omega)))) rfl rfl) ?_
 refine Gt (Qc rfl rfl (show _ = AH.Rf _ _ from rfl)) (Gt (CX rfl rfl) (Gn (.t6 1 2 8 9 10 58) ?_))
 refine RA (BS) (s := AH.WW e b) rfl rfl rfl rfl rfl ?_
 refine AB (.t5 1 2 8 9 10) ?_
 refine AA (CG (Gm rfl (Gt (Ah Gx rfl) (Gt (AG rfl A3 .m0 Ing.Event.l3 rfl rfl) (Gt (Ae rfl rfl) (Gn (.t5 2 8 9 10 62) ?_))))))
 refine RA (BS) (s := (AH.F7 e b)) rfl rfl rfl rfl rfl ?_
 refine AB (.t4 2 8 9 10) ?_
 refine AA (Gs ?_)
 refine BH rfl Ue rfl (fun b2 => ?_)
 refine Dh DQ 5 1 ?_
 refine AQ (AA (CG (Gm rfl (Gt (BI rfl Tryz.underlying9 rfl) (Gm rfl (Gn (.t7 2 8 9 10 11 64 65) (Af ?_)))))))
 refine Bo (.t7 65 2 8 9 10 11 64) ?_
 refine Be (.t .h) ?_
 refine Be (.t .h) ?_
 refine IU (fun (k : Int) (x : Ap) (p : Option Addr) (h : Hd) => 0 ≤ k ∧ k ≤ ((AH.EK e b).length : Int) ∧ x = AH.told e (AH.IW e b) (AH.F7 e b) (AH.EK e b) k.toNat ∧ (p = none ∨ p = some ⟨b2, 0, none⟩) ∧ h.Z ∧ h.len = x.length) (fun (k : Int) (x : Ap) (p : Option Addr) (h : Hd) => (((AH.EK e b).length : Int) - k).toNat) (fun (k : Int) (x : Ap) (p : Option Addr) (h : Hd) => [(65, .int .i64 k)]) (fun (k : Int) (x : Ap) (p : Option Addr) (h : Hd) => [Ac.own h 5 1 (x.flatMap DQ), Ac.box b2 107 (DV.enc ⟨p, h⟩)]) (0) ([]) (none) (⟨none, 0, 0⟩) ?_ rfl rfl (fun k x p h hI1 => ?_)
 · exact ⟨by omega, by omega, rfl, .inl rfl, Hd.UA, rfl⟩
 obtain ⟨hI11, hI12, hI13, hp, hz, hl⟩ := hI1; have hxl := AH.OP hs h1l h2l (AH.EK e b) k.toNat; rw [← hI13] at hxl; have hxm : k.toNat * 2000000 ≤ 60000000 := by omega
 refine Gs (Gt (A8 rfl rfl) (AQ (AA (Ao ?_))))
 refine Gc (fun c3 => ?_) (fun c3 => ?_)
 ·
  have c3p := kz c3
  refine Aa ?_
  refine AB (.t7 2 8 9 10 11 64 65) ?_
  refine AA (Ao (Af (Gs (Gm rfl (Ga rfl (Gn (.t8 2 8 9 10 11 12 64 65) (Gs ?_)))))))
  refine Gm rfl (Gm rfl ?_)
  refine Gt (Bl Tryz.underlying9 rfl rfl (by first | omega | (simp only [List.length_cons, List.length_nil]; omega)) (by first | omega | (simp only [List.length_cons, List.length_nil]; omega))) ?_
  refine Ga rfl (Gn (.t9 2 8 9 10 11 12 13 64 65) (Gs (Gm rfl (Gt (Ae rfl rfl) (Gm rfl (Ba 73 rfl rfl (fun q => AE rfl) (Ba 73 rfl rfl (fun q => AE rfl) ?_)))))))
  refine Ba 73 rfl rfl (fun q => by have q1 := q; (try simp at q1); exact E3 (cF rfl q) rfl (IntWalk.i64_in _ (by first | omega | (simp only [List.length_cons, List.length_nil]; omega)))) ?_
  refine Ba 73 rfl rfl (fun q => by have q1 := q; (try simp at q1); exact Bl Tryz.underlying9 (cF rfl q) (cF rfl q) (by first | omega | (simp only [List.length_cons, List.length_nil]; omega)) (by first | omega | (simp only [List.length_cons, List.length_nil]; omega))) ?_
  refine Ba 73 rfl rfl (fun q => Ae (cF rfl q) rfl) ?_
  refine Gt (BR rfl rfl (fun h => by rw [h]; rfl)) ?_
  refine Gm rfl (Bi 80 rfl rfl (fun q => AE rfl) ?_)
  refine Bi 80 rfl rfl (fun q => by have q1 := q; (try simp at q1); exact Av (Bh rfl q) rfl (IntWalk.i64_in _ (by first | omega | (simp only [List.length_cons, List.length_nil]; omega)))) ?_
  refine Bi 80 rfl rfl (fun q => AE rfl) (Bi 80 rfl rfl (fun q => BI rfl Tryz.underlying9 (Bh rfl q)) (Bi 80 rfl rfl (fun q => Ae (Bh rfl q) (Bh rfl q)) (Bi 80 rfl rfl (fun q => AE (Bh rfl q)) ?_)))
  refine C1 (t := 86) rfl rfl rfl (fun qc q => AE rfl) ?_
  refine C1 (t := 86) rfl rfl rfl (fun qc q => AE rfl) ?_
  refine C1 (t := 86) rfl rfl rfl (fun qc q => by have q1 := q; have qc1 := qc; (try simp at q1 qc1); exact Av (Bh rfl (by rw [qc, q]; rfl)) rfl (IntWalk.i64_in _ (by first | omega | (simp only [List.length_cons, List.length_nil]; omega)))) ?_
  refine C1 (t := 86) rfl rfl rfl (fun qc q => by have q1 := q; have qc1 := qc; (try simp at q1 qc1); exact Bl Tryz.underlying9 (Bh rfl (by rw [qc, q]; rfl)) (Bh rfl (by rw [qc, q]; rfl)) (by first | omega | (simp only [List.length_cons, List.length_nil]; omega)) (by first | omega | (simp only [List.length_cons, List.length_nil]; omega))) ?_
  refine C1 (t := 86) rfl rfl rfl (fun qc q => Ae (Bh rfl (by rw [qc, q]; rfl)) rfl) ?_
  refine Bi 80 rfl rfl (fun q => BR (Bh rfl q) rfl (fun h => by rw [q, h]; rfl)) ?_
  refine Bi 80 rfl rfl (fun q => AE (Bh rfl q)) ?_
  refine C1 (t := 93) rfl rfl rfl (fun qc q => AE rfl) ?_
  refine C1 (t := 93) rfl rfl rfl (fun qc q => AE rfl) ?_
  refine C1 (t := 93) rfl rfl rfl (fun qc q => by have q1 := q; have qc1 := qc; (try simp at q1 qc1); exact Av (Bh rfl (by rw [qc, q]; rfl)) rfl (IntWalk.i64_in _ (by first | omega | (simp only [List.length_cons, List.length_nil]; omega)))) ?_
  refine C1 (t := 93) rfl rfl rfl (fun qc q => by have q1 := q; have qc1 := qc; (try simp at q1 qc1); exact Bl Tryz.underlying9 (Bh rfl (by rw [qc, q]; rfl)) (Bh rfl (by rw [qc, q]; rfl)) (by first | omega | (simp only [List.length_cons, List.length_nil]; omega)) (by first | omega | (simp only [List.length_cons, List.length_nil]; omega))) ?_
  refine C1 (t := 93) rfl rfl rfl (fun qc q => Ae (Bh rfl (by rw [qc, q]; rfl)) rfl) ?_
  refine Bi 80 rfl rfl (fun q => BR (Bh rfl q) rfl (fun h => by rw [q, h]; rfl)) ?_
  refine Gt (BK rfl rfl (fun h => h)) (Ga rfl (Gn (.t9 2 8 9 10 11 13 14 64 65) (Af (Gs (Gm rfl (Gt (BV rfl) (Ga rfl ?_)))))))
  refine Gn (.t9 2 8 9 10 11 13 64 65 103) ?_
  refine Gc (fun c4 => ?_) (fun c4 => ?_)
  ·
   have c4p := kz c4
   refine AJ (Gm rfl ?_)
   refine Ag rfl YV (.c rfl (.c rfl .n)) (.c (.t .h) (.c .h .n)) (Cg _ _ _ _ (by assumption) (by assumption) (by assumption) _ (by omega)) (fun v1 B hv => ?_)
   obtain ⟨y2, y3, rfl, y4, y5, y6, rfl⟩ := hv
   refine AQ (AB (.t7 2 8 9 10 11 64 65) ?_)
   refine AV (AV (AA (AJ ?_)))
   refine Gt (Av rfl rfl (IntWalk.i64_in _ (by first | omega | (simp only [List.length_cons, List.length_nil]; omega)))) ?_
   refine Gm rfl ?_
   refine AQ (AB (.t7 2 8 9 10 11 64 65) ?_)
   refine B9 (.c (.t .h) (.c .h (.c .h .n))) ?_
   refine CO ?_
   refine DA (k + 1) _ _ _ ?_ ?_ (.t7 65 2 8 9 10 11 64) (.refl _)
   · exact ⟨by omega, by omega, by rw [AH.FY hI11, ← hI13, show AH.piece e (AH.IW e b) (AH.F7 e b) (AH.EK e b) k = _ from (BB c4)], by assumption, by assumption, by assumption⟩
   · omega
  have c4p := kz c4
  refine Gs (Gm rfl (Gt (Ae rfl rfl) (Ga rfl (Gn (.t9 2 8 9 10 11 13 64 65 108) ?_))))
  refine Gc (fun c5 => ?_) (fun c5 => ?_)
  ·
   have c5p := kz c5
   refine AJ (Gm rfl ?_)
   refine Ag rfl PH (.c rfl (.c rfl .n)) (.c (.t .h) (.c .h .n)) (BM _ _ _ _ (by assumption) (by assumption) (by assumption) _ (by omega)) (fun v7 B hv => ?_)
   obtain ⟨y8, y9, rfl, y10, y11, y12, rfl⟩ := hv
   refine AQ (AB (.t7 2 8 9 10 11 64 65) ?_)
   refine AV (AV (AA (AJ ?_)))
   refine Gt (Av rfl rfl (IntWalk.i64_in _ (by first | omega | (simp only [List.length_cons, List.length_nil]; omega)))) ?_
   refine Gm rfl ?_
   refine AQ (AB (.t7 2 8 9 10 11 64 65) ?_)
   refine B9 (.c (.t .h) (.c .h (.c .h .n))) ?_
   refine CO ?_
   refine DA (k + 1) _ _ _ ?_ ?_ (.t7 65 2 8 9 10 11 64) (.refl _)
   · exact ⟨by omega, by omega, by rw [AH.FY hI11, ← hI13, show AH.piece e (AH.IW e b) (AH.F7 e b) (AH.EK e b) k = _ from ((AW c4).trans (BB c5))], by assumption, by assumption, by assumption⟩
   · omega
  have c5p := kz c5
  refine Gs (Gm rfl (Gt (Ae rfl rfl) (Ga rfl (Gn (.t9 2 8 9 10 11 13 64 65 113) ?_))))
  refine Gc (fun c6 => ?_) (fun c6 => ?_)
  ·
   have c6p := kz c6
   refine AJ (Gm rfl ?_)
   refine Ag rfl PH (.c rfl (.c rfl .n)) (.c (.t .h) (.c .h .n)) (BM _ _ _ _ (by assumption) (by assumption) (by assumption) _ (by omega)) (fun v13 B hv => ?_)
   obtain ⟨y14, y15, rfl, y16, y17, y18, rfl⟩ := hv
   refine AQ (AB (.t7 2 8 9 10 11 64 65) ?_)
   refine AV (AV (AA (AJ ?_)))
   refine Gt (Av rfl rfl (IntWalk.i64_in _ (by first | omega | (simp only [List.length_cons, List.length_nil]; omega)))) ?_
   refine Gm rfl ?_
   refine AQ (AB (.t7 2 8 9 10 11 64 65) ?_)
   refine B9 (.c (.t .h) (.c .h (.c .h .n))) ?_
   refine CO ?_
   refine DA (k + 1) _ _ _ ?_ ?_ (.t7 65 2 8 9 10 11 64) (.refl _)
   · exact ⟨by omega, by omega, by rw [AH.FY hI11, ← hI13, show AH.piece e (AH.IW e b) (AH.F7 e b) (AH.EK e b) k = _ from ((AW c4).trans ((AW c5).trans (BB c6)))], by assumption, by assumption, by assumption⟩
   · omega
  have c6p := kz c6
  refine Gs (Gm rfl (Gt (Ae rfl rfl) (Ga rfl (Gn (.t9 2 8 9 10 11 13 64 65 118) ?_))))
  refine Gc (fun c7 => ?_) (fun c7 => ?_)
  ·
   have c7p := kz c7
   refine AJ (Gt (Ah ZZ rfl) (Gt (AG rfl CV .m2 Ing.Event.l8 rfl rfl) ?_))
   refine Ag rfl PH (.c rfl (.c rfl .n)) (.c (.t .h) (.c .h .n)) (BM _ _ _ _ (by assumption) (by assumption) (by assumption) _ (by omega)) (fun v19 B hv => ?_)
   obtain ⟨y20, y21, rfl, y22, y23, y24, rfl⟩ := hv
   refine AQ (AB (.t7 2 8 9 10 11 64 65) ?_)
   refine AV (AV (AA (AJ ?_)))
   refine Gt (Av rfl rfl (IntWalk.i64_in _ (by first | omega | (simp only [List.length_cons, List.length_nil]; omega)))) ?_
   refine Gm rfl ?_
   refine AQ (AB (.t7 2 8 9 10 11 64 65) ?_)
   refine B9 (.c (.t .h) (.c .h (.c .h .n))) ?_
   refine CO ?_
   refine DA (k + 1) _ _ _ ?_ ?_ (.t7 65 2 8 9 10 11 64) (.refl _)
   · exact ⟨by omega, by omega, by rw [AH.FY hI11, ← hI13, show AH.piece e (AH.IW e b) (AH.F7 e b) (AH.EK e b) k = _ from ((AW c4).trans ((AW c5).trans ((AW c6).trans (BB c7))))], by assumption, by assumption, by assumption⟩
   · omega
  have c7p := kz c7
  refine Gs (Gm rfl (Gt (Ae rfl rfl) (Ga rfl (Gn (.t9 2 8 9 10 11 13 64 65 124) ?_))))
  refine Gc (fun c8 => ?_) (fun c8 => ?_)
  ·
   have c8p := kz c8
   refine AJ (Gt (Ah Zi rfl) (Gt (AG rfl A3 .m2 Ing.Event.l4 rfl rfl) ?_))
   refine BA rfl bP (.c rfl .n) (fun w hS => Hq _ w (gl1.st hS)) ?_
   refine Ag rfl PH (.c rfl (.c rfl .n)) (.c (.t .h) (.c .h .n)) (BM _ _ _ _ (by assumption) (by assumption) (by assumption) _ (by omega)) (fun v25 B hv => ?_)
   obtain ⟨y26, y27, rfl, y28, y29, y30, rfl⟩ := hv
   refine AQ (AB (.t7 2 8 9 10 11 64 65) ?_)
   refine AV (AV (AA (AJ ?_)))
   refine Gt (Av rfl rfl (IntWalk.i64_in _ (by first | omega | (simp only [List.length_cons, List.length_nil]; omega)))) ?_
   refine Gm rfl ?_
   refine AQ (AB (.t7 2 8 9 10 11 64 65) ?_)
   refine B9 (.c (.t .h) (.c .h (.c .h .n))) ?_
   refine CO ?_
   refine DA (k + 1) _ _ _ ?_ ?_ (.t7 65 2 8 9 10 11 64) (.refl _)
   · exact ⟨by omega, by omega, by rw [AH.FY hI11, ← hI13, show AH.piece e (AH.IW e b) (AH.F7 e b) (AH.EK e b) k = _ from ((AW c4).trans ((AW c5).trans ((AW c6).trans ((AW c7).trans (BB c8)))))], by assumption, by assumption, by assumption⟩
   · omega
  have c8p := kz c8
  refine Gs (Gm rfl (Gt (Ae rfl rfl) (Ga rfl (Gn (.t9 2 8 9 10 11 13 64 65 131) ?_))))
  refine Gc (fun c9 => ?_) (fun c9 => ?_)
  ·
   have c9p := kz c9
   refine AJ (Gt (Ah Z1 rfl) (Gt (AG rfl CV .m2 Ing.Event.l9 rfl rfl) ?_))
   refine Ag rfl PH (.c rfl (.c rfl .n)) (.c (.t .h) (.c .h .n)) (BM _ _ _ _ (by assumption) (by assumption) (by assumption) _ (by omega)) (fun v31 B hv => ?_)
   obtain ⟨y32, y33, rfl, y34, y35, y36, rfl⟩ := hv
   refine AQ (AB (.t7 2 8 9 10 11 64 65) ?_)
   refine AV (AV (AA (AJ ?_)))
   refine Gt (Av rfl rfl (IntWalk.i64_in _ (by first | omega | (simp only [List.length_cons, List.length_nil]; omega)))) ?_
   refine Gm rfl ?_
   refine AQ (AB (.t7 2 8 9 10 11 64 65) ?_)
   refine B9 (.c (.t .h) (.c .h (.c .h .n))) ?_
   refine CO ?_
   refine DA (k + 1) _ _ _ ?_ ?_ (.t7 65 2 8 9 10 11 64) (.refl _)
   · exact ⟨by omega, by omega, by rw [AH.FY hI11, ← hI13, show AH.piece e (AH.IW e b) (AH.F7 e b) (AH.EK e b) k = _ from ((AW c4).trans ((AW c5).trans ((AW c6).trans ((AW c7).trans ((AW c8).trans (BB c9))))))], by assumption, by assumption, by assumption⟩
   · omega
  have c9p := kz c9
  refine Gs (Gm rfl (Gt (Ae rfl rfl) (Ga rfl (Gn (.t9 2 8 9 10 11 13 64 65 137) ?_))))
  refine Gc (fun c10 => ?_) (fun c10 => ?_)
  ·
   have c10p := kz c10
   refine AJ (Gt (Ah aH rfl) (Gt (AG rfl A3 .m2 Ing.Event.l5 rfl rfl) ?_))
   refine BA rfl cg (.c rfl .n) (fun w hS => Ll _ hs.n0 hs.n1 w (gl0.st hS)) ?_
   refine Ag rfl PH (.c rfl (.c rfl .n)) (.c (.t .h) (.c .h .n)) (BM _ _ _ _ (by assumption) (by assumption) (by assumption) _ (by omega)) (fun v37 B hv => ?_)
   obtain ⟨y38, y39, rfl, y40, y41, y42, rfl⟩ := hv
   refine AQ (AB (.t7 2 8 9 10 11 64 65) ?_)
   refine AV (AV (AA (AJ ?_)))
   refine Gt (Av rfl rfl (IntWalk.i64_in _ (by first | omega | (simp only [List.length_cons, List.length_nil]; omega)))) ?_
   refine Gm rfl ?_
   refine AQ (AB (.t7 2 8 9 10 11 64 65) ?_)
   refine B9 (.c (.t .h) (.c .h (.c .h .n))) ?_
   refine CO ?_
   refine DA (k + 1) _ _ _ ?_ ?_ (.t7 65 2 8 9 10 11 64) (.refl _)
   · exact ⟨by omega, by omega, by rw [AH.FY hI11, ← hI13, show AH.piece e (AH.IW e b) (AH.F7 e b) (AH.EK e b) k = _ from ((AW c4).trans ((AW c5).trans ((AW c6).trans ((AW c7).trans ((AW c8).trans ((AW c9).trans (BB c10)))))))], by assumption, by assumption, by assumption⟩
   · omega
  have c10p := kz c10
  refine AJ (Gm rfl ?_)
  refine Ag rfl YV (.c rfl (.c rfl .n)) (.c (.t .h) (.c .h .n)) (Cg _ _ _ _ (by assumption) (by assumption) (by assumption) _ (by omega)) (fun v43 B hv => ?_)
  obtain ⟨y44, y45, rfl, y46, y47, y48, rfl⟩ := hv
  refine AQ (AB (.t7 2 8 9 10 11 64 65) ?_)
  refine AV (AV (AA (AJ ?_)))
  refine Gt (Av rfl rfl (IntWalk.i64_in _ (by first | omega | (simp only [List.length_cons, List.length_nil]; omega)))) ?_
  refine Gm rfl ?_
  refine AQ (AB (.t7 2 8 9 10 11 64 65) ?_)
  refine B9 (.c (.t .h) (.c .h (.c .h .n))) ?_
  refine CO ?_
  refine DA (k + 1) _ _ _ ?_ ?_ (.t7 65 2 8 9 10 11 64) (.refl _)
  · exact ⟨by omega, by omega, by rw [AH.FY hI11, ← hI13, show AH.piece e (AH.IW e b) (AH.F7 e b) (AH.EK e b) k = _ from ((AW c4).trans ((AW c5).trans ((AW c6).trans ((AW c7).trans ((AW c8).trans ((AW c9).trans (AW c10)))))))], by assumption, by assumption, by assumption⟩
  · omega
 have c3p := kz c3
 obtain rfl : k = ((AH.EK e b).length : Int) := by omega
 refine Bf (AX (AX (Ai ?_)))
 refine AB (.t1 11) ?_
 refine AA (Gs ?_)
 refine Ag rfl Ym (.c rfl .n) (.c (.t .h) (.c .h .n)) (Ct _ _ _ _ (by assumption) (by assumption) (by omega)) (fun v49 B hv => ?_)
 obtain ⟨rfl, rfl⟩ := hv
 refine Ga rfl (Ga rfl (Gn (.t2 4 5) (Ab ?_)))
 refine AY rfl (.tmp rfl (.tmp rfl .n)) ?_
 intro w1 hS; refine ⟨?_, hS.Am⟩; rw [show AH.tell e b = _ from (AW c1).trans (AW c2), hI13]; rfl
theorem Gq (p : Ay) (w : World) : Ei Tryz.prog 44 #[.agg p.enc.toArray] w fun v w' => v = .bool (Page.Bg p) ∧ CB w w' := by
 refine Al [] [] Tryz.func44 rfl rfl rfl (St.start w []) ?_
 refine Gs ?_
 refine B4 rfl rfl rfl (fun b1 => ?_)
 refine Ga rfl (Gn (.t1 1) (Gs (Gt (Ah Jm rfl) (Gt (AG rfl FZ .m0 Ay.l0 rfl rfl) (Gt (Ar rfl Tryz.underlying52 rfl) (Gt (IG rfl rfl) (Gm rfl ?_)))))))
 refine Bi 7 rfl rfl (fun q => Ah Jc rfl) (Bi 7 rfl rfl (fun q => AG (Bh rfl q) CV .m0 Ay.l3 rfl rfl) (Bi 7 rfl rfl (fun q => BI rfl Tryz.underlying9 (Bh rfl q)) (Bi 7 rfl rfl (fun q => IG (Bh rfl q) rfl) (Gt (BK rfl rfl (fun h => h)) (Gm rfl (Bi 13 rfl rfl (fun q => Ah MZ rfl) (Bi 13 rfl rfl (fun q => AG (Bh rfl q) A3 .m0 Ay.l1 rfl rfl) ?_)))))))
 refine Bi 13 rfl rfl (fun q => CN (Bh rfl q) rfl) (Gt (BK rfl rfl (fun h => h)) (Gm rfl (Bi 18 rfl rfl (fun q => Ah MZ rfl) (Bi 18 rfl rfl (fun q => AG (Bh rfl q) A3 .m0 Ay.l1 rfl rfl) (Bi 18 rfl rfl (fun q => IG (Bh rfl q) rfl) (Gt (BK rfl rfl (fun h => h)) (Ga rfl ?_)))))))
 refine Gn (.t1 2) (Ab ?_)
 refine AY rfl (.tmp rfl .n) ?_
 intro w1 hS; refine ⟨congrArg Value.bool ?_, hS.Am⟩; rfl
theorem ND {t0 : Nat} (p : Ay) (qs : List Ap) (s : Ap) : FL Tryz.prog 82 #[.agg p.enc.toArray, BS s] [] (fun w => Rd w p.wait t0 1 (qs.flatMap A7)) (fun v B => (Page.Bg p = false ∧ v = .tuple #[.agg p.enc.toArray, .int .i64 2] ∧ B = []) ∨ (Page.Bg p = true ∧ p.cut = true ∧ v = .tuple #[.agg p.enc.toArray, .int .i64 6] ∧ B = []) ∨ (Page.Bg p = true ∧ p.cut = false ∧ 60 ≤ qs.length ∧ v = .tuple #[.agg (Ay.enc ⟨p.wait, p.shown, p.B7, p.ring, true⟩).toArray, .int .i64 0] ∧ B = []) ∨ (Page.Bg p = true ∧ p.cut = false ∧ qs.length < 60 ∧ ∃ h' : Hd, v = .tuple #[.agg (Ay.enc ⟨h', p.shown, p.B7, p.ring, p.cut⟩).toArray, .int .i64 0] ∧ h'.len = qs.length + 1 ∧ B = [Ac.own h' 9 1 ((qs ++ [s]).flatMap A7)])) := by
 intro w hS0 hH
 have r0 := hH
 have hl := r0.Mu DW (by decide)
 refine Al _ _ Tryz.func82 rfl rfl rfl (hS0) ?_
 refine Gs ?_
 refine B4 rfl rfl rfl (fun b1 => ?_)
 refine BH rfl Xf rfl (fun b2 => ?_)
 refine Ga rfl (Gn (.t3 1 2 4) (Ao (Af (Gs (Gt (AZ rfl Cy .m1 (AU.id Ay.fl.len Ay.fl.one) rfl) ?_)))))
 refine BA rfl ZS (.c rfl .n) (fun w hS => Gq _ w) ?_
 refine Gt (BV rfl) (Ga rfl (Gn (.t4 1 2 4 6) ?_))
 refine Gc (fun c1 => ?_) (fun c1 => ?_)
 ·
  refine Gs (Gt (AZ rfl Cy .m1 (AU.id Ay.fl.len Ay.fl.one) rfl) ?_)
  refine AT (AK (AU.id Ay.fl.len Ay.fl.one) rfl rfl rfl Fv rfl .h) ?_
  refine Ga rfl (Gn (.t2 4 5) (Ab (AS (AD ?_))))
  refine AY rfl (.cell rfl .m0 (.inl ⟨(by rw [Ay.fl.len]; exact Cy), rfl⟩) (.tmp rfl .n)) ?_
  intro w1 hS
  have hS := (hS.perm (Ax.perm .n)).A1
  exact ⟨_, .inl ⟨by simpa using c1, rfl, rfl⟩, hS⟩
 have c1p := kz c1
 have hgd : Page.Bg p = true := by simpa using c1
 have hg := (Page.HI p).1 hgd
 refine Gs (Gt (Ah K2 rfl) (Gt (AG rfl Dj .m1 Ay.l4 rfl rfl) (Ga rfl (Gn (.t4 1 2 4 11) ?_))))
 refine Gc (fun c2 => ?_) (fun c2 => ?_)
 ·
  refine Gs (Gt (AZ rfl Cy .m1 (AU.id Ay.fl.len Ay.fl.one) rfl) ?_)
  refine AT (AK (AU.id Ay.fl.len Ay.fl.one) rfl rfl rfl Fv rfl .h) ?_
  refine Ga rfl (Gn (.t2 4 5) (Ab (AS (AD ?_))))
  refine AY rfl (.cell rfl .m0 (.inl ⟨(by rw [Ay.fl.len]; exact Cy), rfl⟩) (.tmp rfl .n)) ?_
  intro w1 hS
  have hS := (hS.perm (Ax.perm .n)).A1
  exact ⟨_, .inr (.inl ⟨hgd, c2, rfl, rfl⟩), hS⟩
 have c2p := kz c2
 refine Gs (Gt (Ah Jm rfl) (Gt (AG rfl FZ .m1 Ay.l0 rfl rfl) (Gt (Ar rfl Tryz.underlying52 rfl) (Gt (CN rfl rfl) (Ga rfl (Gn (.t4 1 2 4 15) ?_))))))
 refine Gc (fun c3 => ?_) (fun c3 => ?_)
 ·
  have c3p := kz c3
  refine Gs (Gt (Ah K2 rfl) ?_)
  refine AT (AK Ay.l4 rfl rfl rfl KX rfl (.t .h)) ?_
  refine Gn (.t2 2 4) (Gs (Gt (AZ rfl Cy .m1 (AU.id Ay.fl.len Ay.fl.one) rfl) ?_))
  refine AT (AK (AU.id Ay.fl.len Ay.fl.one) rfl rfl rfl Fv rfl .h) ?_
  refine Ga rfl (Gn (.t2 4 5) (Ab (AS (AD ?_))))
  refine AY rfl (.cell rfl .m0 (.inl ⟨(by rw [Ay.fl.len]; exact Cy), rfl⟩) (.tmp rfl .n)) ?_
  intro w1 hS
  have hS := (hS.perm (Ax.perm .n)).A1
  exact ⟨_, .inr (.inr (.inl ⟨hgd, by simpa using c2, by simp at c3; omega, rfl, rfl⟩)), hS⟩
 have c3p := kz c3
 refine Aa ?_
 refine AB (.t3 1 2 4) ?_
 refine AV (AA (Gs (Gt (Ah Jm rfl) (Gt (AG rfl FZ .m1 Ay.l0 rfl rfl) ?_))))
 refine BF rfl U6 (.c rfl .n) .n (Bx _ _ (by first | assumption | omega)) (fun w hS => (Kn.I0 r0) w hS) (fun v1 B hv => ?_)
 obtain ⟨y2, rfl, y3, rfl⟩ := hv
 refine Gm rfl ?_
 refine Fg A7 DW rfl Tryz.underlying52 Eo Sh rfl (by decide) (by decide) rfl rfl (fun b3 => ?_)
 refine Cc DW rfl Tryz.underlying52 Eo Sh rfl X1 (by decide) (by decide) rfl rfl (fun w hS => Src.D3 Tryz.underlying52 ((Kn.own .m0) w hS)) (by (try dsimp only); omega) (fun _ => (.t .h)) (fun h5 h5l h5z => ?_)
 refine Gt (Ah Jm rfl) ?_
 refine AT (AK Ay.l0 rfl rfl rfl My rfl (.t (.t (.t .h)))) ?_
 refine Gn (.t2 2 4) (Gs (Gt (AZ rfl Cy .m3 (AU.id Ay.fl.len Ay.fl.one) rfl) ?_))
 refine AT (AK (AU.id Ay.fl.len Ay.fl.one) rfl rfl rfl Fv rfl (.t (.t .h))) ?_
 refine Ga rfl (Gn (.t2 4 5) (Ab ?_))
 refine AY rfl (.cell rfl .m2 (.inl ⟨(by rw [Ay.fl.len]; exact Cy), rfl⟩) (.tmp rfl .n)) ?_
 intro w1 hS
 have hS := (hS.perm (Ax.perm (.c (.t .h) .n))).A1
 exact ⟨_, .inr (.inr (.inr ⟨hgd, by simpa using c2, by simp at c3; omega, _, rfl, by (try dsimp only at *); (try simp only [List.length_cons, List.length_nil] at *); omega, rfl⟩)), hS⟩
theorem EL (b : Nat) (V : AL) (ls : Vector BD 4) (ev : List Ing.Event) (k : Int) (u : Ap) (hk : 0 ≤ k ∧ k < 4) (ht : (ls.at k).told.length ≤ 1000000) : JS Tryz.prog 64 #[.pointer (some ⟨b, 0, none⟩), .pointer (some ⟨b, 165 + k.toNat * 22, none⟩), BS u] [Ac.box b 101 (AL.enc V), Ac.Dz (CH 9 (AL.Aw V) ls), Ac.own (AL.last V) 56 16 ((ev).flatMap Ing.Event.enc)] (fun v B => ∃ V' ls' ev', v = .tuple #[] ∧ A5 V' ls' ev' = AI.tell (A5 V ls ev) k u ∧ B = [Ac.box b 101 (AL.enc V'), Ac.Dz (CH 9 (AL.Aw V') ls'), Ac.own (AL.last V') 56 16 ((ev').flatMap Ing.Event.enc)]) := by
 intro w hS0
 refine Al _ _ Tryz.func64 rfl rfl rfl (hS0) ?_
 refine FR (k := k) hk.1 hk.2 (fun sv sl hsv hlv hln => ?_)
 refine Be (.t (.t (.t .h))) ?_
 refine Be (.t (.t .h)) ?_
 refine X5 (Lm := [_, _]) (fun (o : Ay) (w0 : Hd) (ws : List Ap) => Cl { sv with out := o } ⟨sl.queue, ws, sl.told⟩ = (Cl sv sl).line u ∧ o.wait = w0) (fun (o : Ay) (w0 : Hd) (ws : List Ap) => []) (fun (o : Ay) (w0 : Hd) (ws : List Ap) => [Ac.own w0 9 1 (ws.flatMap A7), Ac.box b 101 (Jk V k { sv with out := o })]) (.t2 1 2) rfl ?_ (fun o w0 ws hC => ?_)
 ·
  refine AJ (Gm rfl (Gm rfl (Gt (BT rfl) (Gt (Ah Dw rfl) (Gt (AZ rfl Cy .m1 ((AU.BJ V hk.1 hk.2).comp A2.l4) rfl) (Gm rfl ?_))))))
  refine BF rfl dO (.c rfl (.c rfl .n)) .n (ND _ _ _) (fun w hS => (Kn.own .m0) w hS) (fun v1 B hv => ?_)
  rcases hv with ⟨y2, rfl, rfl⟩ | ⟨y3, y4, rfl, rfl⟩ | ⟨y5, y6, y7, rfl, rfl⟩ | ⟨y8, y9, y10, y11, rfl, y12, rfl⟩
  ·
   refine Gm rfl (Gt (AM rfl rfl) (Gt (AM rfl rfl) (Gt (BT rfl) (Gt (Ah Dw rfl) ?_))))
   refine AT (AK ((AU.BJ V hk.1 hk.2).comp A2.l4) rfl rfl rfl Fv rfl (.t .h)) ?_
   refine AQ (AB (.t2 1 2) ?_)
   refine NJ _ _ _ ?_ (.t2 1 2) (.refl _)
   · exact ⟨(Wy hln.2.1 y2).symm, rfl⟩
  ·
   refine Gm rfl (Gt (AM rfl rfl) (Gt (AM rfl rfl) (Gt (BT rfl) (Gt (Ah Dw rfl) ?_))))
   refine AT (AK ((AU.BJ V hk.1 hk.2).comp A2.l4) rfl rfl rfl Fv rfl (.t .h)) ?_
   refine AQ (AB (.t2 1 2) ?_)
   refine NJ _ _ _ ?_ (.t2 1 2) (.refl _)
   · exact ⟨(Xr hln.2.1 y3 y4).symm, rfl⟩
  ·
   refine Gm rfl (Gt (AM rfl rfl) (Gt (AM rfl rfl) (Gt (BT rfl) (Gt (Ah Dw rfl) ?_))))
   refine AT (AK ((AU.BJ V hk.1 hk.2).comp A2.l4) rfl rfl rfl Fv rfl (.t .h)) ?_
   refine AQ (AB (.t2 1 2) ?_)
   refine NJ _ _ _ ?_ (.t2 1 2) (.refl _)
   · exact ⟨(VU hln.2.1 y5 y6 y7).symm, rfl⟩
  refine Gm rfl (Gt (AM rfl rfl) (Gt (AM rfl rfl) (Gt (BT rfl) (Gt (Ah Dw rfl) ?_))))
  refine AT (AK ((AU.BJ V hk.1 hk.2).comp A2.l4) rfl rfl rfl Fv rfl (.t (.t .h))) ?_
  refine AQ (AB (.t2 1 2) ?_)
  refine B9 (.c .h (.c (.t .h) (.c (.t .h) (.c (.t .h) (.c (.t .h) (.c (.t .h) .n)))))) ?_
  refine CO ?_
  refine NJ _ _ _ ?_ (.t2 1 2) (.refl _)
  · exact ⟨(Uz hln.2.1 y8 y9 y10 _).symm, rfl⟩
 obtain ⟨hE1, hE2⟩ := hC
 have ht2 : sl.told.length ≤ 1000000 := by rw [← hlv]; exact ht
 refine Gs (Gm rfl (Gt (BT rfl) (Gt (Ah Dw rfl) (Gt (Ah K2 rfl) (Gt (AG rfl Dj .m1 (((AU.BJ V hk.1 hk.2).comp A2.l4).comp Ay.l4) rfl rfl) (Gt (BV rfl) (Gn (.t3 1 2 23) ?_)))))))
 refine Gc (fun c1 => ?_) (fun c1 => ?_)
 ·
  have c1p := kz c1
  refine AJ (Gm rfl (Gm rfl (Gt (BT rfl) (Gt (Ah QX rfl) (Gt (AG rfl FZ .m1 ((AU.BJ V hk.1 hk.2).comp A2.l5) rfl rfl) (Gm rfl ?_))))))
  refine Fg A7 DW rfl Tryz.underlying52 Eo Sh rfl (by decide) (by decide) rfl rfl (fun b1 => ?_)
  refine Cc DW rfl Tryz.underlying52 Eo Sh rfl X1 (by decide) (by decide) rfl rfl (fun w hS => Src.D3 Tryz.underlying52 ((Kn.own .m0) w hS)) (by (try dsimp only); omega) (fun _ => (.t (.t (.t (.t .h))))) (fun h14 h14l h14z => ?_)
  refine Gt (BT rfl) (Gt (Ah QX rfl) ?_)
  refine AT (AK ((AU.BJ V hk.1 hk.2).comp A2.l5) rfl rfl rfl My rfl (.t (.t .h))) ?_
  refine AQ ?_
  refine Bk rfl .n ?_
  intro w1 hS
  have hS := (hS.perm (Ax.perm (.c (.t (.t (.t .h))) (.c (.t .h) (.c (.t (.t .h)) (.c (.t .h) (.c (.t .h) (.c (.t .h) .n)))))))).A1
  have hS := hS.close' hk.1 hk.2 (by rfl) (by exact hE2) (by rfl)
  refine ⟨_, ⟨V.BJ k _, ls.put k ⟨_, _, _⟩, ev, rfl, ?ga1, rfl⟩, hS⟩
  case ga1 => exact Eg hk.1 hk.2 hsv hlv (f := fun x => x.tell u) (by show _ = ((Cl sv sl).line u).note u; rw [← hE1]; exact (Zs (l := ⟨sl.queue, ws, sl.told⟩) c1 _).symm)
 refine Aa ?_
 refine Bk rfl .n ?_
 intro w1 hS
 have hS := (hS.perm (Ax.perm (.c (.t (.t .h)) (.c .h (.c (.t .h) (.c .h (.c .h (.c .h .n)))))))).A1
 have hS := hS.close' hk.1 hk.2 (by rfl) (by exact hE2) (by rfl)
 refine ⟨_, ⟨V.BJ k _, ls.put k ⟨_, _, _⟩, ev, rfl, ?ga2, rfl⟩, hS⟩
 case ga2 => exact Eg hk.1 hk.2 hsv hlv (f := fun x => x.tell u) (by show _ = ((Cl sv sl).line u).note u; rw [← hE1]; exact (ZY (l := ⟨sl.queue, ws, sl.told⟩) c1).symm)
theorem El (b : Nat) (V : AL) (ls : Vector BD 4) (ev : List Ing.Event) (f : Hd) (es : List Ing.Event) (n : Nat) (hf : f.len = es.length) (hn : Wm ls n) (hm : n + es.length ≤ 1000000) (hl : ev.length ≤ 1000000) (he : (∀ e ∈ es, ∀ c : Int, (decide (c < 0) || decide (6 ≤ c) || decide (AH.Rf (e.He.at c) 1 = 0)) = false → AH.Small e)) : FL Tryz.prog 79 #[.pointer (some ⟨b, 0, none⟩), f.val] [Ac.box b 101 (AL.enc V), Ac.Dz (CH 9 (AL.Aw V) ls), Ac.own (AL.last V) 56 16 ((ev).flatMap Ing.Event.enc), Ac.own f 56 16 (es.flatMap Ing.Event.enc)] (fun w => (GV 2 Fu w ∧ 2 ∉ Cd [Ac.box b 101 (AL.enc V), Ac.Dz (CH 9 (AL.Aw V) ls), Ac.own (AL.last V) 56 16 ((ev).flatMap Ing.Event.enc), Ac.own f 56 16 (es.flatMap Ing.Event.enc)]) ∧ (GV 0 AH.DG w ∧ 0 ∉ Cd [Ac.box b 101 (AL.enc V), Ac.Dz (CH 9 (AL.Aw V) ls), Ac.own (AL.last V) 56 16 ((ev).flatMap Ing.Event.enc), Ac.own f 56 16 (es.flatMap Ing.Event.enc)])) (fun v B => ∃ V' ls' ev', v = .tuple #[] ∧ A5 V' ls' ev' = AI.Gu (A5 V ls ev) es ∧ B = [Ac.box b 101 (AL.enc V'), Ac.Dz (CH 9 (AL.Aw V') ls'), Ac.own (AL.last V') 56 16 ((ev').flatMap Ing.Event.enc), Ac.own f 56 16 (es.flatMap Ing.Event.enc)]) := by
 intro w hS0 hH
 obtain ⟨⟨gl0, gm0⟩, ⟨gl1, gm1⟩⟩ := hH
 refine Al _ _ Tryz.func79 rfl rfl rfl (hS0) ?_
 refine Ao ?_
 refine Zl (fun w hS => (Kn.own .m2 w hS).Mu Ing.Event.fl (by decide)) (fun hLl => ?_)
 refine AJ (Gm rfl (Gm rfl (Gt (BT rfl) (Gt (Ah QY rfl) (Gt (AG rfl Di .m0 AL.l3 rfl rfl) (Gm rfl ?_))))))
 refine Cc Ing.Event.fl rfl Tryz.underlying53 Ni IP rfl XI (by decide) (by decide) rfl rfl (fun w hS => Src.D3 Tryz.underlying53 ((Kn.own .m3) w hS)) (by (try dsimp only); omega) (fun _ => (.t (.t .h))) (fun h1 h1l h1z => ?_)
 refine Gt (BT rfl) (Gt (Ah QY rfl) ?_)
 refine AT (AK AL.l3 rfl rfl rfl Rq rfl .h) ?_
 refine Gn (.t2 0 1) (Gs (Gm rfl (Gt (Ar rfl Tryz.underlying53 rfl) (Gm rfl (Gn (.t4 0 19 20 21) (Af ?_))))))
 refine Bo (.t4 21 0 19 20) ?_
 refine Be (.t (.t .h)) ?_
 refine Be (.t (.t .h)) ?_
 refine Be (.t (.t .h)) ?_
 refine IU (fun (k : Int) (V1 : AL) (ls1 : Vector BD 4) (ev1 : List Ing.Event) => 0 ≤ k ∧ k ≤ (es.length : Int) ∧ A5 V1 ls1 ev1 = ({ (A5 V ls ev) with last := ev ++ es } : AI).Hc (es.take k.toNat) ∧ Wm ls1 (n + k.toNat)) (fun (k : Int) (V1 : AL) (ls1 : Vector BD 4) (ev1 : List Ing.Event) => ((es.length : Int) - k).toNat) (fun (k : Int) (V1 : AL) (ls1 : Vector BD 4) (ev1 : List Ing.Event) => [(21, .int .i64 k)]) (fun (k : Int) (V1 : AL) (ls1 : Vector BD 4) (ev1 : List Ing.Event) => [Ac.box b 101 (AL.enc V1), Ac.Dz (CH 9 (AL.Aw V1) ls1), Ac.own (AL.last V1) 56 16 (ev1.flatMap Ing.Event.enc)]) (0) (_) (_) (_) ?_ rfl rfl (fun k V1 ls1 ev1 hI1 => ?_)
 · exact ⟨by omega, by omega, rfl, hn⟩
 obtain ⟨hI11, hI12, hI13, hI14⟩ := hI1
 refine Gs (Gt (A8 rfl rfl) (AQ (AA (Ao ?_))))
 refine Gc (fun c1 => ?_) (fun c1 => ?_)
 ·
  have c1p := kz c1
  refine Aa ?_
  refine AB (.t4 0 19 20 21) ?_
  refine AA (Ao (Af (Gs ?_)))
  refine Gt (Br dY (by decide) (Kn.own .m3) rfl rfl (by omega) (by omega)) ?_
  refine Gt (OR rfl Oz (by decide) Ing.Event.fl (Kn.own .m3) (by omega)) ?_
  refine BH rfl IP rfl (fun b1 => ?_)
  refine AT (AK (AU.id Ing.Event.fl.len Ing.Event.fl.one) rfl rfl rfl Ni rfl .h) ?_
  refine Gn (.t5 0 5 19 20 21) (Gs (Gm rfl (AQ (AA (Af ?_)))))
  refine Bo (.t6 25 0 5 19 20 21) ?_
  refine Be (.t (.t (.t .h))) ?_
  refine Be (.t (.t (.t .h))) ?_
  refine Be (.t (.t (.t .h))) ?_
  refine IU (fun (i : Int) (V2 : AL) (ls2 : Vector BD 4) (ev2 : List Ing.Event) => 0 ≤ i ∧ i ≤ 4 ∧ A5 V2 ls2 ev2 = AI.CS (es.getD k.toNat default) (A5 V1 ls1 ev1) i.toNat ∧ (∀ j : Int, i ≤ j → j < 4 → (ls2.at j).told.length ≤ n + k.toNat) ∧ (∀ j : Int, 0 ≤ j → j < 4 → (ls2.at j).told.length ≤ n + k.toNat + 1)) (fun (i : Int) (V2 : AL) (ls2 : Vector BD 4) (ev2 : List Ing.Event) => (4 - i).toNat) (fun (i : Int) (V2 : AL) (ls2 : Vector BD 4) (ev2 : List Ing.Event) => [(25, .int .i64 i)]) (fun (i : Int) (V2 : AL) (ls2 : Vector BD 4) (ev2 : List Ing.Event) => [Ac.box b 101 (AL.enc V2), Ac.Dz (CH 9 (AL.Aw V2) ls2), Ac.own (AL.last V2) 56 16 (ev2.flatMap Ing.Event.enc)]) (0) (V1) (ls1) (ev1) ?_ rfl rfl (fun i V2 ls2 ev2 hI2 => ?_)
  · exact ⟨by omega, by omega, rfl, (fun j j0 j1 => hI14 j j0 j1), (fun j j0 j1 => Nat.le_succ_of_le (hI14 j j0 j1))⟩
  obtain ⟨hI21, hI22, hI23, hI24, hI25⟩ := hI2
  refine Gs (Gt (A8 rfl rfl) (AQ (AA (Ao ?_))))
  refine Gc (fun c2 => ?_) (fun c2 => ?_)
  ·
   have c2p := kz c2
   refine Aa ?_
   refine AB (.t6 0 5 19 20 21 25) ?_
   refine AA (Ao (Af (Gs (Gm rfl (Ga rfl (Gn (.t7 0 5 6 19 20 21 25) (Gs ?_)))))))
   refine Gm rfl (Gm rfl (Gt (BT rfl) (Gt (Ah GP rfl) ?_)))
   refine Gt (AR PL rfl rfl (by omega) (by omega)) ?_
   refine Ga rfl (Gn (.t7 0 5 7 19 20 21 25) (CG (Gm rfl (Gt (BT rfl) (Gt (Ah I9 rfl) ?_)))))
   refine Gt (AG rfl A3 .m0 ((AL.l1.comp (AU.ar (n := 4) A2.fl (by omega))).comp A2.l0) rfl rfl) ?_
   refine Gt (CX rfl rfl) (Gn (.t8 0 5 7 19 20 21 25 37) ?_)
   refine Gc (fun c3 => ?_) (fun c3 => ?_)
   ·
    have c3p := kz c3
    refine Bf (AX (Ai ?_))
    refine AB (.t6 0 5 19 20 21 25) ?_
    refine AA (AJ ?_)
    refine Gt (Av rfl rfl (IntWalk.i64_in _ (by omega))) ?_
    refine Gm rfl ?_
    refine AQ (AB (.t6 0 5 19 20 21 25) ?_)
    refine DA (i + 1) _ _ _ ?_ ?_ (.t6 25 0 5 19 20 21) (.refl _)
    · exact ⟨by omega, by omega, ((Ko hI21 (by omega) hI23).trans (BB c3)).symm, (fun j j0 j1 => hI24 j (by omega) j1), hI25⟩
    · omega
   have c3p := kz c3
   refine Aa ?_
   refine AB (.t7 0 5 7 19 20 21 25) ?_
   refine AA (Ao ?_)
   refine BE (N := 11) [0, 0, 2, 6, 14, 31, 63, 127, 127, 255, 1023] mix (by kernel_rfl) rfl ?_
   refine Pf 0 rfl (AZ rfl Oz .m3 (AU.id Ing.Event.fl.len Ing.Event.fl.one) rfl) (Pf 1 rfl (AE rfl) (Pf 2 rfl (BT rfl) (Pf 3 rfl (Ah IE rfl) ?_)))
   refine Pf 4 rfl (AG rfl A3 .m0 ((AL.l1.comp (AU.ar (n := 4) A2.fl (by omega))).comp A2.l1) rfl rfl) ?_
   refine BZ 5 rfl rfl (by kernel_rfl) (Lb (K9 (D7 ca (.c rfl (.c rfl .n)) (fun w hS => NF (es.getD k.toNat default) _ (he _ (Pn (d := default) (xs := es) (i := k.toNat) (by omega)) _) w (gl0.stM gm0 hS) (gl1.stM gm1 hS))))) ?_
   refine Pf 6 rfl (AE rfl) (Pf 7 rfl (AM rfl rfl) (Pf 8 rfl (AM rfl rfl) (Pf 9 rfl (A0 rfl) (Pf 10 rfl (A0 rfl) ?_))))
   refine A4 (by kernel_rfl) ?_
   refine AB (.t9 0 5 7 8 9 19 20 21 25) ?_
   refine AA (Gs (Gm rfl (Gn (.t9 0 5 7 8 19 20 21 25 47) ?_)))
   refine Gc (fun c4 => ?_) (fun c4 => ?_)
   ·
    have c4p := kz c4
    refine AJ (Gm rfl (Gm rfl (Gm rfl ?_)))
    refine Ag rfl Tj (.c rfl (.c rfl (.c rfl .n))) (.c .h (.c .h (.c .h .n))) (EL _ V2 ls2 _ i _ (by omega) (Nat.le_trans (hI24 i (by omega) (by omega)) (by omega))) (fun v2 B hv => ?_)
    obtain ⟨y3, y4, y5, rfl, y6, rfl⟩ := hv
    refine AQ (AB (.t6 0 5 19 20 21 25) ?_)
    refine AV (AA (AJ ?_))
    refine Gt (Av rfl rfl (IntWalk.i64_in _ (by omega))) ?_
    refine Gm rfl ?_
    refine AQ (AB (.t6 0 5 19 20 21 25) ?_)
    refine DA (i + 1) _ _ _ ?_ ?_ (.t6 25 0 5 19 20 21) (.refl _)
    · exact ⟨by omega, by omega, y6.trans ((Ko hI21 (by omega) hI23).trans ((AW c3).trans (BB c4))).symm, (fun j j0 j1 => by have h := hI24 j (by omega) j1; rw [(Km hI21 (by omega) y6 (by omega) j1).2 (by omega)]; exact h), (fun j j0 j1 => if c : j = i then (by subst c; have h := hI24 j (by omega) j1; have h2 := (Km hI21 (by omega) y6 j0 j1).1; omega) else (by rw [(Km hI21 (by omega) y6 j0 j1).2 c]; exact hI25 j j0 j1))⟩
    · omega
   have c4p := kz c4
   refine Aa ?_
   refine AB (.t6 0 5 19 20 21 25) ?_
   refine AV (AA (AJ ?_))
   refine Gt (Av rfl rfl (IntWalk.i64_in _ (by omega))) ?_
   refine Gm rfl ?_
   refine AQ (AB (.t6 0 5 19 20 21 25) ?_)
   refine DA (i + 1) _ _ _ ?_ ?_ (.t6 25 0 5 19 20 21) (.refl _)
   · exact ⟨by omega, by omega, ((Ko hI21 (by omega) hI23).trans ((AW c3).trans (AW c4))).symm, (fun j j0 j1 => hI24 j (by omega) j1), hI25⟩
   · omega
  have c2p := kz c2
  obtain rfl : i = 4 := by omega
  refine Bf (AX (AX (Ai ?_)))
  refine AB (.t4 0 19 20 21) ?_
  refine AV (AA (AJ ?_))
  refine Gt (Av rfl rfl (IntWalk.i64_in _ (by omega))) ?_
  refine Gm rfl ?_
  refine AQ (AB (.t4 0 19 20 21) ?_)
  refine B9 (.c .h (.c .h (.c .h (.c (.t .h) .n)))) ?_
  refine CO ?_
  refine DA (k + 1) _ _ _ ?_ ?_ (.t4 21 0 19 20) (.refl _)
  · exact ⟨by omega, by omega, by rw [TC hI11 (by omega), ← hI13]; exact hI23, fun j j0 j1 => by have h := hI25 j j0 j1; rw [show (k + 1).toNat = k.toNat + 1 by omega]; omega⟩
  · omega
 have c1p := kz c1
 obtain rfl : k = (es.length : Int) := by omega
 refine Bf (AX (AX (Ai ?_)))
 refine Bk rfl .n ?_
 intro w1 hS
 have hS := (hS.perm (Ax.perm (.c .h (.c .h (.c .h (.c .h .n)))))).A1
 refine ⟨_, ⟨V1, ls1, ev1, rfl, ?ga, rfl⟩, hS⟩
 case ga => rw [hI13, show (es.length : Int).toNat = es.length by omega, List.take_length]; exact (WK rfl).symm
theorem Qh (b : Nat) (V : AL) (ls : Vector BD 4) (ev : List Ing.Event) (k : Int) (u : Ap) (n m : Nat) (hk : 0 ≤ k ∧ k < 4) (hF : AI.Fit (A5 V ls ev) n m) (hn : n ≤ 900000) (hm : m ≤ 900000) (hu : u.length ≤ 1000) : FL Tryz.prog 93 #[.pointer (some ⟨b, 0, none⟩), .pointer (some ⟨b, 165 + k.toNat * 22, none⟩), BS u] [Ac.box b 101 (AL.enc V), Ac.Dz (CH 9 (AL.Aw V) ls), Ac.own (AL.last V) 56 16 ((ev).flatMap Ing.Event.enc)] (fun w => (GV 2 Fu w ∧ 2 ∉ Cd [Ac.box b 101 (AL.enc V), Ac.Dz (CH 9 (AL.Aw V) ls), Ac.own (AL.last V) 56 16 ((ev).flatMap Ing.Event.enc)]) ∧ (GV 0 AH.DG w ∧ 0 ∉ Cd [Ac.box b 101 (AL.enc V), Ac.Dz (CH 9 (AL.Aw V) ls), Ac.own (AL.last V) 56 16 ((ev).flatMap Ing.Event.enc)])) (fun v B => ∃ V' ls' ev', v = .tuple #[] ∧ A5 V' ls' ev' = AI.named (A5 V ls ev) k u ∧ B = [Ac.box b 101 (AL.enc V'), Ac.Dz (CH 9 (AL.Aw V') ls'), Ac.own (AL.last V') 56 16 ((ev').flatMap Ing.Event.enc)]) := by
 intro w hS0 hH
 obtain ⟨⟨gl0, gm0⟩, ⟨gl1, gm1⟩⟩ := hH
 have hel := AF.QH V.w u
 have hes := AF.JI (s := u) hF.Fl
 have htn := Gj hF
 refine Al _ _ Tryz.func93 rfl rfl rfl (hS0) ?_
 refine Gs (Gm rfl (Gt (BT rfl) (Gt (Ah EI rfl) (Gt (AZ rfl BW .m0 AL.l0 rfl) (Gm rfl ?_)))))
 refine BF rfl aO (.c rfl (.c rfl .n)) .n (L7 V.w u hF.Fl.H4 (by omega)) (fun w hS => gl1.pull gm1 hS .n) (fun v1 B hv => ?_)
 obtain ⟨y2, rfl, y3, rfl⟩ := hv
 refine Gm rfl (Gt (AM rfl rfl) (Gt (AM rfl rfl) (Gt (AM rfl rfl) (Gt (AM rfl rfl) ?_))))
 refine BH rfl M9 rfl (fun b1 => ?_)
 refine AT (AK (AU.id AH.fl.len AH.fl.one) rfl rfl rfl D6 rfl .h) ?_
 refine Ga rfl (Ga rfl (Ga rfl (Gn (.t6 0 1 6 7 8 9) (Gs (Gm rfl (Gn (.t6 0 1 6 7 8 21) (Af ?_)))))))
 refine Gs (Gt (Ae rfl rfl) (Ga rfl (Gn (.t7 0 1 6 7 8 21 25) ?_)))
 refine Gc (fun c1 => ?_) (fun c1 => ?_)
 ·
  have c1p := kz c1
  refine Gs (Gm rfl (Gt (AZ rfl BW .m0 (AU.id AH.fl.len AH.fl.one) rfl) (Gt (BT rfl) (Gt (Ah EI rfl) ?_))))
  refine AT (AK AL.l0 rfl rfl rfl D6 rfl (.t (.t .h))) ?_
  refine Gn (.t4 0 1 7 8) (Ao ?_)
  refine EY (.c (.t (.t .h)) (.c (.t (.t .h)) .n)) ?_
  refine FR (k := k) hk.1 hk.2 (fun sv sl hsv hlv hln => ?_)
  refine AJ (Gm rfl (Gm rfl (Gm rfl (Gt (BT rfl) (Gt (Ah I9 rfl) ?_)))))
  refine AT (AK ((AU.BJ { V with w := (AF.BU V.w u).1 } hk.1 hk.2).comp A2.l0) rfl rfl rfl C5 rfl (.t (.t (.t .h)))) ?_
  refine Gt (BT rfl) (Gt (Ah IE rfl) ?_)
  refine AT (AK ((AU.BJ { V with w := (AF.BU V.w u).1 } hk.1 hk.2).comp A2.l1) rfl rfl rfl C5 rfl (.t (.t (.t .h)))) ?_
  refine Gn (.t2 0 8) ?_
  refine EY (.c .h (.c .h (.c .h (.c .h (.c .h .n))))) ?_
  refine HC hk.1 hk.2 (by rfl) (by rfl) (by rfl) ?_
  refine AJ (Gm rfl (Gm rfl ?_))
  refine BF rfl U5 (.c rfl (.c rfl .n)) (.c .h (.c .h (.c (.t (.t .h)) (.c (.t .h) .n)))) (El _ (AL.BJ { V with w := (AF.BU V.w u).1 } k { sv with state := 2, Az := (AF.BU V.w u).2.1 }) (ls.put k ⟨sl.queue, sl.wait, sl.told⟩) ev _ (AF.BU V.w u).2.2.1 n (by assumption) (Gj (by rw [(show A5 (AL.BJ { V with w := (AF.BU V.w u).1 } k { sv with state := 2, Az := (AF.BU V.w u).2.1 }) (ls.put k ⟨sl.queue, sl.wait, sl.told⟩) ev = ({ (A5 V ls ev) with w := (AF.BU V.w u).1 } : AI).set k { AI.at_ (A5 V ls ev) k with state := 2, Az := (AF.BU V.w u).2.1 } from Eg (V := { V with w := (AF.BU V.w u).1 }) hk.1 hk.2 hsv hlv (f := fun x => { x with state := 2, Az := (AF.BU V.w u).2.1 }) rfl)]; exact hF.enters hk.1 hk.2 (of_decide_eq_true c1))) (by omega) (Nat.le_trans hF.last (by omega)) (fun e he c _ => hes.2 e he)) (fun w hS => ⟨gl0.pull gm0 hS (.c .h (.c .h (.c (.t (.t .h)) (.c (.t .h) .n)))), gl1.pull gm1 hS (.c .h (.c .h (.c (.t (.t .h)) (.c (.t .h) .n))))⟩) (fun v5 B hv => ?_)
  obtain ⟨y6, y7, y8, rfl, y9, rfl⟩ := hv
  refine AQ (AB (.nil _) ?_)
  refine AV ?_
  refine Bk rfl .n ?_
  intro w1 hS
  have hS := (hS.perm (Ax.perm (.c .h (.c .h (.c .h .n))))).A1
  refine ⟨_, ⟨y6, y7, y8, rfl, ?ga1, rfl⟩, hS⟩
  case ga1 => exact Yw c1 (show A5 (AL.BJ { V with w := (AF.BU V.w u).1 } k { sv with state := 2, Az := (AF.BU V.w u).2.1 }) (ls.put k ⟨sl.queue, sl.wait, sl.told⟩) ev = ({ (A5 V ls ev) with w := (AF.BU V.w u).1 } : AI).set k { AI.at_ (A5 V ls ev) k with state := 2, Az := (AF.BU V.w u).2.1 } from Eg (V := { V with w := (AF.BU V.w u).1 }) hk.1 hk.2 hsv hlv (f := fun x => { x with state := 2, Az := (AF.BU V.w u).2.1 }) rfl) y9
 have c1p := kz c1
 refine Gs (Gt (Ae rfl rfl) (Ga rfl (Gn (.t3 0 1 41) ?_)))
 refine Gc (fun c2 => ?_) (fun c2 => ?_)
 ·
  have c2p := kz c2
  refine AJ (Gm rfl (Gm rfl ?_))
  refine Ag rfl Tj (.c rfl (.c rfl (.c rfl .n))) (.c (.t (.t .h)) (.c (.t (.t .h)) (.c (.t (.t .h)) .n))) (EL _ V ls ev k _ hk (Nat.le_trans (htn k hk.1 hk.2) (by omega))) (fun v10 B hv => ?_)
  obtain ⟨y11, y12, y13, rfl, y14, rfl⟩ := hv
  refine AQ (AB (.nil _) ?_)
  refine AV ?_
  refine Bk rfl .n ?_
  intro w1 hS
  have hS := (hS.perm (Ax.perm (.c .h (.c .h (.c .h .n))))).A1
  refine ⟨_, ⟨y11, y12, y13, rfl, ?ga2, rfl⟩, hS⟩
  case ga2 => exact Yi c1 c2 y14
 have c2p := kz c2
 refine AJ (Gm rfl (Gm rfl ?_))
 refine Ag rfl Tj (.c rfl (.c rfl (.c rfl .n))) (.c (.t (.t .h)) (.c (.t (.t .h)) (.c (.t (.t .h)) .n))) (EL _ V ls ev k _ hk (Nat.le_trans (htn k hk.1 hk.2) (by omega))) (fun v15 B hv => ?_)
 obtain ⟨y16, y17, y18, rfl, y19, rfl⟩ := hv
 refine AQ (AB (.nil _) ?_)
 refine AV ?_
 refine Bk rfl .n ?_
 intro w1 hS
 have hS := (hS.perm (Ax.perm (.c .h (.c .h (.c .h .n))))).A1
 refine ⟨_, ⟨y16, y17, y18, rfl, ?ga3, rfl⟩, hS⟩
 case ga3 => exact Yt c1 c2 y19
theorem Bq (z : Int) : JS Tryz.prog 150 #[.int .i64 z] [] (fun v B => v = .tuple #[.agg (Order.enc default).toArray, .int .i64 z] ∧ B = []) := by
 intro w hS0
 refine Al _ _ Tryz.func150 rfl rfl rfl (hS0) ?_
 refine Gs ?_
 refine BH rfl LJ rfl (fun b1 => ?_)
 refine Ga rfl (Gn (.t2 0 2) (Gs (Gt (BC Rl LJ rfl .nil) (Gm rfl ?_))))
 refine AT (AK (AU.id Order.fl.len Order.fl.one) rfl rfl rfl D1 rfl .h) ?_
 refine Ga rfl (Gn (.t2 2 3) (Ab ?_))
 refine AY rfl (.cell rfl .m0 (.inl ⟨(by rw [Order.fl.len]; exact B6), rfl⟩) (.tmp rfl .n)) ?_
 intro w1 hS
 have hS := (hS.perm (Ax.perm .n)).A1
 exact ⟨_, ⟨rfl, rfl⟩, hS⟩
theorem E9 (s : Ap) (c : UInt8) (w : World) : Ei Tryz.prog 87 #[BS s, .int .u8 (c.toNat : Int)] w fun v w' => v = .int .i64 (Lib.indexByte s c) ∧ CB w w' := by
 refine Al [] [] Tryz.func87 rfl rfl rfl (St.start w []) ?_
 refine Gs (Ga rfl (Gn (.t2 0 1) (Gs (Gm rfl (Gm rfl ?_)))))
 refine Gt (LC Tryz.func112 (by kernel_rfl) (by kernel_rfl) (by kernel_rfl) (by kernel_rfl) rfl rfl) ?_
 refine Ga rfl (Gn (.t1 4) (Ab ?_))
 refine AY rfl (.tmp rfl .n) ?_
 intro w1 hS; refine ⟨?_, hS.Am⟩; rfl
theorem D0 (s : Ap) (c : UInt8) (w : World) : Ei Tryz.prog 76 #[BS s, BS [c]] w fun v w' => v = .int .i64 (Lib.indexByte s c) ∧ CB w w' := by
 refine Al [] [] Tryz.func76 rfl rfl rfl (St.start w []) ?_
 refine Gs (Ga rfl (Gn (.t2 0 1) (Gs (Gm rfl (Gt (BI rfl Tryz.underlying9 rfl) (Ga rfl (Gn (.t3 0 1 5) ?_)))))))
 refine Ao (Af (Gs (Gm rfl (Gt (Ae rfl rfl) (Gm rfl (Ba 19 rfl rfl (fun q => AE rfl) (Ba 19 rfl rfl (fun q => AE rfl) ?_)))))))
 refine Ba 19 rfl rfl (fun q => Bw (cF rfl q) (cF rfl q)) ?_
 refine Gt (BR rfl rfl (fun h => by rw [h]; rfl)) ?_
 refine Ga rfl (Gn (.t4 0 1 5 16) ?_)
 refine Gc (fun c1 => ?_) (fun c1 => ?_)
 ·
  refine Gs (Ga rfl (Gn (.t1 4) (Ab (AS (AD ?_)))))
  refine AY rfl (.tmp rfl .n) ?_
  intro w1 hS; refine ⟨?_, hS.Am⟩; have e : [c] = s := by simpa using c1
  rw [← e, Page.Vo]; rfl
 have c1p := kz c1
 refine Gs (Gm rfl (Gt (Ae rfl rfl) (Ga rfl (Gn (.t4 0 1 5 24) ?_))))
 refine G0 rfl (by simp) ?_
 refine Gs (Gm rfl (Gm rfl ?_))
 refine Gt (Bl Tryz.underlying9 rfl rfl (by decide) (by first | omega | simp)) ?_
 refine BA rfl dM (.c rfl (.c rfl .n)) (fun w hS => E9 _ _ w) ?_
 refine Ga rfl (Gn (.t1 4) (Ab (AS (AD ?_))))
 refine AY rfl (.tmp rfl .n) ?_
 intro w1 hS; refine ⟨?_, hS.Am⟩; rfl
theorem FQ (s : Ap) (c : UInt8) (w : World) : Ei Tryz.prog 176 #[BS s, BS [c]] w fun v w' => v = .int .i64 (Lib.indexByte s c) ∧ CB w w' := by
 refine Al [] [] Tryz.func176 rfl rfl rfl (St.start w []) ?_
 refine Gs (Ga rfl (Gn (.t2 0 1) (Gs (Gm rfl (Gm rfl ?_)))))
 refine BA rfl bL (.c rfl (.c rfl .n)) (fun w hS => D0 _ _ w) ?_
 refine Ga rfl (Gn (.t1 4) (Ab ?_))
 refine AY rfl (.tmp rfl .n) ?_
 intro w1 hS; refine ⟨?_, hS.Am⟩; rfl
theorem Hb (s : Ap) (c : UInt8) (w : World) : Ei Tryz.prog 174 #[BS s, BS [c]] w fun v w' => v = .int .i64 ((s.count c : Nat) : Int) ∧ CB w w' := by
 refine Al [] [] Tryz.func174 rfl rfl rfl (St.start w []) ?_
 refine Gs (Ga rfl (Gn (.t2 0 1) (CG (Gm rfl (Gt (BI rfl Tryz.underlying9 rfl) (Gt (Ae rfl rfl) (Gn (.t3 0 1 9) ?_)))))))
 refine EJ rfl (by simp) ?_
 refine Aa ?_
 refine AB (.t2 0 1) ?_
 refine AA (CG (Gm rfl (Gt (BI rfl Tryz.underlying9 rfl) (Gt (Ae rfl rfl) (Gn (.t3 0 1 15) ?_)))))
 refine G0 rfl (by simp) ?_
 refine Gs (Gm rfl (Gm rfl ?_))
 refine Gt (Bl Tryz.underlying9 rfl rfl (by decide) (by first | omega | simp)) ?_
 refine Gt (OH Tryz.func185 (by kernel_rfl) (by kernel_rfl) (by kernel_rfl) (by kernel_rfl) rfl rfl) ?_
 refine Ga rfl (Gn (.t1 4) (Ab (AD ?_)))
 refine AY rfl (.tmp rfl .n) ?_
 intro w1 hS; refine ⟨?_, hS.Am⟩; rfl
theorem JN (s : Ap) (c : UInt8) (hs : s.length ≤ 10000000) : JS Tryz.prog 179 #[BS s, BS [c], .int .i64 0, .int .i64 (-1)] [] (fun v B => ∃ h' : Hd, v = h'.val ∧ h'.len = (Words.pieces c s).length ∧ B = [Ac.own h' 9 1 ((Words.pieces c s).flatMap A7)]) := by
 intro w hS0
 have hcl := List.count_le_length (a := c) (l := s)
 have hpl := Words.FO c s
 refine Al _ _ Tryz.func179 rfl rfl rfl (hS0) ?_
 refine Gs (Ga rfl (Gn (.t4 0 1 2 3) (CG (Gm rfl (Gt (Ae rfl rfl) (Gn (.t5 0 1 2 3 13) ?_))))))
 refine EJ rfl (by simp) ?_
 refine Aa ?_
 refine AB (.t4 0 1 2 3) ?_
 refine AA (CG (Gm rfl (Gt (Bw rfl rfl) (Gn (.t5 0 1 2 3 15) ?_))))
 refine EJ rfl (by simp) ?_
 refine Aa ?_
 refine AB (.t4 0 1 2 3) ?_
 refine AA (CG (Gm rfl (Gt (A8 rfl rfl) (Gn (.t5 0 1 2 3 20) ?_))))
 refine G0 rfl (by simp) ?_
 refine AJ (Gm rfl (Gm rfl ?_))
 refine BA rfl Y9 (.c rfl (.c rfl .n)) (fun w hS => Hb _ c w) ?_
 refine Gt (Av rfl rfl (IntWalk.i64_in _ (by (try simp only [List.length_cons, List.length_nil]); omega))) ?_
 refine Ga rfl (Gn (.t4 0 1 2 3) (Gs (Gm rfl (Gm rfl (Gt (BI rfl Tryz.underlying9 rfl) ?_)))))
 refine Gt (Av rfl rfl (IntWalk.i64_in _ (by (try simp only [List.length_cons, List.length_nil]); omega))) ?_
 refine Gt (LR rfl rfl) (Ga rfl (Gn (.t4 0 1 2 3) (Gs (Gm rfl ?_))))
 refine Vr rfl Tryz.underlying52 Eo Sh X1 rfl rfl (by (try simp only [List.length_cons, List.length_nil]); omega) (by (try simp only [List.length_cons, List.length_nil]); omega) (fun b1 => ?_)
 refine Ga rfl (Gn (.t5 0 1 2 3 9) (Gs (Gm rfl ?_)))
 refine Gt (E3 rfl rfl (IntWalk.i64_in _ (by (try simp only [List.length_cons, List.length_nil]); omega))) ?_
 refine Ga rfl (Gn (.t5 0 1 2 3 9) (Gs (Ga rfl (AQ (AA (Ao (Af ?_)))))))
 refine Bo (.t6 0 10 1 2 3 9) ?_
 refine Dt (fun (i : Int) (r : Ap) (xs : List Ap) => Words.N7 c s i r xs) (fun (i : Int) (r : Ap) (xs : List Ap) => ((s.count c : Int) - i).toNat) (fun (i : Int) (r : Ap) (xs : List Ap) => [(0, BS r), (10, .int .i64 i)]) (fun (i : Int) (r : Ap) (xs : List Ap) => [Ac.own ⟨some ⟨b1, 0, none⟩, (min (((s.count c : Nat) : Int) + 1) ((s.length : Int) + 1)).toNat, (min (((s.count c : Nat) : Int) + 1) ((s.length : Int) + 1)).toNat⟩ 9 1 (xs.flatMap A7)]) (0) (s) (_) ?_ rfl rfl (fun i r xs hI1 => ?_)
 · exact Words.N7.start c s _ (by omega)
 have hI11 := hI1; have hi0 := hI1.i0; have hi1 := hI1.i1; have hrl := hI1.rl; have hxl := hI1.len
 refine CG (Gm rfl (Gm rfl (Gt (A8 rfl rfl) (Gn (.t7 0 1 2 3 9 10 36) ?_))))
 refine Gc (fun c1 => ?_) (fun c1 => ?_)
 ·
  have c1p := kz c1
  refine Aa ?_
  refine AB (.t6 0 1 2 3 9 10) ?_
  refine AA (Af (Gs (Gm rfl (Gm rfl ?_))))
  refine BA rfl Xb (.c rfl (.c rfl .n)) (fun w hS => FQ _ c w) ?_
  refine Ga rfl (Gn (.t7 0 1 2 3 9 10 11) (CG (Gm rfl (Gt (A8 rfl rfl) (Gn (.t8 0 1 2 3 9 10 11 41) ?_)))))
  refine Gc (fun c2 => ?_) (fun c2 => ?_)
  ·
   have c2p := kz c2
   refine Bf (AX ?_)
   refine Jq rfl ?_
   refine AX (Ai ?_)
   refine AB (.t3 0 9 10) ?_
   refine AA (Gs (Gm rfl (Gm rfl (Gm rfl ?_))))
   refine Gt (Br JQ (by decide) (Kn.own .m0) rfl rfl (by omega) (by (try dsimp only); omega)) ?_
   refine AT (Ot rfl rfl Eo (by have := hI11.len; omega) .h) ?_
   refine Gn (.t2 9 10) (Gs (Gm rfl (Gm rfl ?_)))
   refine Gt (Av rfl rfl (IntWalk.i64_in _ (by (try simp only [List.length_cons, List.length_nil]); omega))) ?_
   refine KE DW rfl Tryz.underlying52 Eo rfl rfl (by (try simp only [List.length_cons, List.length_nil]); omega) (by (try simp only [List.length_cons, List.length_nil]); omega) (fun _ => .h) ?_
   refine Ga rfl (Gn (.t1 8) (Ab ?_))
   refine AY rfl (.tmp rfl .n) ?_
   intro w1 hS
   have hS := (hS.perm (Ax.perm (.c .h .n))).A1
   have hd := hI11.done (by first | (right; simpa using c2) | (left; omega))
   exact ⟨_, ⟨_, rfl, by rw [hd.2] at *; (try simp only [Hd.cut] at *); omega, by rw [hd.2]⟩, hS⟩
  have c2p := kz c2
  obtain ⟨hm0, hm1, hnx⟩ := hI11.next rfl (by simpa using c2)
  refine Aa ?_
  refine AB (.t7 0 1 2 3 9 10 11) ?_
  refine AA (Gs (Gm rfl (Gm rfl (Gm rfl (Gm rfl (Gm rfl ?_))))))
  refine Gt (Av rfl rfl (IntWalk.i64_in _ (by (try simp only [List.length_cons, List.length_nil]); omega))) ?_
  refine Gt (Ie Tryz.underlying9 rfl rfl (by (try simp only [List.length_cons, List.length_nil]); omega) (by (try simp only [List.length_cons, List.length_nil]); omega)) ?_
  refine Gt (Br JQ (by decide) (Kn.own .m0) rfl rfl (by omega) (by (try dsimp only); omega)) ?_
  refine AT (Ot rfl rfl Eo (by have := hI11.len; omega) .h) ?_
  refine Gn (.t7 0 1 2 3 9 10 11) (Gs (Gm rfl (Gm rfl (Gm rfl (Gt (BI rfl Tryz.underlying9 rfl) ?_)))))
  refine Gt (Av rfl rfl (IntWalk.i64_in _ (by (try simp only [List.length_cons, List.length_nil]); omega))) ?_
  refine Gt (GU Tryz.underlying9 rfl rfl (by (try simp only [List.length_cons, List.length_nil]); omega) (by (try simp only [List.length_cons, List.length_nil]); omega)) ?_
  refine Ga rfl (Gn (.t6 0 1 2 3 9 10) (AJ (Gm rfl ?_)))
  refine Gt (Av rfl rfl (IntWalk.i64_in _ (by (try simp only [List.length_cons, List.length_nil]); omega))) ?_
  refine Ga rfl ?_
  refine AQ (AB (.t6 0 1 2 3 9 10) ?_)
  refine AV ?_
  refine Bz (i + 1) _ _ ?_ ?_ (.t6 0 10 1 2 3 9) (.refl _)
  · rw [Int.add_zero]
    exact hnx
  · omega
 have c1p := kz c1
 refine Bf (AX (AX (Ai ?_)))
 refine AB (.t3 0 9 10) ?_
 refine AA (Gs (Gm rfl (Gm rfl (Gm rfl ?_))))
 refine Gt (Br JQ (by decide) (Kn.own .m0) rfl rfl (by omega) (by (try dsimp only); omega)) ?_
 refine AT (Ot rfl rfl Eo (by have := hI11.len; omega) .h) ?_
 refine Gn (.t2 9 10) (Gs (Gm rfl (Gm rfl ?_)))
 refine Gt (Av rfl rfl (IntWalk.i64_in _ (by (try simp only [List.length_cons, List.length_nil]); omega))) ?_
 refine KE DW rfl Tryz.underlying52 Eo rfl rfl (by (try simp only [List.length_cons, List.length_nil]); omega) (by (try simp only [List.length_cons, List.length_nil]); omega) (fun _ => .h) ?_
 refine Ga rfl (Gn (.t1 8) (Ab ?_))
 refine AY rfl (.tmp rfl .n) ?_
 intro w1 hS
 have hS := (hS.perm (Ax.perm (.c .h .n))).A1
 have hd := hI11.done (by first | (right; simpa using c1) | (left; omega))
 exact ⟨_, ⟨_, rfl, by rw [hd.2] at *; (try simp only [Hd.cut] at *); omega, by rw [hd.2]⟩, hS⟩
theorem Kt (s : Ap) (c : UInt8) (hs : s.length ≤ 10000000) : JS Tryz.prog 167 #[BS s, BS [c]] [] (fun v B => ∃ h' : Hd, v = h'.val ∧ h'.len = (Words.pieces c s).length ∧ B = [Ac.own h' 9 1 ((Words.pieces c s).flatMap A7)]) := by
 intro w hS0
 refine Al _ _ Tryz.func167 rfl rfl rfl (hS0) ?_
 refine Gs (Ga rfl (Gn (.t2 0 1) (Gs (Gm rfl (Gm rfl ?_)))))
 refine Ag rfl bZ (.c rfl (.c rfl (.c rfl (.c rfl .n)))) .n (JN _ c hs) (fun v1 B hv => ?_)
 obtain ⟨y2, rfl, y3, rfl⟩ := hv
 refine Ga rfl (Gn (.t1 4) (Ab ?_))
 refine AY rfl (.tmp rfl .n) ?_
 intro w1 hS
 have hS := (hS.perm (Ax.perm (.c .h .n))).A1
 exact ⟨_, ⟨_, rfl, by assumption, rfl⟩, hS⟩
theorem N8 (u : Ap) (hu : u.length ≤ 10000000) (w : World) : Ei Tryz.prog 168 #[BS u] w fun v w' => v = BS (Words.low u) ∧ CB w w' := by
 refine Al [] [] Tryz.func168 rfl rfl rfl (St.start w []) ?_
 refine Gs (Ga rfl (Gn (.t1 0) (Gs (Gm rfl ?_))))
 refine Ol rfl Tryz.underlying9 Tryz.underlying105 Tryz.underlying5 rfl (fun h1 h1l => ?_)
 refine Ga rfl (Gn (.t1 3) (CG (Gm rfl (Gt (Ar rfl Tryz.underlying105 rfl) (Gm rfl (AQ (AA ?_)))))))
 refine Af ?_
 refine Bo (.t4 10 3 8 9) ?_
 refine Ci (fun (k : Int) => 0 ≤ k ∧ k ≤ u.length) (fun (k : Int) => ((u.length : Int) - k).toNat) (fun (k : Int) => [(10, .int .i64 k)]) (fun (k : Int) => [Ac.own h1 5 1 ((Words.Hl u k.toNat).flatMap DQ)]) (0) ?_ rfl rfl (fun k hI1 => ?_)
 · exact ⟨by omega, by omega⟩
 obtain ⟨hI11, hI12⟩ := hI1
 refine Gs (Gt (A8 rfl rfl) (AQ (AA (Ao ?_))))
 refine Gc (fun c1 => ?_) (fun c1 => ?_)
 ·
  have c1p := kz c1
  have hat := Words.UQ (w := u) hI11 (by omega)
  have hc8 := (u.getD k.toNat 0).toNat_lt
  refine Aa ?_
  refine AB (.t4 3 8 9 10) ?_
  refine AA (Ao (Af (Gs (Gm rfl ?_))))
  refine Gt (Br Xd (by decide) (Kn.own .m0) rfl rfl (by omega) (by omega)) ?_
  refine Gt (Xw rfl cI (Kn.own .m0) (by rw [Words.N5]; omega)) ?_
  refine Ga rfl (Ga rfl (Gn (.t6 3 4 5 8 9 10) (Gs (Gm rfl (Gt (CN rfl rfl) (Gm rfl (Bi 17 rfl rfl (fun q => AE rfl) ?_)))))))
  refine Bi 17 rfl rfl (fun q => IG (Bh rfl q) rfl) (Gt (BK rfl rfl (fun h => h)) (Gn (.t7 3 4 5 8 9 10 20) ?_))
  refine Gc (fun c2 => ?_) (fun c2 => ?_)
  ·
   have c2p := kz c2
   rw [hat] at c2
   have hset := Words.SX (w := u) hI11 (by omega)
   rw [← Words.Yv c2] at hset
   refine AJ (Gm rfl (Gm rfl (Gm rfl ?_)))
   refine Gt (Av rfl rfl (IntWalk.u8_in _ (by (try simp only [hat] at c2p ⊢); omega))) ?_
   refine Gt (E3 rfl rfl (IntWalk.u8_in _ (by (try simp only [hat] at c2p ⊢); omega))) ?_
   refine Gt (Br Xd (by decide) (Kn.own .m0) rfl rfl (by omega) (by omega)) ?_
   refine AT (Zr rfl rfl (by simp only [hat] at c2p ⊢; omega) VT (by rw [Words.N5]; omega) .h) ?_
   refine AQ (AB (.t4 3 8 9 10) ?_)
   refine AV (AA (AJ ?_))
   refine Gt (Av rfl rfl (IntWalk.i64_in _ (by (try simp only [hat] at c2p ⊢); omega))) ?_
   refine Gm rfl ?_
   refine AQ (AB (.t4 3 8 9 10) ?_)
   refine B8 (k + 1) ?_ ?_ (.t4 10 3 8 9) (by rw [← hset]; first | exact (.refl _) | (rw [← hat]; exact (.refl _)))
   · exact ⟨by omega, by omega⟩
   · omega
  have c2p := kz c2
  rw [hat] at c2
  have hset := Words.V6 (w := u) hI11 (by omega) (Words.X8 c2)
  refine Aa ?_
  refine AB (.t4 3 8 9 10) ?_
  refine AV (AA (AJ ?_))
  refine Gt (Av rfl rfl (IntWalk.i64_in _ (by (try simp only [hat] at c2p ⊢); omega))) ?_
  refine Gm rfl ?_
  refine AQ (AB (.t4 3 8 9 10) ?_)
  refine B8 (k + 1) ?_ ?_ (.t4 10 3 8 9) (by rw [← hset]; first | exact (.refl _) | (rw [← hat]; exact (.refl _)))
  · exact ⟨by omega, by omega⟩
  · omega
 have c1p := kz c1
 refine Bf (AX (AX (Ai ?_)))
 refine AB (.t1 3) ?_
 refine AA (Gs (Gm rfl (Gt (KC Tryz.underlying105 Tryz.underlying9 Tryz.underlying5 rfl (Kn.own .m0)) (Ga rfl (Gn (.t1 2) (Ab ?_))))))
 refine AY rfl (.tmp rfl .n) ?_
 intro w1 hS; refine ⟨?_, hS.Am⟩; obtain rfl : k = u.length := by omega
 rw [show (u.length : Int).toNat = u.length by omega, Words.WV]; rfl
theorem MG (s : Ap) (hs : s.length ≤ 4000000) : JS Tryz.prog 151 #[BS s] [] (fun v B => ∃ h' : Hd, v = h'.val ∧ h'.len = (Words.words s).length ∧ B = [Ac.own h' 9 1 ((Words.words s).flatMap A7)]) := by
 intro w hS0
 have hpl := Words.FO 32 s
 have hcl := List.count_le_length (a := (32 : UInt8)) (l := s)
 refine Al _ _ Tryz.func151 rfl rfl rfl (hS0) ?_
 refine Gs (Ga rfl (Gn (.t1 0) (Gs (Ga rfl (AQ (AA (CG ?_)))))))
 refine Gm rfl ?_
 refine Ag rfl bN (.c rfl (.c rfl .n)) .n (Kt _ 32 (by omega)) (fun v1 B hv => ?_)
 obtain ⟨y2, rfl, y3, rfl⟩ := hv
 refine Gt (Ar rfl Tryz.underlying52 rfl) (Gm rfl (Gn (.t4 3 7 8 9) (Af ?_)))
 refine Bo (.t4 3 9 7 8) ?_
 refine E7 A7 9 1 ?_
 refine Dt (fun (k : Int) (xs : List Ap) (g : Hd) => 0 ≤ k ∧ k ≤ ((Words.pieces 32 s).length : Int) ∧ xs = Words.Ix s k.toNat ∧ g.len = xs.length ∧ xs.length ≤ k.toNat) (fun (k : Int) (xs : List Ap) (g : Hd) => (((Words.pieces 32 s).length : Int) - k).toNat) (fun (k : Int) (xs : List Ap) (g : Hd) => [(3, g.val), (9, .int .i64 k)]) (fun (k : Int) (xs : List Ap) (g : Hd) => [Ac.own g 9 1 (xs.flatMap A7)]) (0) ([]) (_) ?_ rfl rfl (fun k xs g hI1 => ?_)
 · exact ⟨by omega, by omega, rfl, rfl, by simp⟩
 obtain ⟨hI11, hI12, hI13, hI14, hI15⟩ := hI1
 refine Gs (Gt (A8 rfl rfl) (AQ (AA (Ao ?_))))
 refine Gc (fun c1 => ?_) (fun c1 => ?_)
 ·
  have c1p := kz c1
  refine Aa ?_
  refine AB (.t4 3 7 8 9) ?_
  refine AA (Ao (Af (Gs ?_)))
  refine Gt (Br JQ (by decide) (Kn.own .m1) rfl rfl (by omega) (by omega)) ?_
  refine Gt (Dg rfl CV (Kn.own .m1) (by omega)) ?_
  refine Ga rfl (Gn (.t5 3 5 7 8 9) (Gs (Gm rfl (Gt (Dv rfl rfl) (Gn (.t6 3 5 7 8 9 14) ?_)))))
  refine Gc (fun c2 => ?_) (fun c2 => ?_)
  ·
   have c2p := kz c2
   refine AJ (Gm rfl (Gm rfl ?_))
   refine BA rfl bO (.c rfl .n) (fun w hS => N8 _ (by have := Words.VP (c := 32) (s := s) k.toNat; omega) w) ?_
   refine Fg A7 DW rfl Tryz.underlying52 Eo Sh rfl (by decide) (by decide) rfl rfl (fun b1 => ?_)
   refine Cc DW rfl Tryz.underlying52 Eo Sh rfl X1 (by decide) (by decide) rfl rfl (fun w hS => Src.D3 Tryz.underlying52 ((Kn.own .m0) w hS)) (by (try dsimp only); omega) (fun _ => (.t .h)) (fun h5 h5l h5z => ?_)
   refine Ga rfl ?_
   refine AQ (AB (.t4 3 7 8 9) ?_)
   refine AV (AA (AJ ?_))
   refine Gt (Av rfl rfl (IntWalk.i64_in _ (by omega))) ?_
   refine Gm rfl ?_
   refine AQ (AB (.t4 3 7 8 9) ?_)
   refine Bz (k + 1) _ _ ?_ ?_ (.t4 3 9 7 8) (.cons _ (.refl _))
   · exact ⟨by omega, by omega, by rw [Words.Xv hI11 (by omega) c2, ← hI13], (by (try dsimp only at *) <;> (try simp only [List.length_append, List.length_cons, List.length_nil]) <;> omega), (by (try simp only [List.length_append, List.length_cons, List.length_nil]); omega)⟩
   · omega
  have c2p := kz c2
  refine Aa ?_
  refine AB (.t4 3 7 8 9) ?_
  refine AV (AA (AJ ?_))
  refine Gt (Av rfl rfl (IntWalk.i64_in _ (by omega))) ?_
  refine Gm rfl ?_
  refine AQ (AB (.t4 3 7 8 9) ?_)
  refine Bz (k + 1) _ _ ?_ ?_ (.t4 3 9 7 8) (.refl _)
  · exact ⟨by omega, by omega, by rw [Words.XM hI11 (by omega) c2, ← hI13], (by (try dsimp only at *) <;> (try simp only [List.length_append, List.length_cons, List.length_nil]) <;> omega), (by (try simp only [List.length_append, List.length_cons, List.length_nil]); omega)⟩
  · omega
 have c1p := kz c1
 obtain rfl : k = ((Words.pieces 32 s).length : Int) := by omega
 refine Bf (AX (AX (Ai ?_)))
 refine AB (.t1 3) ?_
 refine AA (Gs (Gm rfl (Ga rfl (Gn (.t1 2) (Ab ?_)))))
 refine AY rfl (.tmp rfl .n) ?_
 intro w1 hS
 have hS := (hS.perm (Ax.perm (.c .h .n))).A1
 exact ⟨_, ⟨_, rfl, by rw [Words.Of, ← hI13]; assumption, by rw [Words.Of, ← hI13]⟩, hS⟩
theorem Da (s p : Ap) (w : World) : Ei Tryz.prog 180 #[BS s, BS p] w fun v w' => v = .bool (decide ((p.length : Int) ≤ (s.length : Int)) && decide (s.take p.length = p)) ∧ CB w w' := by
 refine Al [] [] Tryz.func180 rfl rfl rfl (St.start w []) ?_
 refine Gs (Ga rfl (Gn (.t2 0 1) (Gs (Gm rfl (Gt (BI rfl Tryz.underlying9 rfl) (Gm rfl (Gt (BI rfl Tryz.underlying9 rfl) ?_)))))))
 refine Gt (CN rfl rfl) (Gm rfl (Bi 10 rfl rfl (fun q => AE rfl) (Bi 10 rfl rfl (fun q => AE rfl) (Bi 10 rfl rfl (fun q => BI rfl Tryz.underlying9 (Bh rfl q)) ?_))))
 refine Bi 10 rfl rfl (fun q => by have q1 := q; (try simp at q1); exact Ie Tryz.underlying9 (Bh rfl q) (Bh rfl q) (by omega) (by omega)) ?_
 refine Bi 10 rfl rfl (fun q => AE rfl) (Bi 10 rfl rfl (fun q => Bw (Bh rfl q) (Bh rfl q)) (Gt (BK rfl rfl (fun h => h)) (Ga rfl (Gn (.t1 4) (Ab ?_)))))
 refine AY rfl (.tmp rfl .n) ?_
 intro w1 hS; refine ⟨?_, hS.Am⟩; rfl
theorem I1 (s p : Ap) (w : World) : Ei Tryz.prog 169 #[BS s, BS p] w fun v w' => v = .bool (decide ((p.length : Int) ≤ (s.length : Int)) && decide (s.take p.length = p)) ∧ CB w w' := by
 refine Al [] [] Tryz.func169 rfl rfl rfl (St.start w []) ?_
 refine Gs (Ga rfl (Gn (.t2 0 1) (Gs (Gm rfl (Gm rfl ?_)))))
 refine BA rfl ZL (.c rfl (.c rfl .n)) (fun w hS => Da _ _ w) ?_
 refine Ga rfl (Gn (.t1 4) (Ab ?_))
 refine AY rfl (.tmp rfl .n) ?_
 intro w1 hS; refine ⟨?_, hS.Am⟩; rfl
theorem JL (u : Ap) (w : World) (gl0 : GV 0 AH.DG w) : Ei Tryz.prog 152 #[BS u] w fun v w' => v = .tuple #[.int .i64 (Words.verb u).1, .int .i64 (Words.verb u).2] ∧ CB w w' := by
 refine Al [] [] Tryz.func152 rfl rfl rfl (St.start w []) ?_
 refine Gs (Ga rfl (Ga rfl (Gn (.t1 0) (CG (Gm rfl (Gt (Dv rfl rfl) (Gn (.t2 0 7) ?_)))))))
 refine Gc (fun c1 => ?_) (fun c1 => ?_)
 ·
  have c1p := kz c1
  refine Gs (Gt (XC gl0 Words.TB rfl Zk rfl) (Gm rfl (Gn (.t3 0 8 9) (Af ?_))))
  refine Bo (.t3 9 0 8) ?_
  refine Ci (fun (k : Int) => 0 ≤ k ∧ k ≤ 21 ∧ Words.Js u 21 = Words.Js u (21 - k).toNat) (fun (k : Int) => (21 - k).toNat) (fun (k : Int) => [(9, .int .i64 k)]) (fun (k : Int) => []) (0) ?_ rfl rfl (fun k hI1 => ?_)
  · exact ⟨by omega, by omega, rfl⟩
  obtain ⟨hI11, hI12, hI13⟩ := hI1
  refine Gs (Gt (A8 rfl rfl) (AQ (AA (Ao ?_))))
  refine Gc (fun c2 => ?_) (fun c2 => ?_)
  ·
   have c2p := kz c2
   rw [Words.TP hI11 (by omega)] at hI13
   refine Aa ?_
   refine AB (.t3 0 8 9) ?_
   refine AA (Ao (Af (Gs (Gm rfl ?_))))
   refine Gt (KL DW Tryz.underlying133 Eo CV rfl rfl (by omega) (by omega) rfl) ?_
   refine Ga rfl (Ga rfl (Gn (.t5 0 4 5 8 9) (Gs (Gm rfl (Gm rfl ?_)))))
   refine BA rfl aY (.c rfl (.c rfl .n)) (fun w hS => I1 _ _ w) ?_
   refine Gn (.t5 0 4 8 9 15) ?_
   refine Gc (fun c3 => ?_) (fun c3 => ?_)
   ·
    have cp : Words.pre (AH.Gh.getD k.toNat []) u = true := c3
    refine Gs (Gm rfl (Ga rfl (Ga rfl (Gn (.t2 2 3) (Ab (AS (AD ?_)))))))
    refine AD (AS (AD ?_))
    refine AY rfl (.tmp rfl (.tmp rfl .n)) ?_
    intro w1 hS; refine ⟨?_, hS.Am⟩; rw [show Words.verb u = _ from BB c1, hI13, BB cp]; rfl
   have c3p := kz c3
   have cp : Words.pre (AH.Gh.getD k.toNat []) u = false := c3
   refine Aa ?_
   refine AB (.t3 0 8 9) ?_
   refine AV (AA (AJ ?_))
   refine Gt (Av rfl rfl (IntWalk.i64_in _ (by omega))) ?_
   refine Gm rfl ?_
   refine AQ (AB (.t3 0 8 9) ?_)
   refine B8 (k + 1) ?_ ?_ (.t3 9 0 8) (.refl _)
   · exact ⟨by omega, by omega, by rw [hI13, AW cp]⟩
   · omega
  have c2p := kz c2
  obtain rfl : k = 21 := by omega
  refine Bf (AX (AX (Ai ?_)))
  refine AB (.nil _) ?_
  refine AA (Gs (Ga rfl (Ga rfl (AQ (AA (Ab ?_))))))
  refine AY rfl (.tmp rfl (.tmp rfl .n)) ?_
  intro w1 hS; refine ⟨?_, hS.Am⟩; rw [show Words.verb u = _ from BB c1, hI13]; rfl
 refine Aa ?_
 refine AB (.nil _) ?_
 refine AA (Gs (Ga rfl (Ga rfl (AQ (AA (Ab ?_))))))
 refine AY rfl (.tmp rfl (.tmp rfl .n)) ?_
 intro w1 hS; refine ⟨?_, hS.Am⟩; rw [show Words.verb u = _ from AW c1]; rfl
theorem JO (s : Ap) (hs : s.length ≤ 10000000) (w : World) : Ei Tryz.prog 153 #[BS s, BS [32]] w fun v w' => v = BS (Words.P0 32 s) ∧ CB w w' := by
 refine Al [] [] Tryz.func153 rfl rfl rfl (St.start w []) ?_
 refine Gs (Ga rfl (Gn (.t2 0 1) (CG (Gm rfl (Gt (Bw rfl rfl) (Gm rfl (Ba 9 rfl rfl (fun q => AE rfl) ?_)))))))
 refine Ba 9 rfl rfl (fun q => Bw (cF rfl q) rfl) ?_
 refine Gt (BR rfl rfl (fun h => by rw [h]; rfl)) ?_
 refine Gn (.t3 0 1 12) ?_
 refine Gc (fun c1 => ?_) (fun c1 => ?_)
 ·
  refine Gs (Gm rfl (Ga rfl (Gn (.t1 4) (Ab (AD ?_)))))
  refine AY rfl (.tmp rfl .n) ?_
  intro w1 hS; refine ⟨?_, hS.Am⟩; have e : s = [] := by simpa using c1
  subst e; rfl
 have c1p := kz c1
 refine Aa ?_
 refine AB (.t2 0 1) ?_
 refine AA (CG (Gm rfl (Gt (BI rfl Tryz.underlying9 rfl) (Gt (Ae rfl rfl) (Gm rfl (Bi 17 rfl rfl (fun q => AE rfl) ?_))))))
 refine Bi 17 rfl rfl (fun q => by have q1 := q; (try simp at q1); exact Bl Tryz.underlying9 (Bh rfl q) rfl (by decide) (by (try simp only [List.length_cons, List.length_nil]); omega)) ?_
 refine Bi 17 rfl rfl (fun q => A8 (Bh rfl q) rfl) (Gt (BK rfl rfl (fun h => h)) (Gn (.t3 0 1 21) ?_))
 refine G0 rfl rfl ?_
 refine Gs (Gm rfl (Gm rfl ?_))
 refine Gt (Bl Tryz.underlying9 rfl rfl (by decide) (by (try simp only [List.length_cons, List.length_nil]); omega)) ?_
 refine BA rfl Yz (.c rfl (.c rfl .n)) (fun w hS => E1 _ 32 hs w) ?_
 refine Ga rfl (Gn (.t1 4) (Ab (AD ?_)))
 refine AY rfl (.tmp rfl .n) ?_
 intro w1 hS; refine ⟨?_, hS.Am⟩; rfl
theorem GS (s : Ap) (c : UInt8) (hs : s.length ≤ 10000000) (w : World) : Ei Tryz.prog 59 #[BS s, BS [c]] w fun v w' => v = .tuple #[BS (Words.cut c s).1, BS (Words.cut c s).2.1, .bool (Words.cut c s).2.2] ∧ CB w w' := by
 refine Al [] [] Tryz.func59 rfl rfl rfl (St.start w []) ?_
 refine Gs (Ga rfl (Ga rfl (Ga rfl (Gn (.t2 0 1) (CG (Gm rfl (Gm rfl ?_)))))))
 refine BA rfl bL (.c rfl (.c rfl .n)) (fun w hS => D0 _ c w) ?_
 refine Ga rfl (Gn (.t3 0 1 7) (Gs (Gm rfl (Gt (CN rfl rfl) (Gn (.t4 0 1 7 12) ?_)))))
 refine Gc (fun c1 => ?_) (fun c1 => ?_)
 ·
  have c1p := kz c1
  have hm := Words.ZT (c := c) (s := s) (by simpa using c1)
  refine Ao ?_
  refine BE (N := 12) [0, 0, 3, 0, 0, 0, 32, 112, 248, 7, 1023, 2047] mix (by kernel_rfl) rfl ?_
  refine Pf 0 rfl (AE rfl) (Pf 1 rfl (AE rfl) (Pf 3 rfl (AE rfl) (Pf 4 rfl (AE rfl) (Pf 5 rfl (AE rfl) (Pf 6 rfl (BI rfl Tryz.underlying9 rfl) ?_)))))
  refine Pf 7 rfl (Av rfl rfl (IntWalk.i64_in _ (by (try simp only [List.length_cons, List.length_nil]); omega))) ?_
  refine J0 2 8 rfl rfl (by kernel_rfl) ?_ ?_
  ·
   refine Gt (Ie Tryz.underlying9 rfl rfl (by (try simp only [List.length_cons, List.length_nil]); omega) (by (try simp only [List.length_cons, List.length_nil]); omega)) ?_
   refine Bp rfl ⟨?_, ?_⟩
   · exact (Po rfl (Av rfl rfl (IntWalk.i64_in _ (by (try simp only [List.length_cons, List.length_nil]); omega))) rfl rfl (Po rfl (BI rfl Tryz.underlying9 rfl) rfl rfl (Po rfl (AE rfl) rfl rfl (Po rfl (AE rfl) rfl rfl (Po rfl (AE rfl) rfl rfl (Pk (Pk Aq)))))))
   refine Pf 9 rfl (A0 rfl) ?_
   refine An 8 rfl (by kernel_rfl) ?_
   refine Gt (GU Tryz.underlying9 rfl rfl (by (try simp only [List.length_cons, List.length_nil]); omega) (by (try simp only [List.length_cons, List.length_nil]); omega)) ?_
   refine Bp rfl ⟨?_, ?_⟩
   · exact (Po rfl (A0 rfl) rfl rfl (Pk (Pk (Pk (Pk (Pk (Po rfl (AE rfl) rfl rfl (Po rfl (AE rfl) rfl rfl Aq))))))))
   refine Pf 10 rfl (A0 rfl) (Pf 11 rfl (A0 rfl) ?_)
   refine A4 (by kernel_rfl) ?_
   refine AB (.t3 4 5 6) ?_
   refine AA (Ab (AD ?_))
   refine AY rfl (.tmp rfl (.tmp rfl (.tmp rfl .n))) ?_
   intro w1 hS; refine ⟨?_, hS.Am⟩; rw [show Words.cut c s = _ from (BB c1)]; rfl
  ·
   refine Gt (GU Tryz.underlying9 rfl rfl (by (try simp only [List.length_cons, List.length_nil]); omega) (by (try simp only [List.length_cons, List.length_nil]); omega)) ?_
   refine Bp rfl ⟨?_, ?_⟩
   · exact (Pk (Pk (Pk (Pk (Pk (Po rfl (AE rfl) rfl rfl (Po rfl (AE rfl) rfl rfl Aq)))))))
   refine An 2 rfl (by kernel_rfl) ?_
   refine Gt (Ie Tryz.underlying9 rfl rfl (by (try simp only [List.length_cons, List.length_nil]); omega) (by (try simp only [List.length_cons, List.length_nil]); omega)) ?_
   refine Bp rfl ⟨?_, ?_⟩
   · exact (Po rfl (Av rfl rfl (IntWalk.i64_in _ (by (try simp only [List.length_cons, List.length_nil]); omega))) rfl rfl (Po rfl (BI rfl Tryz.underlying9 rfl) rfl rfl (Po rfl (AE rfl) rfl rfl (Po rfl (AE rfl) rfl rfl (Po rfl (AE rfl) rfl rfl (Pk (Pk Aq)))))))
   refine Pf 9 rfl (A0 rfl) (Pf 10 rfl (A0 rfl) (Pf 11 rfl (A0 rfl) ?_))
   refine A4 (by kernel_rfl) ?_
   refine AB (.t3 4 5 6) ?_
   refine AA (Ab (AD ?_))
   refine AY rfl (.tmp rfl (.tmp rfl (.tmp rfl .n))) ?_
   intro w1 hS; refine ⟨?_, hS.Am⟩; rw [show Words.cut c s = _ from (BB c1)]; rfl
 refine Aa ?_
 refine AB (.t1 0) ?_
 refine AA (Gs (Gm rfl (Ga rfl (Ga rfl (Ga rfl (Gn (.t3 4 5 6) (Ab ?_)))))))
 refine AY rfl (.tmp rfl (.tmp rfl (.tmp rfl .n))) ?_
 intro w1 hS; refine ⟨?_, hS.Am⟩; rw [show Words.cut c s = _ from (AW c1)]; rfl
theorem Is (s : Ap) (c : UInt8) (hs : s.length ≤ 10000000) (w : World) : Ei Tryz.prog 30 #[BS s, BS [c]] w fun v w' => v = .tuple #[BS (Words.cut c s).1, BS (Words.cut c s).2.1, .bool (Words.cut c s).2.2] ∧ CB w w' := by
 refine Al [] [] Tryz.func30 rfl rfl rfl (St.start w []) ?_
 refine Gs (Ga rfl (Ga rfl (Ga rfl (Gn (.t2 0 1) (Gs (Gm rfl (Gm rfl ?_)))))))
 refine BA rfl dU (.c rfl (.c rfl .n)) (fun w hS => GS _ c hs w) ?_
 refine Gt (AM rfl rfl) (Gt (AM rfl rfl) (Gt (AM rfl rfl) (Ga rfl (Ga rfl (Ga rfl (Gn (.t3 4 5 6) (Ab ?_)))))))
 refine AY rfl (.tmp rfl (.tmp rfl (.tmp rfl .n))) ?_
 intro w1 hS; refine ⟨?_, hS.Am⟩; rfl
theorem FC (s p : Ap) (w : World) : Ei Tryz.prog 181 #[BS s, BS p] w fun v w' => v = .tuple #[BS (Words.M7 s p).1, .bool (Words.M7 s p).2] ∧ CB w w' := by
 refine Al [] [] Tryz.func181 rfl rfl rfl (St.start w []) ?_
 refine Gs (Ga rfl (Ga rfl (Gn (.t2 0 1) (CG (Gm rfl (Gm rfl ?_))))))
 refine BA rfl ZL (.c rfl (.c rfl .n)) (fun w hS => Da _ _ w) ?_
 refine Gt (BV rfl) (Gn (.t3 0 1 9) ?_)
 refine Gc (fun c1 => ?_) (fun c1 => ?_)
 ·
  refine Gs (Gm rfl (Ga rfl (Ga rfl (Gn (.t2 4 5) (Ab (AD ?_))))))
  refine AY rfl (.tmp rfl (.tmp rfl .n)) ?_
  intro w1 hS; refine ⟨?_, hS.Am⟩; rw [show Words.M7 s p = _ from (BB c1)]; rfl
 have c1p := kz c1
 have hle : p.length ≤ s.length := by simp at c1; omega
 refine Aa ?_
 refine AB (.t2 0 1) ?_
 refine AA (Gs (Gm rfl (Gm rfl (Gt (BI rfl Tryz.underlying9 rfl) ?_))))
 refine Gt (GU Tryz.underlying9 rfl rfl (by omega) (by omega)) ?_
 refine Ga rfl (Ga rfl (Gn (.t2 4 5) (Ab ?_)))
 refine AY rfl (.tmp rfl (.tmp rfl .n)) ?_
 intro w1 hS; refine ⟨?_, hS.Am⟩; rw [show Words.M7 s p = _ from (AW c1)]; rfl
theorem I8 (s p : Ap) (w : World) : Ei Tryz.prog 170 #[BS s, BS p] w fun v w' => v = .tuple #[BS (Words.M7 s p).1, .bool (Words.M7 s p).2] ∧ CB w w' := by
 refine Al [] [] Tryz.func170 rfl rfl rfl (St.start w []) ?_
 refine Gs (Ga rfl (Ga rfl (Gn (.t2 0 1) (Gs (Gm rfl (Gm rfl ?_))))))
 refine BA rfl aV (.c rfl (.c rfl .n)) (fun w hS => FC _ _ w) ?_
 refine Gt (AM rfl rfl) (Gt (AM rfl rfl) (Ga rfl (Ga rfl (Gn (.t2 4 5) (Ab ?_)))))
 refine AY rfl (.tmp rfl (.tmp rfl .n)) ?_
 intro w1 hS; refine ⟨?_, hS.Am⟩; rfl
theorem F1 (s : Ap) (c : UInt8) (w : World) : Ei Tryz.prog 171 #[BS s, BS [c]] w fun v w' => v = .bool (decide (0 ≤ Lib.indexByte s c)) ∧ CB w w' := by
 refine Al [] [] Tryz.func171 rfl rfl rfl (St.start w []) ?_
 refine Gs (Ga rfl (Gn (.t2 0 1) (Gs (Gm rfl (Gm rfl ?_)))))
 refine BA rfl Xb (.c rfl (.c rfl .n)) (fun w hS => FQ _ c w) ?_
 refine Gt (CN rfl rfl) (Ga rfl (Gn (.t1 4) (Ab ?_)))
 refine AY rfl (.tmp rfl .n) ?_
 intro w1 hS; refine ⟨?_, hS.Am⟩; rfl
def RJ : Go.Shelf.Ren := ⟨fun | 172 => 172 | 244 => 182 | 245 => 183 | 247 => 188 | 279 => 189 | 280 => 190 | 281 => 191 | 282 => 192 | 287 => 194 | 316 => 195 | 171 => 53 | 205 => 196 | 321 => 197 | 322 => 198 | 243 => 72 | 246 => 86 | 283 => 108 | 284 => 109 | 285 => 110 | 286 => 111 | 129 => 142 | 317 => 141 | 318 => 143 | 319 => 144 | 320 => 145 | 337 => 162 | 338 => 163 | n => n, fun | 9 => 9 | 3 => 3 | 75 => 109 | 76 => 111 | 4 => 4 | 5 => 5 | 167 => 237 | 37 => 105 | 0 => 0 | 85 => 238 | 2 => 2 | 168 => 240 | 53 => 173 | 175 => 244 | 46 => 140 | 210 => 247 | 127 => 134 | 145 => 252 | 143 => 250 | 21 => 21 | 171 => 172 | 173 => 176 | 212 => 205 | 51 => 178 | 20 => 20 | 213 => 206 | 232 => 226 | 233 => 227 | 80 => 114 | n => n, fun | 15 => 7 | 16 => 8 | 17 => 2 | 18 => 3 | 19 => 4 | n => n⟩
theorem XX : LaysC.n172 Tryz.prog RJ where
  mixed := by kernel_rfl
  f129 := Tryz.func142.trans (congrArg some (by kernel_rfl))
  f171 := Tryz.func53.trans (congrArg some (by kernel_rfl))
  f172 := Tryz.func172.trans (congrArg some (by kernel_rfl))
  f205 := Tryz.func196.trans (congrArg some (by kernel_rfl))
  f243 := Tryz.func72.trans (congrArg some (by kernel_rfl))
  f244 := Tryz.func182.trans (congrArg some (by kernel_rfl))
  f245 := Tryz.func183.trans (congrArg some (by kernel_rfl))
  f246 := Tryz.func86.trans (congrArg some (by kernel_rfl))
  f247 := Tryz.func188.trans (congrArg some (by kernel_rfl))
  f279 := Tryz.func189.trans (congrArg some (by kernel_rfl))
  f280 := Tryz.func190.trans (congrArg some (by kernel_rfl))
  f281 := Tryz.func191.trans (congrArg some (by kernel_rfl))
  f282 := Tryz.func192.trans (congrArg some (by kernel_rfl))
  f283 := Tryz.func108.trans (congrArg some (by kernel_rfl))
  f284 := Tryz.func109.trans (congrArg some (by kernel_rfl))
  f285 := Tryz.func110.trans (congrArg some (by kernel_rfl))
  f286 := Tryz.func111.trans (congrArg some (by kernel_rfl))
  f287 := Tryz.func194.trans (congrArg some (by kernel_rfl))
  f316 := Tryz.func195.trans (congrArg some (by kernel_rfl))
  f317 := Tryz.func141.trans (congrArg some (by kernel_rfl))
  f318 := Tryz.func143.trans (congrArg some (by kernel_rfl))
  f319 := Tryz.func144.trans (congrArg some (by kernel_rfl))
  f320 := Tryz.func145.trans (congrArg some (by kernel_rfl))
  f321 := Tryz.func197.trans (congrArg some (by kernel_rfl))
  f322 := Tryz.func198.trans (congrArg some (by kernel_rfl))
  f337 := Tryz.func162.trans (congrArg some (by kernel_rfl))
  f338 := Tryz.func163.trans (congrArg some (by kernel_rfl))
  t0 := Tryz.underlying0
  a0 := Tryz.isAgg0
  z0 := Tryz.sizeOf0
  v0 := Tryz.zeroValue0
  t2 := Tryz.underlying2
  a2 := Tryz.isAgg2
  z2 := Tryz.sizeOf2
  v2 := Tryz.zeroValue2
  t3 := Tryz.underlying3
  a3 := Tryz.isAgg3
  z3 := Tryz.sizeOf3
  v3 := Tryz.zeroValue3
  t4 := Tryz.underlying4
  a4 := Tryz.isAgg4
  z4 := Tryz.sizeOf4
  v4 := Tryz.zeroValue4
  t5 := Tryz.underlying5
  a5 := Tryz.isAgg5
  z5 := Tryz.sizeOf5
  v5 := Tryz.zeroValue5
  t9 := Tryz.underlying9
  a9 := Tryz.isAgg9
  z9 := Tryz.sizeOf9
  v9 := Tryz.zeroValue9
  t20 := Tryz.underlying20
  a20 := Tryz.isAgg20
  z20 := Tryz.sizeOf20
  v20 := Tryz.zeroValue20
  t21 := Tryz.underlying21
  a21 := Tryz.isAgg21
  z21 := Tryz.sizeOf21
  v21 := Tryz.zeroValue21
  t37 := Tryz.underlying105
  a37 := Tryz.isAgg105
  z37 := Tryz.sizeOf105
  v37 := Tryz.zeroValue105
  t46 := Tryz.underlying140
  a46 := Tryz.isAgg140
  z46 := Tryz.sizeOf140
  v46 := Tryz.zeroValue140
  t51 := Tryz.underlying178
  a51 := Tryz.isAgg178
  z51 := Tryz.sizeOf178
  v51 := Tryz.zeroValue178
  t53 := Tryz.underlying173
  a53 := Tryz.isAgg173
  z53 := Tryz.sizeOf173
  v53 := Tryz.zeroValue173
  t75 := Tryz.underlying109
  a75 := Tryz.isAgg109
  z75 := Tryz.sizeOf109
  v75 := Tryz.zeroValue109
  t76 := Tryz.underlying111
  a76 := Tryz.isAgg111
  z76 := Tryz.sizeOf111
  v76 := Tryz.zeroValue111
  t85 := Tryz.underlying238
  a85 := Tryz.isAgg238
  z85 := Tryz.sizeOf238
  v85 := Tryz.zeroValue238
  t127 := Tryz.underlying134
  a127 := Tryz.isAgg134
  z127 := Tryz.sizeOf134
  v127 := Tryz.zeroValue134
  t143 := Tryz.underlying250
  a143 := Tryz.isAgg250
  z143 := Tryz.sizeOf250
  v143 := Tryz.zeroValue250
  t145 := Tryz.underlying252
  a145 := Tryz.isAgg252
  z145 := Tryz.sizeOf252
  v145 := Tryz.zeroValue252
  t167 := Tryz.underlying237
  a167 := Tryz.isAgg237
  z167 := Tryz.sizeOf237
  v167 := Tryz.zeroValue237
  t168 := Tryz.underlying240
  a168 := Tryz.isAgg240
  z168 := Tryz.sizeOf240
  v168 := Tryz.zeroValue240
  t171 := Tryz.underlying172
  a171 := Tryz.isAgg172
  z171 := Tryz.sizeOf172
  v171 := Tryz.zeroValue172
  t173 := Tryz.underlying176
  a173 := Tryz.isAgg176
  z173 := Tryz.sizeOf176
  v173 := Tryz.zeroValue176
  t175 := Tryz.underlying244
  a175 := Tryz.isAgg244
  z175 := Tryz.sizeOf244
  v175 := Tryz.zeroValue244
  t210 := Tryz.underlying247
  a210 := Tryz.isAgg247
  z210 := Tryz.sizeOf247
  v210 := Tryz.zeroValue247
  t212 := Tryz.underlying205
  a212 := Tryz.isAgg205
  z212 := Tryz.sizeOf205
  v212 := Tryz.zeroValue205
  t213 := Tryz.underlying206
  a213 := Tryz.isAgg206
  z213 := Tryz.sizeOf206
  t232 := Tryz.underlying226
  a232 := Tryz.isAgg226
  z232 := Tryz.sizeOf226
  v232 := Tryz.zeroValue226
  t233 := Tryz.underlying227
  a233 := Tryz.isAgg227
  z233 := Tryz.sizeOf227
  v233 := Tryz.zeroValue227
  g15 := by kernel_rfl
  g16 := by kernel_rfl
  g17 := by kernel_rfl
  g18 := by kernel_rfl
  g19 := by kernel_rfl
  t80 := Tryz.underlying114
  a80 := Tryz.isAgg114
  z80 := Tryz.sizeOf114
  v80 := Tryz.zeroValue114
  i0 := by kernel_rfl
  i2 := by kernel_rfl
  i3 := by kernel_rfl
  i4 := by kernel_rfl
  i5 := by kernel_rfl
  i9 := by kernel_rfl
  i20 := by kernel_rfl
  i21 := by kernel_rfl
  i37 := by kernel_rfl
  i46 := by kernel_rfl
  i51 := by kernel_rfl
  i53 := by kernel_rfl
  i75 := by kernel_rfl
  i76 := by kernel_rfl
  i80 := by kernel_rfl
  i85 := by kernel_rfl
  i127 := by kernel_rfl
  i143 := by kernel_rfl
  i145 := by kernel_rfl
  i167 := by kernel_rfl
  i168 := by kernel_rfl
  i171 := by kernel_rfl
  i173 := by kernel_rfl
  i175 := by kernel_rfl
  i210 := by kernel_rfl
  i212 := by kernel_rfl
  i232 := by kernel_rfl
  i233 := by kernel_rfl
  m15 := by kernel_rfl
  m16 := by kernel_rfl
  m17 := by kernel_rfl
  m18 := by kernel_rfl
  m19 := by kernel_rfl
  c0 := by kernel_rfl
  c2 := by kernel_rfl
  c3 := by kernel_rfl
  c4 := by kernel_rfl
  c5 := by kernel_rfl
  c9 := by kernel_rfl
  c20 := by kernel_rfl
  c21 := by kernel_rfl
  c37 := by kernel_rfl
  c46 := by kernel_rfl
  c51 := by kernel_rfl
  c53 := by kernel_rfl
  c75 := by kernel_rfl
  c76 := by kernel_rfl
  c80 := by kernel_rfl
  c85 := by kernel_rfl
  c127 := by kernel_rfl
  c143 := by kernel_rfl
  c145 := by kernel_rfl
  c167 := by kernel_rfl
  c168 := by kernel_rfl
  c171 := by kernel_rfl
  c173 := by kernel_rfl
  c175 := by kernel_rfl
  c210 := by kernel_rfl
  c212 := by kernel_rfl
  c213 := by kernel_rfl
  c232 := by kernel_rfl
  c233 := by kernel_rfl
theorem LO (s : Ap) (hs : s.length ≤ 10000000) : FL Tryz.prog 172 #[BS s] [] (fun w => Gl 7 w ∧ Gl 8 w) (fun v B => (∃ k : Int, Lib.atoiAll s = .ok k ∧ v = .tuple #[.int .i64 k, .nilIface] ∧ B = []) ∨ (∃ (k : Int) (t : TypeId) (x : Value), (∀ j, Lib.atoiAll s ≠ .ok j) ∧ v = .tuple #[.int .i64 k, .iface t x] ∧ B = [])) :=
  Ww XX s hs (by kernel_rfl) (by kernel_rfl)
end Go.Proofs.YtoidpggbbfncpaaGreatDoor
