/- For every input the law TopAlone returns true. No condition. -/
import Derived.Test.YtoidpggbbfncpaaGreatDoorCards
import Derived.Test.YtoidpggbbfncpaaGreatDoorTie
import Derived.Deep.DeepHandedRow
import Derived.Test.YtoidpggbbfncpaaGreatDoorRows
import Derived.Test.YtoidpggbbfncpaaGreatDoorTopAloneWalks
import Derived.Test.YtoidpggbbfncpaaGreatDoorTopAloneWalks2
import Derived.Test.YtoidpggbbfncpaaGreatDoorTopAloneWalks3
import Derived.Test.YtoidpggbbfncpaaGreatDoorTopAloneWalks4
import Derived.Test.YtoidpggbbfncpaaGreatDoorTopAloneWalks5
import Derived.Test.YtoidpggbbfncpaaGreatDoorTopAloneWalks6
import Derived.Test.YtoidpggbbfncpaaGreatDoorTopAloneEc3
import Derived.Test.YtoidpggbbfncpaaGreatDoorTopAloneRa1
import Derived.Test.YtoidpggbbfncpaaGreatDoorTopAloneRb1
import Derived.Test.YtoidpggbbfncpaaGreatDoorTopAloneRc1
set_option linter.unusedSimpArgs false
set_option linter.unusedVariables false
set_option maxRecDepth 100000
set_option maxHeartbeats 1000000
namespace Go.Proofs.YtoidpggbbfncpaaGreatDoor
open Go Go.Ing Go.RowKit Go.ChangeShapes Go.WideShapes Go.ChangeAt
theorem own : ownKnob Tryz.prog.godebug = none := by kernel_rfl
theorem laidOut : laidOutB Tryz.prog = true := by kernel_rfl
theorem FE : (Rows.laid_internal_strconv_uint64pow10 : DataW Unit) = Lib.tabData .u64 Lib.pow10Tab := by kernel_rfl
theorem E2 : ("internal/strconv.uint64pow10", (Lib.tabData .u64 Lib.pow10Tab : DataW Unit)) ∈ Rows.topAloneRow.laid := FE ▸ (.tail _ (.tail _ (.head _)))
theorem Gw : (Rows.laid_inglenook_words_verbs : DataW Unit) = L6 AI.G1 := by kernel_rfl
theorem GY : ("inglenook/words.verbs", (L6 AI.G1 : DataW Unit)) ∈ Rows.topAloneRow.laid := Gw ▸ (.tail _ (.tail _ (.tail _ (.tail _ (.tail _ (.tail _ (.head _)))))))
theorem Hb : ("strconv.ErrSyntax", (Rows.laid_strconv_ErrSyntax : DataW Unit)) ∈ Rows.topAloneRow.laid := .tail _ (.tail _ (.tail _ (.tail _ (.tail _ (.head _)))))
theorem Hz : ("strconv.ErrRange", (Rows.laid_strconv_ErrRange : DataW Unit)) ∈ Rows.topAloneRow.laid := .tail _ (.tail _ (.tail _ (.tail _ (.head _))))
theorem dU {H : Type} {enc : TypeId × Value → H} {w : World} : Dc H enc Tryz.prog w (Az) Gf 3 := aJ Tryz.underlying3
theorem ei {H : Type} {enc : TypeId × Value → H} {w : World} : Dc H enc Tryz.prog w (A8) Kw 9 := Vr Tryz.underlying9
theorem cw {H : Type} {enc : TypeId × Value → H} {w : World} : Dc H enc Tryz.prog w (Bk.enc) Bk.wf 41 := Bk.dc Tryz.underlying41 (by kernel_rfl) rfl (by kernel_rfl) dU rfl (by kernel_rfl) dU rfl (by kernel_rfl) dU rfl (by kernel_rfl) ei
theorem Lu {t0 : Nat} (f : Hd) (l : List Bk) (hu : ∀ a ∈ l, a.bytes.length ≤ 140737488351232) (a : Bk) (hv : a.bytes.length ≤ 140737488351232) (w : World) (r0 : Rd w f t0 4 (l.flatMap Bk.enc)) (gl0 : GV 2 Fy w) (gl1 : GV 0 AI.DP w) (gl2 : G3 7 w) (gl3 : G3 8 w) : En Tryz.prog 10 #[f.val, .agg a.enc.toArray] w fun v w' => v = .bool true ∧ B9 w w' := by
 refine Am [] [] Tryz.func10 rfl rfl rfl (St.start w []) ?_
 refine Gs ?_
 refine B0 rfl rfl rfl (fun b1 => ?_)
 refine Ga rfl (Gn (.t2 0 3) (Gs (Gm rfl ?_)))
 refine BJ rfl dv (.c rfl (.c rfl .n)) .n (Pd f l hu) (fun w hS => ⟨Rd.pull r0 hS .n, gl0.pull (by simp) hS .n, gl1.pull (by simp) hS .n, gl2.pull (by simp) hS .n, gl3.pull (by simp) hS .n⟩) (fun v1 B hv => ?_)
 obtain ⟨y2, y3, y4, y5, rfl, y6, rfl⟩ := hv
 refine Gm rfl (Gt (AL rfl rfl) (Gt (AL rfl rfl) (Ga rfl (Ga rfl (Gn (.t3 3 5 6) (CD (Gm rfl ?_)))))))
 refine Gt (BR rfl) (Gn (.t3 3 5 22) ?_)
 refine DU rfl rfl ?_
 refine Aa ?_
 refine AB (.t2 3 5) ?_
 refine AA (CD (Gt (Aj Me rfl) (Gt (AG rfl A5 .m3 Bk.l0 rfl rfl) (Gt (Ak rfl rfl) (Gn (.t3 3 5 25) ?_)))))
 refine Gc (fun c1 => ?_) (fun c1 => ?_)
 ·
  refine Gs (Ga rfl (Gn (.t1 4) (Ac (AE ?_))))
  refine AZ rfl (.tmp rfl .n) ?_
  intro w1 hS; refine ⟨?_, hS.Al⟩; rfl
 have c1p := kz c1
 refine Aa ?_
 refine AB (.t2 3 5) ?_
 refine AA (Gs ?_)
 refine BG rfl dY rfl (fun b2 => ?_)
 refine AQ (AA (Gs ?_))
 refine BG rfl dW rfl (fun b3 => ?_)
 refine AQ (AA (Gs ?_))
 refine BG rfl dV rfl (fun b4 => ?_)
 refine AQ (AA (CD (Gm rfl (AQ (AA (Ag ?_))))))
 refine Bo (.t6 26 3 5 7 8 9) ?_
 refine Xt ?_
 refine Bc (.t (.t (.t .h))) ?_
 refine Bc (.t (.t (.t .h))) ?_
 refine Bc (.t (.t (.t .h))) ?_
 refine Bc (.t (.t (.t .h))) ?_
 refine Od (fun (k : Int) (P : Vector Ap 4) (Q : Vector A6 4) (S : Vector Int 4) (rs : List Ad) => 0 ≤ k ∧ k ≤ 4 ∧ Kept 9 y3 y4 P Q S rs k) (fun (k : Int) (P : Vector Ap 4) (Q : Vector A6 4) (S : Vector Int 4) (rs : List Ad) => (4 - k).toNat) (fun (k : Int) (P : Vector Ap 4) (Q : Vector A6 4) (S : Vector Int 4) (rs : List Ad) => [(26, .int .i64 k)]) (fun (k : Int) (P : Vector Ap 4) (Q : Vector A6 4) (S : Vector Int 4) (rs : List Ad) => [Ad.Da rs, Ad.box b4 49 (CA (n := 4) Az S), Ad.box b3 89 (CA (n := 4) A6.enc Q), Ad.box b2 88 (CA (n := 4) Ap.enc P)]) (0) ((Vector.replicate 4 default)) ((Vector.replicate 4 default)) ((Vector.replicate 4 default)) ([]) ?_ rfl rfl (fun k P Q S rs hI1 => ?_)
 · exact ⟨by omega, by omega, Kept.start _ _ _ _ _ _ _⟩
 obtain ⟨hI11, hI12, hI13⟩ := hI1
 refine Gs (Gt (BA rfl rfl) (AQ (AA (Aq ?_))))
 refine Gc (fun c2 => ?_) (fun c2 => ?_)
 ·
  have c2p := kz c2
  have hk : 0 ≤ k ∧ k < 4 := ⟨by omega, by omega⟩
  refine Aa ?_
  refine AB (.t6 3 5 7 8 9 26) ?_
  refine AA (Aq (Ag (Gs (Gm rfl (Ga rfl (Gn (.t7 3 5 7 8 9 10 26) (Aq ?_)))))))
  refine BE (N := 12) [0, 0, 0, 0, 12, 0, 0, 124, 29, 509, 1023, 2047] mix (by kernel_rfl) rfl ?_
  refine Pf 0 rfl (AD rfl) (Pf 1 rfl (AD rfl) (Pf 2 rfl (AD rfl) (Pf 3 rfl (AD rfl) (Pf 5 rfl (AD rfl) (Pf 6 rfl (AD rfl) ?_)))))
  refine Af 4 rfl (by kernel_rfl) ?_
  refine Ah rfl aN (.c rfl (.c rfl .n)) (.c (.t (.t (.t (.t .h)))) (.c (.t (.t (.t (.t .h)))) .n)) (JL y2 y3 y4 k hk (AH.Live.wait (V := y3) (ls := y4) (ev := y5) (by rw [y6]; exact AH.DK l) hk.1 hk.2)) (fun v8 B hv => ?_)
  obtain ⟨y9, rfl, y10, rfl⟩ := hv
  refine Bf rfl ⟨?_, ?_⟩
  · exact (Po rfl (AD rfl) rfl rfl (Po rfl (AD rfl) rfl rfl (Pk (Pk (Po rfl (AD rfl) rfl rfl (Po rfl (AD rfl) rfl rfl Ar))))))
  refine Pf 8 rfl (AN WG rfl rfl (by first | omega | exact hk.1 | exact hk.2 | exact hi.1 | exact hi.2 | exact hse.1 | exact hse.2) (by first | omega | exact hk.1 | exact hk.2 | exact hi.1 | exact hi.2 | exact hse.1 | exact hse.2)) ?_
  refine Af 7 rfl (by kernel_rfl) ?_
  refine Ah rfl Z4 (.c rfl (.c rfl .n)) (.c .h (.c .h .n)) (JO y2 y3 y4 k hk (AH.Live.queue (V := y3) (ls := y4) (ev := y5) (by rw [y6]; exact AH.DK l) hk.1 hk.2)) (fun v12 B hv => ?_)
  obtain ⟨y13, rfl, y14, rfl⟩ := hv
  refine Bf rfl ⟨?_, ?_⟩
  · exact (Po rfl (AN WG rfl rfl (by first | omega | exact hk.1 | exact hk.2 | exact hi.1 | exact hi.2 | exact hse.1 | exact hse.2) (by first | omega | exact hk.1 | exact hk.2 | exact hi.1 | exact hi.2 | exact hse.1 | exact hse.2)) rfl rfl (Pk (Pk (Pk (Pk (Po rfl (AD rfl) rfl rfl (Po rfl (AD rfl) rfl rfl Ar)))))))
  refine Af 9 rfl (by kernel_rfl) ?_
  refine AU (AK ((AS.id (Ff Ap.fl).len (Ff Ap.fl).one).comp (AS.ar (n := 4) Ap.fl (by first | omega | exact hk | exact hi | exact hse))) rfl rfl rfl FH rfl (.t (.t (.t (.t (.t (.t (.t .h)))))))) ?_
  refine BN rfl ⟨?_, ?_⟩
  · exact (Pk (Pk (Pk (Pk (Pk (Po rfl (AD rfl) rfl rfl (Pk Ar)))))))
  refine Pf 10 rfl (AN Wx rfl rfl (by first | omega | exact hk.1 | exact hk.2 | exact hi.1 | exact hi.2 | exact hse.1 | exact hse.2) (by first | omega | exact hk.1 | exact hk.2 | exact hi.1 | exact hi.2 | exact hse.1 | exact hse.2)) ?_
  refine Af 11 rfl (by kernel_rfl) ?_
  refine AU (AK ((AS.id (Ff A6.fl).len (Ff A6.fl).one).comp (AS.ar (n := 4) A6.fl (by first | omega | exact hk | exact hi | exact hse))) rfl rfl rfl LM rfl (.t (.t (.t (.t (.t (.t .h))))))) ?_
  refine BN rfl ⟨?_, ?_⟩
  · exact (Pk (Pk (Pk (Pk (Pk (Pk (Pk (Pk Ar))))))))
  refine A1 (by kernel_rfl) ?_
  refine AB (.t7 3 5 7 8 9 10 26) ?_
  refine AA (AJ (Gm rfl (Gm rfl (Gm rfl ?_))))
  refine Ah rfl XY (.c rfl (.c rfl .n)) (.c .h .n) (FM y2 y3 k hk) (fun v16 B hv => ?_)
  obtain ⟨rfl, rfl⟩ := hv
  refine Gm rfl (Gt (AL rfl rfl) (Gt (AL rfl rfl) ?_))
  refine Gt (AN Y6 rfl rfl (by first | omega | exact hk.1 | exact hk.2 | exact hi.1 | exact hi.2 | exact hse.1 | exact hse.2) (by first | omega | exact hk.1 | exact hk.2 | exact hi.1 | exact hi.2 | exact hse.1 | exact hse.2)) ?_
  refine AU (AK ((AS.id (Ff B1).len (Ff B1).one).comp (AS.ar (n := 4) B1 (by first | omega | exact hk | exact hi | exact hse))) rfl rfl rfl DD rfl (.t (.t (.t (.t (.t .h)))))) ?_
  refine AQ (AB (.t6 3 5 7 8 9 26) ?_)
  refine AV (AA (AJ ?_))
  refine Gt (Ax rfl rfl (IntWalk.i64_in _ (by first | omega | exact hk.1 | exact hk.2 | exact hi.1 | exact hi.2 | exact hse.1 | exact hse.2))) ?_
  refine Gm rfl ?_
  refine AQ (AB (.t6 3 5 7 8 9 26) ?_)
  refine CJ (.c (.t (.t .h)) (.c (.t (.t .h)) (.c (.t (.t .h)) .n))) ?_
  refine Sx ?_
  refine CJ (.c .h (.c (.t (.t .h)) (.c (.t (.t .h)) (.c (.t (.t .h)) (.c .h (.c .h (.c .h (.c .h .n)))))))) ?_
  refine Cf ?_
  refine I9 (k + 1) _ _ _ _ ?_ ?_ (.t6 26 3 5 7 8 9) (.refl _)
  · exact ⟨by omega, by omega, hI13.next hk.1 hk.2 ⟨.tail _ .m0, .head _, rfl, rfl, rfl, rfl, rfl, rfl, rfl, rfl⟩⟩
  · omega
 have c2p := kz c2
 obtain rfl : k = 4 := by omega
 have hK := hI13
 refine Be (AW (AW (Ai ?_)))
 refine AB (.t5 3 5 7 8 9) ?_
 refine AA (Gs (Gm rfl (Gt (AY rfl YC .m7 (AS.id Bk.fl.len Bk.fl.one) rfl) ?_)))
 refine BJ rfl X1 (.c rfl (.c rfl .n)) (.c (.t (.t (.t (.t .h)))) (.c (.t (.t (.t (.t .h)))) (.c (.t (.t (.t (.t .h)))) .n))) (Hr y2 y3 y4 y5 a (by rw [y6]; exact AH.DK l) hv) (fun w hS => ⟨gl0.pull (by simp) hS (.c (.t (.t (.t (.t .h)))) (.c (.t (.t (.t (.t .h)))) (.c (.t (.t (.t (.t .h)))) .n))), gl1.pull (by simp) hS (.c (.t (.t (.t (.t .h)))) (.c (.t (.t (.t (.t .h)))) (.c (.t (.t (.t (.t .h)))) .n))), gl2.pull (by simp) hS (.c (.t (.t (.t (.t .h)))) (.c (.t (.t (.t (.t .h)))) (.c (.t (.t (.t (.t .h)))) .n))), gl3.pull (by simp) hS (.c (.t (.t (.t (.t .h)))) (.c (.t (.t (.t (.t .h)))) (.c (.t (.t (.t (.t .h)))) .n)))⟩) (fun v17 B hv => ?_)
 obtain ⟨y18, y19, y20, rfl, y21, rfl⟩ := hv
 refine Gn (.t5 3 5 7 8 9) (CD (Gt (Aj Jb rfl) (Gt (AG rfl A5 .m7 Bk.l1 rfl rfl) (Gt (CK rfl rfl) (Gm rfl (Bb 54 rfl rfl (fun q => Aj Jb rfl) (Bb 54 rfl rfl (fun q => AG (BX rfl q) A5 .m7 Bk.l1 rfl rfl) ?_)))))))
 refine Bb 54 rfl rfl (fun q => BA (BX rfl q) rfl) (Gt (BI rfl rfl (fun h => h)) (Gn (.t6 3 5 7 8 9 58) ?_))
 refine Gc (fun c3 => ?_) (fun c3 => ?_)
 ·
  have c3p := kz c3
  have hse : 0 ≤ a.BB ∧ a.BB < 4 := by have h := c3; simp only [Bool.and_eq_true, decide_eq_true_eq] at h; exact h
  refine Gs (Gm rfl (Gt (Aj Jb rfl) (Gt (AG rfl A5 .m7 Bk.l1 rfl rfl) ?_)))
  refine Ah rfl XY (.c rfl (.c rfl .n)) (.c .h .n) (FM y2 y18 a.BB hse) (fun v22 B hv => ?_)
  obtain ⟨rfl, rfl⟩ := hv
  refine Gm rfl (Gt (AL rfl rfl) (Gt (AL rfl rfl) (Ga rfl (Ga rfl (Gn (.t6 3 5 7 8 9 11) (Gs (Gm rfl ?_)))))))
  refine Gt (Ak rfl rfl) (Gm rfl (Bb 68 rfl rfl (fun q => Aj Jb rfl) (Bb 68 rfl rfl (fun q => AG (BX rfl q) A5 .m7 Bk.l1 rfl rfl) ?_)))
  refine Bb 68 rfl rfl (fun q => by have q1 := q; (try simp at q1); exact AN Y6 rfl (BX rfl q) (by first | omega | exact hk.1 | exact hk.2 | exact hi.1 | exact hi.2 | exact hse.1 | exact hse.2) (by first | omega | exact hk.1 | exact hk.2 | exact hi.1 | exact hi.2 | exact hse.1 | exact hse.2)) ?_
  refine Bb 68 rfl rfl (fun q => by have q1 := q; (try simp at q1); exact AG (BX rfl q) A5 .m4 ((AS.id (Ff B1).len (Ff B1).one).comp (AS.ar (n := 4) B1 (by first | omega | exact hk | exact hi | exact hse))) rfl rfl) ?_
  refine Bb 68 rfl rfl (fun q => CN (BX rfl q) rfl) (Gt (BI rfl rfl (fun h => h)) (Gn (.t6 3 5 7 8 9 74) ?_))
  refine Gc (fun c4 => ?_) (fun c4 => ?_)
  ·
   refine Gs (Ga rfl (Gn (.t1 4) (Ac (AE ?_))))
   refine AZ rfl (.tmp rfl .n) ?_
   intro w1 hS; refine ⟨?_, hS.Al⟩; rfl
  have c4p := kz c4
  have hal : UO y3 y18 y4 y19 a.BB := Su (ev := y5) (fv := y20) (by rw [y6]; exact AH.Mu l) (by rw [y6, AH.Mt]; omega) y21 (of_decide_eq_false c1) (X5 (hK _ hse.1 hse.2).st c4)
  refine Aa ?_
  refine AB (.t5 3 5 7 8 9) ?_
  refine AA (CD (Gm rfl (AQ (AA (Ag ?_)))))
  refine Bo (.t6 75 3 5 7 8 9) ?_
  refine CT (fun (i : Int) => 0 ≤ i ∧ i ≤ 4) (fun (i : Int) => (4 - i).toNat) (fun (i : Int) => [(75, .int .i64 i)]) (fun (i : Int) => []) (0) ?_ rfl rfl (fun i hI2 => ?_)
  · exact ⟨by omega, by omega⟩
  obtain ⟨hI21, hI22⟩ := hI2
  refine Gs (Gt (BA rfl rfl) (AQ (AA (Aq ?_))))
  refine Gc (fun c5 => ?_) (fun c5 => ?_)
  ·
   have c5p := kz c5
   have hi : 0 ≤ i ∧ i < 4 := ⟨by omega, by omega⟩
   refine Aa ?_
   refine AB (.t6 3 5 7 8 9 75) ?_
   refine AA (Aq (Ag (Gs (Gm rfl (Ga rfl (Gn (.t7 3 5 7 8 9 13 75) (Gs ?_)))))))
   refine Gm rfl (Gm rfl ?_)
   refine Ah rfl XY (.c rfl (.c rfl .n)) (.c .h .n) (FM y2 y18 i hi) (fun v23 B hv => ?_)
   obtain ⟨rfl, rfl⟩ := hv
   refine Gm rfl (Gt (AL rfl rfl) (Gt (AL rfl rfl) (Ga rfl (Ga rfl (Gn (.t8 3 5 7 8 9 13 14 75) (Aq ?_))))))
   refine BE (N := 31) [0, 0, 2, 7, 15, 31, 31, 95, 223, 511, 1023, 2047, 4095, 8191, 2047, 2047, 51199, 131071, 262143, 524287, 1048575, 2097151, 4194303, 8388607, 2097151, 2097151, 52428799, 134217727, 268435455, 536870911, 1073741823] mix (by kernel_rfl) rfl ?_
   refine Pf 0 rfl (AD rfl) (Pf 1 rfl (Aj Jb rfl) (Pf 2 rfl (AG rfl A5 .m7 Bk.l1 rfl rfl) (Pf 3 rfl (CN rfl rfl) (Pf 4 rfl (AD rfl) ?_))))
   refine Wa (b := (!decide (i = a.BB))) (fun c6 => ?_) (fun c6 => ?_)
   ·
    refine Ab 5 rfl rfl (by kernel_rfl) (EL (t := 88) rfl (GD rfl c6) (Cu (AD rfl))) ?_
    refine Ab 6 rfl rfl (by kernel_rfl) (EL (t := 88) rfl (GD rfl c6) (Cu (AD rfl))) ?_
    refine Ab 7 rfl rfl (by kernel_rfl) (EL (t := 88) rfl (GD rfl c6) (Cu (AN Y6 rfl rfl (by first | omega | exact hk.1 | exact hk.2 | exact hi.1 | exact hi.2 | exact hse.1 | exact hse.2) (by first | omega | exact hk.1 | exact hk.2 | exact hi.1 | exact hi.2 | exact hse.1 | exact hse.2)))) ?_
    refine Ab 8 rfl rfl (by kernel_rfl) (EL (t := 88) rfl (GD rfl c6) (Cu (AG rfl A5 .m4 ((AS.id (Ff B1).len (Ff B1).one).comp (AS.ar (n := 4) B1 (by first | omega | exact hk | exact hi | exact hse))) rfl rfl))) ?_
    refine Ab 9 rfl rfl (by kernel_rfl) (EL (t := 88) rfl (GD rfl c6) (Cu (CN rfl rfl))) ?_
    refine Ab 10 rfl rfl (by kernel_rfl) (EL (t := 88) rfl (GD rfl c6) (Cu (AD rfl))) ?_
    refine GB 11 94 rfl rfl rfl (fun q => AD rfl) ?_
    refine Ab 12 rfl rfl (by kernel_rfl) (DE (t := 94) rfl rfl (fun q => by have q1 := q; (try simp at q1); exact Cu (AN WG rfl (cF rfl q) (by first | omega | exact hk.1 | exact hk.2 | exact hi.1 | exact hi.2 | exact hse.1 | exact hse.2) (by first | omega | exact hk.1 | exact hk.2 | exact hi.1 | exact hi.2 | exact hse.1 | exact hse.2)))) ?_
    refine Ab 13 rfl rfl (by kernel_rfl) (DE (t := 94) rfl rfl (fun q => by have q1 := q; (try simp at q1); exact Cu (AY (X := P) (cF rfl q) Co .m6 ((AS.id (Ff Ap.fl).len (Ff Ap.fl).one).comp (AS.ar (n := 4) Ap.fl (by first | omega | exact hk | exact hi | exact hse))) rfl))) ?_
    refine GB 14 94 rfl rfl rfl (fun q => AD rfl) (GB 15 94 rfl rfl rfl (fun q => AD rfl) ?_)
    refine Af 16 rfl (by kernel_rfl) ?_
    refine Lw 94 rfl (fun c7 => ?_) (fun c7 => ?_)
    · exact absurd (c7.symm.trans (U9 hal (hK _ hi.1 hi.2) hi.1 hi.2 (by assumption))) (by decide)
    have c7p := kz c7
    refine Ht (t := 94) rfl (by first | rfl | exact GD rfl c7) rfl aN (.c (BX rfl (by rw [c7]; rfl)) (.c (BX rfl (by rw [c7]; rfl)) .n)) (.c .h (.c .h .n)) (JL y2 y18 y19 i hi (AH.Live.wait (V := y18) (ls := y19) (ev := y20) (by rw [y21, y6]; exact (AH.DK l).act a) hi.1 hi.2)) (fun v24 B hv => ?_)
    obtain ⟨y25, rfl, y26, rfl⟩ := hv
    refine Bf rfl ⟨?_, ?_⟩
    · exact (Pk (Pk (CQ rfl (DE (t := 94) rfl rfl (fun q => by have q1 := q; (try simp at q1); exact Cu (AY (X := P) (cF rfl q) Co .m7 ((AS.id (Ff Ap.fl).len (Ff Ap.fl).one).comp (AS.ar (n := 4) Ap.fl (by first | omega | exact hk | exact hi | exact hse))) rfl))) rfl rfl (CQ rfl (DE (t := 94) rfl rfl (fun q => by have q1 := q; (try simp at q1); exact Cu (AN WG rfl (cF rfl q) (by first | omega | exact hk.1 | exact hk.2 | exact hi.1 | exact hi.2 | exact hse.1 | exact hse.2) (by first | omega | exact hk.1 | exact hk.2 | exact hi.1 | exact hi.2 | exact hse.1 | exact hse.2)))) rfl rfl (CQ rfl (DE (t := 94) rfl rfl (fun q => Cu (AD rfl))) rfl rfl (Pk (Pk (Pk (Pk (Pk (Pk (Pk (Pk (Pk (Pk (Pk Ar))))))))))))))))
    refine Ab 17 rfl rfl (by kernel_rfl) (EL (t := 94) rfl (GD rfl c7) (JX (Dl bI (.c (BX rfl (by rw [c7]; rfl)) (.c rfl .n)) (fun w hS => IJ _ _ _ _ (Nat.le_trans (AH.Live.wait (V := y3) (ls := y4) (ev := y5) (by rw [y6]; exact AH.DK l) hi.1 hi.2) (by decide)) w ((Kn.Da (hK _ hi.1 hi.2).pm .m4) w hS) ((Kn.own .m2) w hS))))) ?_
    refine Ab 18 rfl rfl (by kernel_rfl) (EL (t := 94) rfl (GD rfl c7) (Cu (BR rfl))) ?_
    refine Ab 19 rfl rfl (by kernel_rfl) (EL (t := 88) rfl (GD rfl c6) (Cu (CC (GD rfl c7) rfl))) ?_
    refine Ab 20 rfl rfl (by kernel_rfl) (EL (t := 88) rfl (GD rfl c6) (Cu (AD rfl))) ?_
    refine GB 21 104 rfl rfl rfl (fun q => AD rfl) ?_
    refine Ab 22 rfl rfl (by kernel_rfl) (DE (t := 104) rfl rfl (fun q => by have q1 := q; (try simp at q1); exact Cu (AN Wx rfl (cF rfl q) (by first | omega | exact hk.1 | exact hk.2 | exact hi.1 | exact hi.2 | exact hse.1 | exact hse.2) (by first | omega | exact hk.1 | exact hk.2 | exact hi.1 | exact hi.2 | exact hse.1 | exact hse.2)))) ?_
    refine Ab 23 rfl rfl (by kernel_rfl) (DE (t := 104) rfl rfl (fun q => by have q1 := q; (try simp at q1); exact Cu (AY (X := Q) (cF rfl q) GH .m6 ((AS.id (Ff A6.fl).len (Ff A6.fl).one).comp (AS.ar (n := 4) A6.fl (by first | omega | exact hk | exact hi | exact hse))) rfl))) ?_
    refine GB 24 104 rfl rfl rfl (fun q => AD rfl) (GB 25 104 rfl rfl rfl (fun q => AD rfl) ?_)
    refine Af 26 rfl (by kernel_rfl) ?_
    refine Lw 104 rfl (fun c8 => ?_) (fun c8 => ?_)
    · exact absurd (c8.symm.trans (Uc hal (hK _ hi.1 hi.2) hi.1 hi.2 (by assumption))) (by decide)
    have c8p := kz c8
    refine Ht (t := 104) rfl (by first | rfl | exact GD rfl c8) rfl Z4 (.c (BX rfl (by rw [c8]; rfl)) (.c (BX rfl (by rw [c8]; rfl)) .n)) (.c .h (.c .h .n)) (JO y2 y18 y19 i hi (AH.Live.queue (V := y18) (ls := y19) (ev := y20) (by rw [y21, y6]; exact (AH.DK l).act a) hi.1 hi.2)) (fun v28 B hv => ?_)
    obtain ⟨y29, rfl, y30, rfl⟩ := hv
    refine Bf rfl ⟨?_, ?_⟩
    · exact (Pk (Pk (CQ rfl (DE (t := 104) rfl rfl (fun q => by have q1 := q; (try simp at q1); exact Cu (AY (X := Q) (cF rfl q) GH .m7 ((AS.id (Ff A6.fl).len (Ff A6.fl).one).comp (AS.ar (n := 4) A6.fl (by first | omega | exact hk | exact hi | exact hse))) rfl))) rfl rfl (CQ rfl (DE (t := 104) rfl rfl (fun q => by have q1 := q; (try simp at q1); exact Cu (AN Wx rfl (cF rfl q) (by first | omega | exact hk.1 | exact hk.2 | exact hi.1 | exact hi.2 | exact hse.1 | exact hse.2) (by first | omega | exact hk.1 | exact hk.2 | exact hi.1 | exact hi.2 | exact hse.1 | exact hse.2)))) rfl rfl (CQ rfl (DE (t := 104) rfl rfl (fun q => Cu (AD rfl))) rfl rfl (Pk (Pk (Pk (Pk (Pk (Pk (Pk (Pk (Pk (Pk (Pk (Pk (Pk (Pk (Pk (Pk (Pk (Pk (Pk (Pk Ar)))))))))))))))))))))))))
    refine Ab 27 rfl rfl (by kernel_rfl) (EL (t := 104) rfl (GD rfl c8) (JX (Dl bD (.c (BX rfl (by rw [c8]; rfl)) (.c rfl .n)) (fun w hS => IL _ _ _ _ (Nat.le_trans (AH.Live.queue (V := y3) (ls := y4) (ev := y5) (by rw [y6]; exact AH.DK l) hi.1 hi.2) (by decide)) w ((Kn.Da (hK _ hi.1 hi.2).qm .m5) w hS) ((Kn.own .m2) w hS))))) ?_
    refine Ab 28 rfl rfl (by kernel_rfl) (EL (t := 104) rfl (GD rfl c8) (Cu (BR rfl))) ?_
    refine Ab 29 rfl rfl (by kernel_rfl) (EL (t := 88) rfl (GD rfl c6) (Cu (CC (GD rfl c8) rfl))) ?_
    refine Pf 30 rfl (Cz (GD rfl c6) rfl) ?_
    refine A1 (by kernel_rfl) ?_
    refine AB (.t7 3 5 7 8 9 75 114) ?_
    refine AA ?_
    refine DU rfl (UH hal (hK _ hi.1 hi.2) hi.1 hi.2 (by assumption)) ?_
    refine Aa ?_
    refine AB (.t6 3 5 7 8 9 75) ?_
    refine AV (AA (AJ ?_))
    refine Gt (Ax rfl rfl (IntWalk.i64_in _ (by first | omega | exact hk.1 | exact hk.2 | exact hi.1 | exact hi.2 | exact hse.1 | exact hse.2))) ?_
    refine Gm rfl ?_
    refine AQ (AB (.t6 3 5 7 8 9 75) ?_)
    refine CJ (.c .h (.c .h (.c (.t (.t .h)) (.c (.t (.t .h)) (.c (.t (.t .h)) (.c (.t (.t .h)) (.c (.t (.t .h)) (.c (.t (.t .h)) .n)))))))) ?_
    refine Cf ?_
    refine Bz (i + 1) ?_ ?_ (.t6 75 3 5 7 8 9) (.refl _)
    · exact ⟨by omega, by omega⟩
    · omega
   refine Ab 5 rfl rfl (by kernel_rfl) (Ef (t := 88) rfl (GD rfl c6) rfl) ?_
   refine Ab 6 rfl rfl (by kernel_rfl) (Ef (t := 88) rfl (GD rfl c6) rfl) ?_
   refine Ab 7 rfl rfl (by kernel_rfl) (Ef (t := 88) rfl (GD rfl c6) rfl) ?_
   refine Ab 8 rfl rfl (by kernel_rfl) (Ef (t := 88) rfl (GD rfl c6) rfl) ?_
   refine Ab 9 rfl rfl (by kernel_rfl) (Ef (t := 88) rfl (GD rfl c6) rfl) ?_
   refine Ab 10 rfl rfl (by kernel_rfl) (Ef (t := 88) rfl (GD rfl c6) rfl) ?_
   refine Ab 11 rfl rfl (by kernel_rfl) (Bl (t := 94) rfl rfl) ?_
   refine Ab 12 rfl rfl (by kernel_rfl) (Bl (t := 94) rfl rfl) ?_
   refine Ab 13 rfl rfl (by kernel_rfl) (Bl (t := 94) rfl rfl) ?_
   refine Ab 14 rfl rfl (by kernel_rfl) (Bl (t := 94) rfl rfl) ?_
   refine Ab 15 rfl rfl (by kernel_rfl) (Bl (t := 94) rfl rfl) ?_
   refine Af 16 rfl (by kernel_rfl) ?_
   refine Dk (t := 94) rfl rfl rfl ?_
   refine Bf rfl ⟨?_, ?_⟩
   · exact (Pk (Pk (CQ rfl (Bl (t := 94) rfl rfl) rfl rfl (CQ rfl (Bl (t := 94) rfl rfl) rfl rfl (CQ rfl (Bl (t := 94) rfl rfl) rfl rfl (Pk (Pk (Pk (Pk (Pk (Pk (Pk (Pk (Pk (Pk (Pk Ar))))))))))))))))
   refine Ab 17 rfl rfl (by kernel_rfl) (Bl (t := 94) rfl rfl) ?_
   refine Ab 18 rfl rfl (by kernel_rfl) (Bl (t := 94) rfl rfl) ?_
   refine Ab 19 rfl rfl (by kernel_rfl) (Ef (t := 88) rfl (GD rfl c6) rfl) ?_
   refine Ab 20 rfl rfl (by kernel_rfl) (Ef (t := 88) rfl (GD rfl c6) rfl) ?_
   refine Ab 21 rfl rfl (by kernel_rfl) (Bl (t := 104) rfl rfl) ?_
   refine Ab 22 rfl rfl (by kernel_rfl) (Bl (t := 104) rfl rfl) ?_
   refine Ab 23 rfl rfl (by kernel_rfl) (Bl (t := 104) rfl rfl) ?_
   refine Ab 24 rfl rfl (by kernel_rfl) (Bl (t := 104) rfl rfl) ?_
   refine Ab 25 rfl rfl (by kernel_rfl) (Bl (t := 104) rfl rfl) ?_
   refine Af 26 rfl (by kernel_rfl) ?_
   refine Dk (t := 104) rfl rfl rfl ?_
   refine Bf rfl ⟨?_, ?_⟩
   · exact (Pk (Pk (CQ rfl (Bl (t := 104) rfl rfl) rfl rfl (CQ rfl (Bl (t := 104) rfl rfl) rfl rfl (CQ rfl (Bl (t := 104) rfl rfl) rfl rfl (Pk (Pk (Pk (Pk (Pk (Pk (Pk (Pk (Pk (Pk (Pk (Pk (Pk (Pk (Pk (Pk (Pk (Pk (Pk (Pk Ar)))))))))))))))))))))))))
   refine Ab 27 rfl rfl (by kernel_rfl) (Bl (t := 104) rfl rfl) ?_
   refine Ab 28 rfl rfl (by kernel_rfl) (Bl (t := 104) rfl rfl) ?_
   refine Ab 29 rfl rfl (by kernel_rfl) (Ef (t := 88) rfl (GD rfl c6) rfl) ?_
   refine Pf 30 rfl (CC (GD rfl c6) rfl) ?_
   refine A1 (by kernel_rfl) ?_
   refine AB (.t7 3 5 7 8 9 75 114) ?_
   refine AA ?_
   refine DU rfl rfl ?_
   refine Aa ?_
   refine AB (.t6 3 5 7 8 9 75) ?_
   refine AV (AA (AJ ?_))
   refine Gt (Ax rfl rfl (IntWalk.i64_in _ (by first | omega | exact hk.1 | exact hk.2 | exact hi.1 | exact hi.2 | exact hse.1 | exact hse.2))) ?_
   refine Gm rfl ?_
   refine AQ (AB (.t6 3 5 7 8 9 75) ?_)
   refine Bz (i + 1) ?_ ?_ (.t6 75 3 5 7 8 9) (.refl _)
   · exact ⟨by omega, by omega⟩
   · omega
  refine Be (AW (AW (Ai ?_)))
  refine AB (.nil _) ?_
  refine AA (Gs (Ga rfl (AQ (AA (Ac ?_)))))
  refine AZ rfl (.tmp rfl .n) ?_
  intro w1 hS; refine ⟨?_, hS.Al⟩; rfl
 have c3p := kz c3
 have hal : UO y3 y18 y4 y19 a.BB := Su (ev := y5) (fv := y20) (by rw [y6]; exact AH.Mu l) (by rw [y6, AH.Mt]; omega) y21 (of_decide_eq_false c1) (XZ c3)
 refine Aa ?_
 refine AB (.t5 3 5 7 8 9) ?_
 refine AA (CD (Gm rfl (AQ (AA (Ag ?_)))))
 refine Bo (.t6 75 3 5 7 8 9) ?_
 refine CT (fun (i : Int) => 0 ≤ i ∧ i ≤ 4) (fun (i : Int) => (4 - i).toNat) (fun (i : Int) => [(75, .int .i64 i)]) (fun (i : Int) => []) (0) ?_ rfl rfl (fun i hI2 => ?_)
 · exact ⟨by omega, by omega⟩
 obtain ⟨hI21, hI22⟩ := hI2
 refine Gs (Gt (BA rfl rfl) (AQ (AA (Aq ?_))))
 refine Gc (fun c9 => ?_) (fun c9 => ?_)
 ·
  have c9p := kz c9
  have hi : 0 ≤ i ∧ i < 4 := ⟨by omega, by omega⟩
  refine Aa ?_
  refine AB (.t6 3 5 7 8 9 75) ?_
  refine AA (Aq (Ag (Gs (Gm rfl (Ga rfl (Gn (.t7 3 5 7 8 9 13 75) (Gs ?_)))))))
  refine Gm rfl (Gm rfl ?_)
  refine Ah rfl XY (.c rfl (.c rfl .n)) (.c .h .n) (FM y2 y18 i hi) (fun v32 B hv => ?_)
  obtain ⟨rfl, rfl⟩ := hv
  refine Gm rfl (Gt (AL rfl rfl) (Gt (AL rfl rfl) (Ga rfl (Ga rfl (Gn (.t8 3 5 7 8 9 13 14 75) (Aq ?_))))))
  refine BE (N := 31) [0, 0, 2, 7, 15, 31, 31, 95, 223, 511, 1023, 2047, 4095, 8191, 2047, 2047, 51199, 131071, 262143, 524287, 1048575, 2097151, 4194303, 8388607, 2097151, 2097151, 52428799, 134217727, 268435455, 536870911, 1073741823] mix (by kernel_rfl) rfl ?_
  refine Pf 0 rfl (AD rfl) (Pf 1 rfl (Aj Jb rfl) (Pf 2 rfl (AG rfl A5 .m7 Bk.l1 rfl rfl) (Pf 3 rfl (CN rfl rfl) (Pf 4 rfl (AD rfl) ?_))))
  refine Wa (b := (!decide (i = a.BB))) (fun c10 => ?_) (fun c10 => ?_)
  ·
   refine Ab 5 rfl rfl (by kernel_rfl) (EL (t := 88) rfl (GD rfl c10) (Cu (AD rfl))) ?_
   refine Ab 6 rfl rfl (by kernel_rfl) (EL (t := 88) rfl (GD rfl c10) (Cu (AD rfl))) ?_
   refine Ab 7 rfl rfl (by kernel_rfl) (EL (t := 88) rfl (GD rfl c10) (Cu (AN Y6 rfl rfl (by first | omega | exact hk.1 | exact hk.2 | exact hi.1 | exact hi.2 | exact hse.1 | exact hse.2) (by first | omega | exact hk.1 | exact hk.2 | exact hi.1 | exact hi.2 | exact hse.1 | exact hse.2)))) ?_
   refine Ab 8 rfl rfl (by kernel_rfl) (EL (t := 88) rfl (GD rfl c10) (Cu (AG rfl A5 .m4 ((AS.id (Ff B1).len (Ff B1).one).comp (AS.ar (n := 4) B1 (by first | omega | exact hk | exact hi | exact hse))) rfl rfl))) ?_
   refine Ab 9 rfl rfl (by kernel_rfl) (EL (t := 88) rfl (GD rfl c10) (Cu (CN rfl rfl))) ?_
   refine Ab 10 rfl rfl (by kernel_rfl) (EL (t := 88) rfl (GD rfl c10) (Cu (AD rfl))) ?_
   refine GB 11 94 rfl rfl rfl (fun q => AD rfl) ?_
   refine Ab 12 rfl rfl (by kernel_rfl) (DE (t := 94) rfl rfl (fun q => by have q1 := q; (try simp at q1); exact Cu (AN WG rfl (cF rfl q) (by first | omega | exact hk.1 | exact hk.2 | exact hi.1 | exact hi.2 | exact hse.1 | exact hse.2) (by first | omega | exact hk.1 | exact hk.2 | exact hi.1 | exact hi.2 | exact hse.1 | exact hse.2)))) ?_
   refine Ab 13 rfl rfl (by kernel_rfl) (DE (t := 94) rfl rfl (fun q => by have q1 := q; (try simp at q1); exact Cu (AY (X := P) (cF rfl q) Co .m6 ((AS.id (Ff Ap.fl).len (Ff Ap.fl).one).comp (AS.ar (n := 4) Ap.fl (by first | omega | exact hk | exact hi | exact hse))) rfl))) ?_
   refine GB 14 94 rfl rfl rfl (fun q => AD rfl) (GB 15 94 rfl rfl rfl (fun q => AD rfl) ?_)
   refine Af 16 rfl (by kernel_rfl) ?_
   refine Lw 94 rfl (fun c11 => ?_) (fun c11 => ?_)
   · exact absurd (c11.symm.trans (U9 hal (hK _ hi.1 hi.2) hi.1 hi.2 (by assumption))) (by decide)
   have c11p := kz c11
   refine Ht (t := 94) rfl (by first | rfl | exact GD rfl c11) rfl aN (.c (BX rfl (by rw [c11]; rfl)) (.c (BX rfl (by rw [c11]; rfl)) .n)) (.c .h (.c .h .n)) (JL y2 y18 y19 i hi (AH.Live.wait (V := y18) (ls := y19) (ev := y20) (by rw [y21, y6]; exact (AH.DK l).act a) hi.1 hi.2)) (fun v33 B hv => ?_)
   obtain ⟨y34, rfl, y35, rfl⟩ := hv
   refine Bf rfl ⟨?_, ?_⟩
   · exact (Pk (Pk (CQ rfl (DE (t := 94) rfl rfl (fun q => by have q1 := q; (try simp at q1); exact Cu (AY (X := P) (cF rfl q) Co .m7 ((AS.id (Ff Ap.fl).len (Ff Ap.fl).one).comp (AS.ar (n := 4) Ap.fl (by first | omega | exact hk | exact hi | exact hse))) rfl))) rfl rfl (CQ rfl (DE (t := 94) rfl rfl (fun q => by have q1 := q; (try simp at q1); exact Cu (AN WG rfl (cF rfl q) (by first | omega | exact hk.1 | exact hk.2 | exact hi.1 | exact hi.2 | exact hse.1 | exact hse.2) (by first | omega | exact hk.1 | exact hk.2 | exact hi.1 | exact hi.2 | exact hse.1 | exact hse.2)))) rfl rfl (CQ rfl (DE (t := 94) rfl rfl (fun q => Cu (AD rfl))) rfl rfl (Pk (Pk (Pk (Pk (Pk (Pk (Pk (Pk (Pk (Pk (Pk Ar))))))))))))))))
   refine Ab 17 rfl rfl (by kernel_rfl) (EL (t := 94) rfl (GD rfl c11) (JX (Dl bI (.c (BX rfl (by rw [c11]; rfl)) (.c rfl .n)) (fun w hS => IJ _ _ _ _ (Nat.le_trans (AH.Live.wait (V := y3) (ls := y4) (ev := y5) (by rw [y6]; exact AH.DK l) hi.1 hi.2) (by decide)) w ((Kn.Da (hK _ hi.1 hi.2).pm .m4) w hS) ((Kn.own .m2) w hS))))) ?_
   refine Ab 18 rfl rfl (by kernel_rfl) (EL (t := 94) rfl (GD rfl c11) (Cu (BR rfl))) ?_
   refine Ab 19 rfl rfl (by kernel_rfl) (EL (t := 88) rfl (GD rfl c10) (Cu (CC (GD rfl c11) rfl))) ?_
   refine Ab 20 rfl rfl (by kernel_rfl) (EL (t := 88) rfl (GD rfl c10) (Cu (AD rfl))) ?_
   refine GB 21 104 rfl rfl rfl (fun q => AD rfl) ?_
   refine Ab 22 rfl rfl (by kernel_rfl) (DE (t := 104) rfl rfl (fun q => by have q1 := q; (try simp at q1); exact Cu (AN Wx rfl (cF rfl q) (by first | omega | exact hk.1 | exact hk.2 | exact hi.1 | exact hi.2 | exact hse.1 | exact hse.2) (by first | omega | exact hk.1 | exact hk.2 | exact hi.1 | exact hi.2 | exact hse.1 | exact hse.2)))) ?_
   refine Ab 23 rfl rfl (by kernel_rfl) (DE (t := 104) rfl rfl (fun q => by have q1 := q; (try simp at q1); exact Cu (AY (X := Q) (cF rfl q) GH .m6 ((AS.id (Ff A6.fl).len (Ff A6.fl).one).comp (AS.ar (n := 4) A6.fl (by first | omega | exact hk | exact hi | exact hse))) rfl))) ?_
   refine GB 24 104 rfl rfl rfl (fun q => AD rfl) (GB 25 104 rfl rfl rfl (fun q => AD rfl) ?_)
   refine Af 26 rfl (by kernel_rfl) ?_
   refine Lw 104 rfl (fun c12 => ?_) (fun c12 => ?_)
   · exact absurd (c12.symm.trans (Uc hal (hK _ hi.1 hi.2) hi.1 hi.2 (by assumption))) (by decide)
   have c12p := kz c12
   refine Ht (t := 104) rfl (by first | rfl | exact GD rfl c12) rfl Z4 (.c (BX rfl (by rw [c12]; rfl)) (.c (BX rfl (by rw [c12]; rfl)) .n)) (.c .h (.c .h .n)) (JO y2 y18 y19 i hi (AH.Live.queue (V := y18) (ls := y19) (ev := y20) (by rw [y21, y6]; exact (AH.DK l).act a) hi.1 hi.2)) (fun v37 B hv => ?_)
   obtain ⟨y38, rfl, y39, rfl⟩ := hv
   refine Bf rfl ⟨?_, ?_⟩
   · exact (Pk (Pk (CQ rfl (DE (t := 104) rfl rfl (fun q => by have q1 := q; (try simp at q1); exact Cu (AY (X := Q) (cF rfl q) GH .m7 ((AS.id (Ff A6.fl).len (Ff A6.fl).one).comp (AS.ar (n := 4) A6.fl (by first | omega | exact hk | exact hi | exact hse))) rfl))) rfl rfl (CQ rfl (DE (t := 104) rfl rfl (fun q => by have q1 := q; (try simp at q1); exact Cu (AN Wx rfl (cF rfl q) (by first | omega | exact hk.1 | exact hk.2 | exact hi.1 | exact hi.2 | exact hse.1 | exact hse.2) (by first | omega | exact hk.1 | exact hk.2 | exact hi.1 | exact hi.2 | exact hse.1 | exact hse.2)))) rfl rfl (CQ rfl (DE (t := 104) rfl rfl (fun q => Cu (AD rfl))) rfl rfl (Pk (Pk (Pk (Pk (Pk (Pk (Pk (Pk (Pk (Pk (Pk (Pk (Pk (Pk (Pk (Pk (Pk (Pk (Pk (Pk Ar)))))))))))))))))))))))))
   refine Ab 27 rfl rfl (by kernel_rfl) (EL (t := 104) rfl (GD rfl c12) (JX (Dl bD (.c (BX rfl (by rw [c12]; rfl)) (.c rfl .n)) (fun w hS => IL _ _ _ _ (Nat.le_trans (AH.Live.queue (V := y3) (ls := y4) (ev := y5) (by rw [y6]; exact AH.DK l) hi.1 hi.2) (by decide)) w ((Kn.Da (hK _ hi.1 hi.2).qm .m5) w hS) ((Kn.own .m2) w hS))))) ?_
   refine Ab 28 rfl rfl (by kernel_rfl) (EL (t := 104) rfl (GD rfl c12) (Cu (BR rfl))) ?_
   refine Ab 29 rfl rfl (by kernel_rfl) (EL (t := 88) rfl (GD rfl c10) (Cu (CC (GD rfl c12) rfl))) ?_
   refine Pf 30 rfl (Cz (GD rfl c10) rfl) ?_
   refine A1 (by kernel_rfl) ?_
   refine AB (.t7 3 5 7 8 9 75 114) ?_
   refine AA ?_
   refine DU rfl (UH hal (hK _ hi.1 hi.2) hi.1 hi.2 (by assumption)) ?_
   refine Aa ?_
   refine AB (.t6 3 5 7 8 9 75) ?_
   refine AV (AA (AJ ?_))
   refine Gt (Ax rfl rfl (IntWalk.i64_in _ (by first | omega | exact hk.1 | exact hk.2 | exact hi.1 | exact hi.2 | exact hse.1 | exact hse.2))) ?_
   refine Gm rfl ?_
   refine AQ (AB (.t6 3 5 7 8 9 75) ?_)
   refine CJ (.c .h (.c .h (.c (.t (.t .h)) (.c (.t (.t .h)) (.c (.t (.t .h)) (.c (.t (.t .h)) (.c (.t (.t .h)) (.c (.t (.t .h)) .n)))))))) ?_
   refine Cf ?_
   refine Bz (i + 1) ?_ ?_ (.t6 75 3 5 7 8 9) (.refl _)
   · exact ⟨by omega, by omega⟩
   · omega
  refine Ab 5 rfl rfl (by kernel_rfl) (Ef (t := 88) rfl (GD rfl c10) rfl) ?_
  refine Ab 6 rfl rfl (by kernel_rfl) (Ef (t := 88) rfl (GD rfl c10) rfl) ?_
  refine Ab 7 rfl rfl (by kernel_rfl) (Ef (t := 88) rfl (GD rfl c10) rfl) ?_
  refine Ab 8 rfl rfl (by kernel_rfl) (Ef (t := 88) rfl (GD rfl c10) rfl) ?_
  refine Ab 9 rfl rfl (by kernel_rfl) (Ef (t := 88) rfl (GD rfl c10) rfl) ?_
  refine Ab 10 rfl rfl (by kernel_rfl) (Ef (t := 88) rfl (GD rfl c10) rfl) ?_
  refine Ab 11 rfl rfl (by kernel_rfl) (Bl (t := 94) rfl rfl) ?_
  refine Ab 12 rfl rfl (by kernel_rfl) (Bl (t := 94) rfl rfl) ?_
  refine Ab 13 rfl rfl (by kernel_rfl) (Bl (t := 94) rfl rfl) ?_
  refine Ab 14 rfl rfl (by kernel_rfl) (Bl (t := 94) rfl rfl) ?_
  refine Ab 15 rfl rfl (by kernel_rfl) (Bl (t := 94) rfl rfl) ?_
  refine Af 16 rfl (by kernel_rfl) ?_
  refine Dk (t := 94) rfl rfl rfl ?_
  refine Bf rfl ⟨?_, ?_⟩
  · exact (Pk (Pk (CQ rfl (Bl (t := 94) rfl rfl) rfl rfl (CQ rfl (Bl (t := 94) rfl rfl) rfl rfl (CQ rfl (Bl (t := 94) rfl rfl) rfl rfl (Pk (Pk (Pk (Pk (Pk (Pk (Pk (Pk (Pk (Pk (Pk Ar))))))))))))))))
  refine Ab 17 rfl rfl (by kernel_rfl) (Bl (t := 94) rfl rfl) ?_
  refine Ab 18 rfl rfl (by kernel_rfl) (Bl (t := 94) rfl rfl) ?_
  refine Ab 19 rfl rfl (by kernel_rfl) (Ef (t := 88) rfl (GD rfl c10) rfl) ?_
  refine Ab 20 rfl rfl (by kernel_rfl) (Ef (t := 88) rfl (GD rfl c10) rfl) ?_
  refine Ab 21 rfl rfl (by kernel_rfl) (Bl (t := 104) rfl rfl) ?_
  refine Ab 22 rfl rfl (by kernel_rfl) (Bl (t := 104) rfl rfl) ?_
  refine Ab 23 rfl rfl (by kernel_rfl) (Bl (t := 104) rfl rfl) ?_
  refine Ab 24 rfl rfl (by kernel_rfl) (Bl (t := 104) rfl rfl) ?_
  refine Ab 25 rfl rfl (by kernel_rfl) (Bl (t := 104) rfl rfl) ?_
  refine Af 26 rfl (by kernel_rfl) ?_
  refine Dk (t := 104) rfl rfl rfl ?_
  refine Bf rfl ⟨?_, ?_⟩
  · exact (Pk (Pk (CQ rfl (Bl (t := 104) rfl rfl) rfl rfl (CQ rfl (Bl (t := 104) rfl rfl) rfl rfl (CQ rfl (Bl (t := 104) rfl rfl) rfl rfl (Pk (Pk (Pk (Pk (Pk (Pk (Pk (Pk (Pk (Pk (Pk (Pk (Pk (Pk (Pk (Pk (Pk (Pk (Pk (Pk Ar)))))))))))))))))))))))))
  refine Ab 27 rfl rfl (by kernel_rfl) (Bl (t := 104) rfl rfl) ?_
  refine Ab 28 rfl rfl (by kernel_rfl) (Bl (t := 104) rfl rfl) ?_
  refine Ab 29 rfl rfl (by kernel_rfl) (Ef (t := 88) rfl (GD rfl c10) rfl) ?_
  refine Pf 30 rfl (CC (GD rfl c10) rfl) ?_
  refine A1 (by kernel_rfl) ?_
  refine AB (.t7 3 5 7 8 9 75 114) ?_
  refine AA ?_
  refine DU rfl rfl ?_
  refine Aa ?_
  refine AB (.t6 3 5 7 8 9 75) ?_
  refine AV (AA (AJ ?_))
  refine Gt (Ax rfl rfl (IntWalk.i64_in _ (by first | omega | exact hk.1 | exact hk.2 | exact hi.1 | exact hi.2 | exact hse.1 | exact hse.2))) ?_
  refine Gm rfl ?_
  refine AQ (AB (.t6 3 5 7 8 9 75) ?_)
  refine Bz (i + 1) ?_ ?_ (.t6 75 3 5 7 8 9) (.refl _)
  · exact ⟨by omega, by omega⟩
  · omega
 refine Be (AW (AW (Ai ?_)))
 refine AB (.nil _) ?_
 refine AA (Gs (Ga rfl (AQ (AA (Ac ?_)))))
 refine AZ rfl (.tmp rfl .n) ?_
 intro w1 hS; refine ⟨?_, hS.Al⟩; rfl
mutual
def LR {H : Type} : DataW H → List Value
  | .lit (.int k n) => [.int k n]
  | .lit (.string bs) => [.string ⟨bs.toArray⟩]
  | .lit (.bool b) => [.bool b]
  | .agg ps => RZ ps
  | _ => []
def RZ {H : Type} : List (DataW H) → List Value
  | [] => []
  | d :: r => LR d ++ RZ r
end
def RH {H : Type} : DataW H → List Value
  | .iface _ (.ptr (.agg ps)) => RZ ps
  | _ => []
noncomputable def low : Nat := (World.holding Tryz.prog default ⟨#[], #[], []⟩).heap.size
noncomputable def MN (os : Os) : World := { World.holding Tryz.prog os ⟨#[.cells (RH (Rows.laid_strconv_ErrRange : DataW Unit)).toArray 252, .cells (RH (Rows.laid_strconv_ErrSyntax : DataW Unit)).toArray 252], #[], []⟩ with heap := (((((((((World.holding Tryz.prog os ⟨#[.cells (RH (Rows.laid_strconv_ErrRange : DataW Unit)).toArray 252, .cells (RH (Rows.laid_strconv_ErrSyntax : DataW Unit)).toArray 252], #[], []⟩).heap.modify 8 fun o => match o with | .cells _ t frozen => .cells #[.iface 250 (.pointer (some ⟨low + 0, 0, none⟩))] t frozen | o => o).modify 7 fun o => match o with | .cells _ t frozen => .cells #[.iface 250 (.pointer (some ⟨low + 1, 0, none⟩))] t frozen | o => o).modify 3 fun o => match o with | .cells _ t frozen => .cells (LR (Rows.laid_math_bits_deBruijn32tab : DataW Unit)).toArray t frozen | o => o).modify 4 fun o => match o with | .cells _ t frozen => .cells (LR (Rows.laid_math_bits_deBruijn64tab : DataW Unit)).toArray t frozen | o => o).modify 2 fun o => match o with | .cells _ t frozen => .cells (LR (Rows.laid_internal_strconv_uint64pow10 : DataW Unit)).toArray t frozen | o => o).modify 6 fun o => match o with | .cells _ t frozen => .cells (LR (Rows.laid_unicode_utf8_acceptRanges : DataW Unit)).toArray t frozen | o => o).modify 0 fun o => match o with | .cells _ t frozen => .cells (LR (Rows.laid_inglenook_words_verbs : DataW Unit)).toArray t frozen | o => o).modify 5 fun o => match o with | .cells _ t frozen => .cells (LR (Rows.laid_unicode_utf8_first : DataW Unit)).toArray t frozen | o => o) }
set_option maxRecDepth 100000 in
theorem W0 (os : Os) : laidMet Tryz.prog Rows.topAloneRow.laid ((MN os).forCall (fun _ _ => 0) ⟨#[], #[.slice none 0 0, .agg (Bk.enc (default : Bk)).toArray], []⟩).memory :=
  laidMet_of_run' 8 (by kernel_rfl) (by kernel_rfl)
set_option maxRecDepth 100000 in
theorem reads (os : Os) {H : Type} (enc : TypeId × Value → H) : ∃ places, DataW.whole enc Tryz.prog ((MN os).forCall (fun _ _ => 0) ⟨#[], #[.slice none 0 0, .agg (Bk.enc (default : Bk)).toArray], []⟩).memory Tryz.f10.params.toList Rows.topAloneSpec.vars false (#[.slice none 0 0, .agg (Bk.enc (default : Bk)).toArray] : Array Value).toList 8 = some ([.nil, .agg [.lit (.int .i64 0), .lit (.int .i64 0), .lit (.int .i64 0), .lit (.string [])]], [], places) := ⟨[], by kernel_rfl⟩
set_option maxRecDepth 100000 in
theorem NS (os : Os) (started : os.Started) (H : Type) (enc : TypeId × Value → H) (F : Stop.Interp) :
    ReturnsInHanded {} Tryz.checked os 10 .any ((OpenSpec.ofChange Rows.topAloneSpec).preRow enc Tryz.prog Tryz.f10 Rows.topAloneRow.domain false Rows.topAloneRow.laid) (((OpenSpec.ofChange Rows.topAloneSpec).at F).post enc Tryz.prog Tryz.f10 false true false false) := by
  obtain ⟨places, hx⟩ := reads os enc
  refine returnsInHanded_of_row (C := Tryz.checked) (s := (OpenSpec.ofChange Rows.topAloneSpec)) own started (by kernel_rfl) Tryz.func10
    (witness_row_at (enc := enc) (C := Tryz.checked) false (MN os) #[.slice none 0 0, .agg (Bk.enc (default : Bk)).toArray] rfl (by kernel_rfl) (by kernel_rfl) (by kernel_rfl)
      (OpenSpec.preRow_of_cond 8 hx (by kernel_rfl) (fun k hk => by cases hk) (by kernel_rfl) (W0 os))) ?_
  intro W base args ds gs before hval hW _ hcond hsz hL _ _
  refine Wt (B := 4) laidOut (by kernel_rfl) Tryz.underlying4 (by kernel_rfl) rfl (fun ds h => by rw [Tryz.params10] at h; match ds, h with | [d1, d2], _ => rfl) hW ?_
  obtain ⟨p, q, hA, hV, _, _, _⟩ := hW
  rw [Tryz.params10] at hA
  obtain ⟨v0, vs0, d0, ds0, p0, q0, hv0, rfl, rfl, hd0, hA⟩ := trodAll_cons hA
  obtain ⟨v1, vs1, d1, ds1, p1, q1, hv1, rfl, rfl, hd1, hA⟩ := trodAll_cons hA
  obtain ⟨hvn, rfl, rfl⟩ := trodAll_nil hA
  obtain rfl : args = #[v0, v1] := by cases args; simp_all
  obtain ⟨f, rfl, w0⟩ := Ys Tryz.underlying22 (hval 0 _ _ rfl rfl) (by kernel_rfl) (by decide) Bk.fl cw hd0
  obtain ⟨a, rfl, w1⟩ := Y0 (P := Tryz.prog) (t := 41) (by rw [Tryz.underlying41]) (hval 1 _ _ rfl rfl) cw hd1
  obtain ⟨_, l, r0, hl0, k0, hm0, hw0⟩ := w0
  exact Lu _ _ (by exact TF Tryz.underlying22 Tryz.underlying41 rfl Tryz.underlying9 (by kernel_rfl) (by kernel_rfl) hd0 r0 (QY hsz (j := 0) rfl rfl)) _ (by exact Vl (i := 3) (o := 3) (s := a.bytes) Tryz.underlying41 rfl Tryz.underlying9 (by kernel_rfl) hd1 rfl (QY hsz (j := 1) rfl rfl)) W r0 (Yf hL E2 (by kernel_rfl) (by kernel_rfl) Tryz.underlying205 Tryz.underlying173 (by kernel_rfl) (by kernel_rfl)) (ZD hL GY (by kernel_rfl) (by kernel_rfl) Tryz.underlying133 Tryz.underlying9 (by kernel_rfl) (by kernel_rfl)) (eV hL Hb rfl (by kernel_rfl) (by kernel_rfl) Tryz.underlying109) (eV hL Hz rfl (by kernel_rfl) (by kernel_rfl) Tryz.underlying109)
theorem Pa : Rows.TopAloneSaid :=
  OpenClaim.holds_of_cond 10 Tryz.f10 rfl rfl rfl rfl rfl rfl rfl ⟨rfl, rfl, rfl, rfl, rfl⟩ rfl rfl rfl rfl rfl (by kernel_rfl) Tryz.func10 (by kernel_rfl)
    (of_decide_eq_true (by kernel_rfl)) (by unfold Func.isWrapper; first | (rw [if_pos (by decide +kernel)]; kernel_rfl) | (rw [if_neg (by decide +kernel)]; exact ⟨rfl, rfl⟩))
    (fun os started H enc _ F => by rw [OpenClaim.pre_eq_preRow]; exact NS os started H enc F)
theorem Vd (f : FuncId) (fn : Func) (hf : Tryz.pinned.checked.prog.funcNamed "inglenook/inglenooktop.TopAlone" = some f) (hfn : Tryz.pinned.checked.prog.funcs[f]? = some fn) :
    true = Tryz.pinned.checked.prog.looks [] ∧ ∀ (j : Nat) t, fn.params[j]? = some t → Tryz.pinned.checked.prog.wantsStandIn t = false := by
  obtain rfl : f = 10 := Option.some.inj ((show Tryz.prog.funcNamed "inglenook/inglenooktop.TopAlone" = some 10 by kernel_rfl).symm.trans hf) |>.symm
  obtain rfl : fn = Tryz.f10 := (Option.some.inj (Tryz.func10.symm.trans hfn)).symm
  refine ⟨by kernel_rfl, fun j t ht => ?_⟩
  rw [Tryz.params10] at ht
  have hm : t ∈ [22, 41] := by simpa using Array.mem_of_getElem? ht
  have hall : ([22, 41].all fun u => !Tryz.prog.wantsStandIn u) = true := by kernel_rfl
  exact (show Tryz.prog.wantsStandIn t = false by simpa using List.all_eq_true.1 hall t hm)
theorem topAlone_holds : Rows.TopAloneCardSaid :=
  Claim7.holds_tied_plain_at .later [] _ _ _ _ Pa (fun _ h => by cases h) (by kernel_rfl) (fun _ h => by cases h) topAlone_row_tie rfl ⟨rfl, rfl⟩ (by kernel_rfl) rfl Vd (by kernel_rfl)
end Go.Proofs.YtoidpggbbfncpaaGreatDoor
