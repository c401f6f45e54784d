/- For every input the law TopSilent returns true. No condition. -/
import Derived.Test.YtoidpggbbfncpaaGreatDoorCards
import Derived.Test.YtoidpggbbfncpaaGreatDoorTie
import Derived.Deep.DeepHandedRow
import Derived.Test.YtoidpggbbfncpaaGreatDoorRows
import Derived.Test.YtoidpggbbfncpaaGreatDoorTopSilentWalks
import Derived.Test.YtoidpggbbfncpaaGreatDoorTopSilentWalks2
import Derived.Test.YtoidpggbbfncpaaGreatDoorTopSilentWalks3
import Derived.Test.YtoidpggbbfncpaaGreatDoorTopSilentWalks4
import Derived.Test.YtoidpggbbfncpaaGreatDoorTopSilentWalks5
import Derived.Test.YtoidpggbbfncpaaGreatDoorTopSilentWalks6
import Derived.Test.YtoidpggbbfncpaaGreatDoorTopSilentEc3
import Derived.Test.YtoidpggbbfncpaaGreatDoorTopSilentRa1
import Derived.Test.YtoidpggbbfncpaaGreatDoorTopSilentRb1
import Derived.Test.YtoidpggbbfncpaaGreatDoorTopSilentRc1
set_option linter.unusedSimpArgs false
set_option linter.unusedVariables false
set_option maxRecDepth 100000
set_option maxHeartbeats 1000000
namespace Go.Proofs.YtoidpggbbfncpaaGreatDoor
open Go Go.Ing Go.RowKit Go.ChangeShapes Go.WideShapes Go.ChangeAt
theorem own : ownKnob Tryz.prog.godebug = none := by kernel_rfl
theorem laidOut : laidOutB Tryz.prog = true := by kernel_rfl
theorem FL : (Rows.laid_internal_strconv_uint64pow10 : DataW Unit) = Lib.tabData .u64 Lib.pow10Tab := by kernel_rfl
theorem E1 : ("internal/strconv.uint64pow10", (Lib.tabData .u64 Lib.pow10Tab : DataW Unit)) ∈ Rows.topSilentRow.laid := FL ▸ (.tail _ (.tail _ (.head _)))
theorem Gu : (Rows.laid_inglenook_words_verbs : DataW Unit) = Ly AI.G2 := by kernel_rfl
theorem GW : ("inglenook/words.verbs", (Ly AI.G2 : DataW Unit)) ∈ Rows.topSilentRow.laid := Gu ▸ (.tail _ (.tail _ (.tail _ (.tail _ (.tail _ (.tail _ (.head _)))))))
theorem Hl : ("strconv.ErrSyntax", (Rows.laid_strconv_ErrSyntax : DataW Unit)) ∈ Rows.topSilentRow.laid := .tail _ (.tail _ (.tail _ (.tail _ (.tail _ (.head _)))))
theorem H0 : ("strconv.ErrRange", (Rows.laid_strconv_ErrRange : DataW Unit)) ∈ Rows.topSilentRow.laid := .tail _ (.tail _ (.tail _ (.tail _ (.head _))))
theorem eh {H : Type} {enc : TypeId × Value → H} {w : World} : Dc H enc Tryz.prog w (A0) Gj 3 := bT Tryz.underlying3
theorem fg {H : Type} {enc : TypeId × Value → H} {w : World} : Dc H enc Tryz.prog w (A9) Kx 9 := WR Tryz.underlying9
theorem cq {H : Type} {enc : TypeId × Value → H} {w : World} : Dc H enc Tryz.prog w (BF.enc) BF.wf 41 := BF.dc Tryz.underlying41 (by kernel_rfl) rfl (by kernel_rfl) eh rfl (by kernel_rfl) eh rfl (by kernel_rfl) eh rfl (by kernel_rfl) fg
theorem LH {t0 t1 : Nat} (f g : Hd) (l lm : List BF) (z : Int) (hu : ∀ a ∈ l, a.bytes.length ≤ 140737488351232) (hm : ∀ a ∈ lm, a.bytes.length ≤ 140737488351232) (w : World) (r0 : Rd w f t0 4 (l.flatMap BF.enc)) (r1 : Rd w g t1 4 (lm.flatMap BF.enc)) (gl0 : GV 2 GO w) (gl1 : GV 0 AI.DT w) (gl2 : HI 7 w) (gl3 : HI 8 w) : Ee Tryz.prog 9 #[f.val, g.val, .int .i64 z] w fun v w' => v = .bool true ∧ B9 w w' := by
 have hfl := r0.K5 BF.fl (by decide)
 have hgl := r1.K5 BF.fl (by decide)
 have hz : 0 ≤ (max 0 (min z 3)) ∧ (max 0 (min z 3)) < 4 := by omega
 refine Ao [] [] Tryz.func9 rfl rfl rfl (St.start w []) ?_
 refine Gs (Ga rfl (Gn (.t3 0 1 2) (Gs (Gm rfl (Gt (Ki rfl rfl) (Gt (Kh rfl rfl) (Ga rfl ?_)))))))
 refine Gn (.t3 0 1 2) (CH ?_)
 refine BE rfl en .n (fun w hS => Nr w (gl0.st hS) (gl1.st hS) (gl2.st hS) (gl3.st hS)) ?_
 refine Gt (BX rfl) (Gn (.t4 0 1 2 22) ?_)
 refine EK rfl rfl ?_
 refine Aa ?_
 refine AB (.t3 0 1 2) ?_
 refine AA (Gs ?_)
 refine Ah rfl aO .n .n (Hb ) (fun v1 B hv => ?_)
 obtain ⟨y2, y3, y4, y5, rfl, y6, rfl⟩ := hv
 refine Ah rfl aO .n .n (Hb ) (fun v8 B hv => ?_)
 obtain ⟨y9, y10, y11, y12, rfl, y13, rfl⟩ := hv
 refine Ga rfl (Ga rfl (Gn (.t5 0 1 2 7 8) (CH (Ga rfl (AT (AA (Ak ?_)))))))
 refine Bt (.t6 9 0 1 2 7 8) ?_
 refine BZ (.t (.t (.t (.t (.t .h))))) ?_
 refine BZ (.t (.t (.t (.t (.t .h))))) ?_
 refine BZ (.t (.t (.t (.t (.t .h))))) ?_
 refine BZ (.t (.t (.t (.t (.t .h))))) ?_
 refine BZ (.t (.t (.t (.t (.t .h))))) ?_
 refine BZ (.t (.t (.t (.t (.t .h))))) ?_
 refine Yi (fun (k : Int) (V1 : AL) (ls1 : Vector BI 4) (ev1 : List Ing.Event) (V2 : AL) (ls2 : Vector BI 4) (ev2 : List Ing.Event) => 0 ≤ k ∧ k ≤ 150 ∧ k ≤ (l.length : Int) ∧ AH.bd (max 0 (min z 3)) k (A4 V1 ls1 ev1) (A4 V2 ls2 ev2)) (fun (k : Int) (V1 : AL) (ls1 : Vector BI 4) (ev1 : List Ing.Event) (V2 : AL) (ls2 : Vector BI 4) (ev2 : List Ing.Event) => (150 - k).toNat) (fun (k : Int) (V1 : AL) (ls1 : Vector BI 4) (ev1 : List Ing.Event) (V2 : AL) (ls2 : Vector BI 4) (ev2 : List Ing.Event) => [(9, .int .i64 k)]) (fun (k : Int) (V1 : AL) (ls1 : Vector BI 4) (ev1 : List Ing.Event) (V2 : AL) (ls2 : Vector BI 4) (ev2 : List Ing.Event) => [Af.box y9 101 (AL.enc V2), Af.D0 (CJ 9 (AL.Ar V2) ls2), Af.own (AL.last V2) 56 16 (ev2.flatMap Ing.Event.enc), Af.box y2 101 (AL.enc V1), Af.D0 (CJ 9 (AL.Ar V1) ls1), Af.own (AL.last V1) 56 16 (ev1.flatMap Ing.Event.enc)]) (0) (y3) (y4) (y5) (y10) (y11) (y12) ?_ rfl rfl (fun k V1 ls1 ev1 V2 ls2 ev2 hI1 => ?_)
 · exact ⟨by omega, by omega, by omega, by rw [y6, y13]; exact .new _⟩
 obtain ⟨hI11, hI12, hI13, hI14⟩ := hI1
 refine CH (Gm rfl (Gm rfl (Gt (Av rfl Tryz.underlying22 rfl) (Gt (BC rfl rfl) (Gm rfl (Bg 29 rfl rfl (fun q => AD rfl) (Bg 29 rfl rfl (fun q => BC (Bc rfl q) rfl) ?_)))))))
 refine Gt (BM rfl rfl (fun h => h)) (Gn (.t7 0 1 2 7 8 9 32) ?_)
 refine Gc (fun c1 => ?_) (fun c1 => ?_)
 ·
  have c1p := kz c1
  refine Aa ?_
  refine AB (.t6 0 1 2 7 8 9) ?_
  refine AA (Au (Ak (Gs (Gm rfl (Gm rfl ?_)))))
  refine Gt (Bs bq (by decide) (Kn.HJ r0) rfl rfl (by omega) (by omega)) ?_
  refine Gt (Qr rfl Cm (by decide) BF.fl (Kn.HJ r0) (by omega)) ?_
  refine A6 rfl Xk rfl (fun b1 => ?_)
  refine AO (AJ (AQ.id BF.fl.len BF.fl.one) rfl rfl rfl ZN rfl .h) ?_
  refine Gn (.t7 0 1 2 7 8 9 10) (Gs (Gt (AU rfl Cm .m0 (AQ.id BF.fl.len BF.fl.one) rfl) ?_))
  refine A6 rfl Xk rfl (fun b2 => ?_)
  refine AO (AJ (AQ.id BF.fl.len BF.fl.one) rfl rfl rfl ZN rfl .h) ?_
  refine Gn (.t8 0 1 2 7 8 9 10 11) ?_
  refine ZF (Lm := [_]) (fun (y : BF) => Typed (max 0 (min z 3)) (l.getD k.toNat default) y ∧ y.bytes.length ≤ 140737488351232) (fun (y : BF) => []) (fun (y : BF) => [Af.box b2 41 y.enc]) (.t8 0 1 2 7 8 9 10 11) rfl ?_ (fun y hC => ?_)
  ·
   refine Gs (Gt (Aj LV rfl) (Gt (AG rfl A5 .m1 BF.l0 rfl rfl) (Gt (Ai rfl rfl) (Gm rfl (Bg 43 rfl rfl (fun q => Aj N0 rfl) (Bg 43 rfl rfl (fun q => AG (Bc rfl q) A5 .m1 BF.l1 rfl rfl) (Bg 43 rfl rfl (fun q => AD rfl) ?_)))))))
   refine Bg 43 rfl rfl (fun q => Cb (Bc rfl q) (Bc rfl q)) (Gt (BM rfl rfl (fun h => h)) (Gm rfl (Bg 49 rfl rfl (fun q => AD rfl) (Bg 49 rfl rfl (fun q => AD rfl) (Bg 49 rfl rfl (fun q => Av rfl Tryz.underlying22 (Bc rfl q)) (Bg 49 rfl rfl (fun q => BC (Bc rfl q) (Bc rfl q)) (Gt (BM rfl rfl (fun h => h)) ?_)))))))
   refine Gn (.t9 0 1 2 7 8 9 10 11 54) ?_
   refine Gc (fun c2 => ?_) (fun c2 => ?_)
   ·
    have c2p := kz c2
    have hcc := c2p
    have hkg : k < (lm.length : Int) := by omega
    refine AK (Gm rfl (Gm rfl ?_))
    refine Gt (Bs bq (by decide) (Kn.HJ r1) rfl rfl (by omega) (by omega)) ?_
    refine Gt (Yq Tp rfl) ?_
    refine Gt (ab rfl CK BF.fl BF.l3 (Kn.HJ r1) (by omega) rfl) ?_
    refine Gt (Aj Tp rfl) ?_
    refine AO (AJ BF.l3 rfl rfl rfl Et rfl .h) ?_
    refine AT (AB (.t8 0 1 2 7 8 9 10 11) ?_)
    refine VS _ ?_ (.t8 0 1 2 7 8 9 10 11) (.refl _)
    · exact ⟨Typed.other hcc.1.2 _, hm (lm.getD k.toNat default) (Fm (by omega))⟩
   have c2p := kz c2
   refine Aa ?_
   refine AB (.t8 0 1 2 7 8 9 10 11) ?_
   refine VS _ ?_ (.t8 0 1 2 7 8 9 10 11) (.refl _)
   · exact ⟨Typed.refl _ _, hu _ (Fm (d := default) (xs := l) (i := k.toNat) (by omega))⟩
  obtain ⟨hTy, hyb⟩ := hC
  refine BZ (.t (.t (.t (.t (.t (.t (.t .h))))))) ?_
  refine BZ (.t (.t (.t (.t (.t (.t (.t .h))))))) ?_
  refine BZ (.t (.t (.t (.t (.t (.t (.t .h))))))) ?_
  refine BZ (.t (.t (.t (.t (.t (.t (.t .h))))))) ?_
  refine BZ (.t (.t (.t (.t (.t (.t (.t .h))))))) ?_
  refine BZ (.t (.t (.t (.t (.t (.t (.t .h))))))) ?_
  refine ZT (Lm := [_, _, _, _, _, _]) (fun (V3 : AL) (ls3 : Vector BI 4) (ev3 : List Ing.Event) (V4 : AL) (ls4 : Vector BI 4) (ev4 : List Ing.Event) (q1 : Nat) (q2 : Nat) => A4 V3 ls3 ev3 = ((A4 V1 ls1 ev1).act (l.getD k.toNat default)).1 ∧ A4 V4 ls4 ev4 = ((A4 V2 ls2 ev2).act y).1) (fun (V3 : AL) (ls3 : Vector BI 4) (ev3 : List Ing.Event) (V4 : AL) (ls4 : Vector BI 4) (ev4 : List Ing.Event) (q1 : Nat) (q2 : Nat) => [(12, .pointer (some ⟨q1, 0, none⟩)), (13, .pointer (some ⟨q2, 0, none⟩))]) (fun (V3 : AL) (ls3 : Vector BI 4) (ev3 : List Ing.Event) (V4 : AL) (ls4 : Vector BI 4) (ev4 : List Ing.Event) (q1 : Nat) (q2 : Nat) => [Af.box q1 44 ((A4 V1 ls1 ev1).act (l.getD k.toNat default)).2.enc, Af.box q2 44 ((A4 V2 ls2 ev2).act y).2.enc, Af.box y9 101 (AL.enc V4), Af.D0 (CJ 9 (AL.Ar V4) ls4), Af.own (AL.last V4) 56 16 (ev4.flatMap Ing.Event.enc), Af.box y2 101 (AL.enc V3), Af.D0 (CJ 9 (AL.Ar V3) ls3), Af.own (AL.last V3) 56 16 (ev3.flatMap Ing.Event.enc)]) (.t7 0 1 2 7 8 9 10) rfl ?_ (fun V3 ls3 ev3 V4 ls4 ev4 q1 q2 hC => ?_)
  ·
   refine BN (N := 10) [0, 0, 3, 0, 0, 31, 0, 0, 255, 511] mix (by kernel_rfl) rfl ?_
   refine Pf 0 rfl (AD rfl) (Pf 1 rfl (AU rfl Cm .m7 (AQ.id BF.fl.len BF.fl.one) rfl) (Pf 3 rfl (AD rfl) (Pf 4 rfl (AU rfl Cm .m6 (AQ.id BF.fl.len BF.fl.one) rfl) ?_)))
   refine Oo 2 6 7 rfl rfl rfl (by kernel_rfl) ?_ ?_ ?_
   ·
    refine BB rfl JQ (.c rfl (.c rfl .n)) (.c (.t (.t (.t .h))) (.c (.t (.t (.t .h))) (.c (.t (.t (.t .h))) .n))) (CN y2 V1 ls1 ev1 (l.getD k.toNat default) hI14.f1.live (hu _ (Fm (d := default) (xs := l) (i := k.toNat) (by omega)))) (fun w hS => ⟨gl0.pull (by simp) hS (.c (.t (.t (.t .h))) (.c (.t (.t (.t .h))) (.c (.t (.t (.t .h))) .n))), gl1.pull (by simp) hS (.c (.t (.t (.t .h))) (.c (.t (.t (.t .h))) (.c (.t (.t (.t .h))) .n))), gl2.pull (by simp) hS (.c (.t (.t (.t .h))) (.c (.t (.t (.t .h))) (.c (.t (.t (.t .h))) .n))), gl3.pull (by simp) hS (.c (.t (.t (.t .h))) (.c (.t (.t (.t .h))) (.c (.t (.t (.t .h))) .n)))⟩) (fun v15 B hv => ?_)
    obtain ⟨y16, y17, y18, rfl, y19, rfl⟩ := hv
    refine BH rfl ⟨?_, ?_⟩
    · exact (Po rfl (AU rfl Cm .m6 (AQ.id BF.fl.len BF.fl.one) rfl) rfl rfl (Po rfl (AD rfl) rfl rfl (Pk (Pk Ac))))
    refine Oo 5 6 7 rfl rfl rfl (by kernel_rfl) ?_ ?_ ?_
    ·
     refine BB rfl JQ (.c rfl (.c rfl .n)) (.c (.t (.t (.t .h))) (.c (.t (.t (.t .h))) (.c (.t (.t (.t .h))) .n))) (CN y9 V2 ls2 ev2 y hI14.f2.live hyb) (fun w hS => ⟨gl0.pull (by simp) hS (.c (.t (.t (.t .h))) (.c (.t (.t (.t .h))) (.c (.t (.t (.t .h))) .n))), gl1.pull (by simp) hS (.c (.t (.t (.t .h))) (.c (.t (.t (.t .h))) (.c (.t (.t (.t .h))) .n))), gl2.pull (by simp) hS (.c (.t (.t (.t .h))) (.c (.t (.t (.t .h))) (.c (.t (.t (.t .h))) .n))), gl3.pull (by simp) hS (.c (.t (.t (.t .h))) (.c (.t (.t (.t .h))) (.c (.t (.t (.t .h))) .n)))⟩) (fun v20 B hv => ?_)
     obtain ⟨y21, y22, y23, rfl, y24, rfl⟩ := hv
     refine BH rfl ⟨?_, ?_⟩
     · exact (Pk (Pk (Pk (Pk Ac))))
     refine EV 6 7 rfl rfl (by kernel_rfl) ?_ ?_
     ·
      refine A6 rfl FK rfl (fun b3 => ?_)
      refine BH rfl ⟨?_, ?_⟩
      · exact (Po rfl (AU rfl Cm .m7 (AQ.id BF.fl.len BF.fl.one) rfl) rfl rfl (Po rfl (AD rfl) rfl rfl (Po rfl (AU rfl Cm .m8 (AQ.id BF.fl.len BF.fl.one) rfl) rfl rfl (Po rfl (AD rfl) rfl rfl Ac))))
      refine Ab 7 rfl (by kernel_rfl) ?_
      refine A6 rfl FK rfl (fun b4 => ?_)
      refine BH rfl ⟨?_, ?_⟩
      · exact (Po rfl (AU rfl Cm .m8 (AQ.id BF.fl.len BF.fl.one) rfl) rfl rfl (Po rfl (AD rfl) rfl rfl (Po rfl (AU rfl Cm (.tail _ .m8) (AQ.id BF.fl.len BF.fl.one) rfl) rfl rfl (Po rfl (AD rfl) rfl rfl Ac))))
      refine Ab 8 rfl (by kernel_rfl) ?_
      refine AO (AJ (AQ.id BG.fl.len BG.fl.one) rfl rfl rfl ET rfl (.t .h)) ?_
      refine A7 rfl ⟨?_, ?_⟩
      · exact (Pk (Pk (Pk (Pk Ac))))
      refine Ab 9 rfl (by kernel_rfl) ?_
      refine AO (AJ (AQ.id BG.fl.len BG.fl.one) rfl rfl rfl ET rfl .h) ?_
      refine A7 rfl ⟨?_, ?_⟩
      · exact (Pk (Pk (Pk (Pk Ac))))
      refine Az (by kernel_rfl) ?_
      refine AB (.t9 0 1 2 7 8 9 10 12 13) ?_
      refine Bx (.c (.t .h) (.c .h (.c .h (.c .h (.c .h (.c .h (.c .h (.c .h (.c .h (.c .h .n)))))))))) ?_
      refine B3 ?_
      refine FW (y16) (y17) (y18) (y21) (y22) (y23) (b3) (b4) ?_ (.t9 12 13 0 1 2 7 8 9 10) (.refl _)
      · exact ⟨y19, y24⟩
     ·
      refine A6 rfl FK rfl (fun b5 => ?_)
      refine BH rfl ⟨?_, ?_⟩
      · exact (Po rfl (AU rfl Cm .m7 (AQ.id BF.fl.len BF.fl.one) rfl) rfl rfl (Po rfl (AD rfl) rfl rfl (Po rfl (AU rfl Cm .m8 (AQ.id BF.fl.len BF.fl.one) rfl) rfl rfl (Po rfl (AD rfl) rfl rfl Ac))))
      refine Ab 6 rfl (by kernel_rfl) ?_
      refine A6 rfl FK rfl (fun b6 => ?_)
      refine BH rfl ⟨?_, ?_⟩
      · exact (Po rfl (AU rfl Cm .m8 (AQ.id BF.fl.len BF.fl.one) rfl) rfl rfl (Po rfl (AD rfl) rfl rfl (Po rfl (AU rfl Cm (.tail _ .m8) (AQ.id BF.fl.len BF.fl.one) rfl) rfl rfl (Po rfl (AD rfl) rfl rfl Ac))))
      refine Ab 8 rfl (by kernel_rfl) ?_
      refine AO (AJ (AQ.id BG.fl.len BG.fl.one) rfl rfl rfl ET rfl .h) ?_
      refine A7 rfl ⟨?_, ?_⟩
      · exact (Pk (Pk (Pk (Pk Ac))))
      refine Ab 9 rfl (by kernel_rfl) ?_
      refine AO (AJ (AQ.id BG.fl.len BG.fl.one) rfl rfl rfl ET rfl (.t .h)) ?_
      refine A7 rfl ⟨?_, ?_⟩
      · exact (Pk (Pk (Pk (Pk Ac))))
      refine Az (by kernel_rfl) ?_
      refine AB (.t9 0 1 2 7 8 9 10 12 13) ?_
      refine FW (y16) (y17) (y18) (y21) (y22) (y23) (b6) (b5) ?_ (.t9 12 13 0 1 2 7 8 9 10) (.refl _)
      · exact ⟨y19, y24⟩
    ·
     refine A6 rfl FK rfl (fun b7 => ?_)
     refine BH rfl ⟨?_, ?_⟩
     · exact (Po rfl (AU rfl Cm .m7 (AQ.id BF.fl.len BF.fl.one) rfl) rfl rfl (Po rfl (AD rfl) rfl rfl (Po rfl (AU rfl Cm .m8 (AQ.id BF.fl.len BF.fl.one) rfl) rfl rfl (Po rfl (AD rfl) rfl rfl Ac))))
     refine EV 5 7 rfl rfl (by kernel_rfl) ?_ ?_
     ·
      refine BB rfl JQ (.c rfl (.c rfl .n)) (.c (.t (.t (.t (.t .h)))) (.c (.t (.t (.t (.t .h)))) (.c (.t (.t (.t (.t .h)))) .n))) (CN y9 V2 ls2 ev2 y hI14.f2.live hyb) (fun w hS => ⟨gl0.pull (by simp) hS (.c (.t (.t (.t (.t .h)))) (.c (.t (.t (.t (.t .h)))) (.c (.t (.t (.t (.t .h)))) .n))), gl1.pull (by simp) hS (.c (.t (.t (.t (.t .h)))) (.c (.t (.t (.t (.t .h)))) (.c (.t (.t (.t (.t .h)))) .n))), gl2.pull (by simp) hS (.c (.t (.t (.t (.t .h)))) (.c (.t (.t (.t (.t .h)))) (.c (.t (.t (.t (.t .h)))) .n))), gl3.pull (by simp) hS (.c (.t (.t (.t (.t .h)))) (.c (.t (.t (.t (.t .h)))) (.c (.t (.t (.t (.t .h)))) .n)))⟩) (fun v25 B hv => ?_)
      obtain ⟨y26, y27, y28, rfl, y29, rfl⟩ := hv
      refine BH rfl ⟨?_, ?_⟩
      · exact (Pk (Pk (Pk (Pk Ac))))
      refine Ab 7 rfl (by kernel_rfl) ?_
      refine A6 rfl FK rfl (fun b8 => ?_)
      refine BH rfl ⟨?_, ?_⟩
      · exact (Po rfl (AU rfl Cm .m8 (AQ.id BF.fl.len BF.fl.one) rfl) rfl rfl (Po rfl (AD rfl) rfl rfl (Po rfl (AU rfl Cm (.tail _ .m8) (AQ.id BF.fl.len BF.fl.one) rfl) rfl rfl (Po rfl (AD rfl) rfl rfl Ac))))
      refine Ab 8 rfl (by kernel_rfl) ?_
      refine AO (AJ (AQ.id BG.fl.len BG.fl.one) rfl rfl rfl ET rfl (.t (.t (.t (.t .h))))) ?_
      refine A7 rfl ⟨?_, ?_⟩
      · exact (Pk (Pk (Pk (Pk Ac))))
      refine Ab 9 rfl (by kernel_rfl) ?_
      refine AO (AJ (AQ.id BG.fl.len BG.fl.one) rfl rfl rfl ET rfl .h) ?_
      refine A7 rfl ⟨?_, ?_⟩
      · exact (Pk (Pk (Pk (Pk Ac))))
      refine Az (by kernel_rfl) ?_
      refine AB (.t9 0 1 2 7 8 9 10 12 13) ?_
      refine Bx (.c (.t (.t (.t (.t .h)))) (.c .h (.c .h (.c .h (.c .h (.c .h (.c .h (.c .h (.c .h (.c .h .n)))))))))) ?_
      refine B3 ?_
      refine FW (y16) (y17) (y18) (y26) (y27) (y28) (b7) (b8) ?_ (.t9 12 13 0 1 2 7 8 9 10) (.refl _)
      · exact ⟨y19, y29⟩
     ·
      refine A6 rfl FK rfl (fun b9 => ?_)
      refine BH rfl ⟨?_, ?_⟩
      · exact (Po rfl (AU rfl Cm .m8 (AQ.id BF.fl.len BF.fl.one) rfl) rfl rfl (Po rfl (AD rfl) rfl rfl (Po rfl (AU rfl Cm (.tail _ .m8) (AQ.id BF.fl.len BF.fl.one) rfl) rfl rfl (Po rfl (AD rfl) rfl rfl Ac))))
      refine Ab 5 rfl (by kernel_rfl) ?_
      refine BB rfl JQ (.c rfl (.c rfl .n)) (.c (.t (.t (.t (.t (.t .h))))) (.c (.t (.t (.t (.t (.t .h))))) (.c (.t (.t (.t (.t (.t .h))))) .n))) (CN y9 V2 ls2 ev2 y hI14.f2.live hyb) (fun w hS => ⟨gl0.pull (by simp) hS (.c (.t (.t (.t (.t (.t .h))))) (.c (.t (.t (.t (.t (.t .h))))) (.c (.t (.t (.t (.t (.t .h))))) .n))), gl1.pull (by simp) hS (.c (.t (.t (.t (.t (.t .h))))) (.c (.t (.t (.t (.t (.t .h))))) (.c (.t (.t (.t (.t (.t .h))))) .n))), gl2.pull (by simp) hS (.c (.t (.t (.t (.t (.t .h))))) (.c (.t (.t (.t (.t (.t .h))))) (.c (.t (.t (.t (.t (.t .h))))) .n))), gl3.pull (by simp) hS (.c (.t (.t (.t (.t (.t .h))))) (.c (.t (.t (.t (.t (.t .h))))) (.c (.t (.t (.t (.t (.t .h))))) .n)))⟩) (fun v30 B hv => ?_)
      obtain ⟨y31, y32, y33, rfl, y34, rfl⟩ := hv
      refine BH rfl ⟨?_, ?_⟩
      · exact (Pk (Pk (Pk (Pk Ac))))
      refine Ab 8 rfl (by kernel_rfl) ?_
      refine AO (AJ (AQ.id BG.fl.len BG.fl.one) rfl rfl rfl ET rfl (.t (.t (.t (.t .h))))) ?_
      refine A7 rfl ⟨?_, ?_⟩
      · exact (Pk (Pk (Pk (Pk Ac))))
      refine Ab 9 rfl (by kernel_rfl) ?_
      refine AO (AJ (AQ.id BG.fl.len BG.fl.one) rfl rfl rfl ET rfl (.t (.t (.t .h)))) ?_
      refine A7 rfl ⟨?_, ?_⟩
      · exact (Pk (Pk (Pk (Pk Ac))))
      refine Az (by kernel_rfl) ?_
      refine AB (.t9 0 1 2 7 8 9 10 12 13) ?_
      refine Bx (.c (.t (.t (.t (.t .h)))) (.c (.t (.t (.t .h))) (.c .h (.c .h (.c .h (.c .h (.c .h (.c .h (.c .h (.c .h .n)))))))))) ?_
      refine B3 ?_
      refine FW (y16) (y17) (y18) (y31) (y32) (y33) (b7) (b9) ?_ (.t9 12 13 0 1 2 7 8 9 10) (.refl _)
      · exact ⟨y19, y34⟩
    ·
     refine A6 rfl FK rfl (fun b10 => ?_)
     refine BH rfl ⟨?_, ?_⟩
     · exact (Po rfl (AU rfl Cm .m7 (AQ.id BF.fl.len BF.fl.one) rfl) rfl rfl (Po rfl (AD rfl) rfl rfl (Po rfl (AU rfl Cm .m8 (AQ.id BF.fl.len BF.fl.one) rfl) rfl rfl (Po rfl (AD rfl) rfl rfl Ac))))
     refine EV 5 6 rfl rfl (by kernel_rfl) ?_ ?_
     ·
      refine BB rfl JQ (.c rfl (.c rfl .n)) (.c (.t (.t (.t (.t .h)))) (.c (.t (.t (.t (.t .h)))) (.c (.t (.t (.t (.t .h)))) .n))) (CN y9 V2 ls2 ev2 y hI14.f2.live hyb) (fun w hS => ⟨gl0.pull (by simp) hS (.c (.t (.t (.t (.t .h)))) (.c (.t (.t (.t (.t .h)))) (.c (.t (.t (.t (.t .h)))) .n))), gl1.pull (by simp) hS (.c (.t (.t (.t (.t .h)))) (.c (.t (.t (.t (.t .h)))) (.c (.t (.t (.t (.t .h)))) .n))), gl2.pull (by simp) hS (.c (.t (.t (.t (.t .h)))) (.c (.t (.t (.t (.t .h)))) (.c (.t (.t (.t (.t .h)))) .n))), gl3.pull (by simp) hS (.c (.t (.t (.t (.t .h)))) (.c (.t (.t (.t (.t .h)))) (.c (.t (.t (.t (.t .h)))) .n)))⟩) (fun v35 B hv => ?_)
      obtain ⟨y36, y37, y38, rfl, y39, rfl⟩ := hv
      refine BH rfl ⟨?_, ?_⟩
      · exact (Pk (Pk (Pk (Pk Ac))))
      refine Ab 6 rfl (by kernel_rfl) ?_
      refine A6 rfl FK rfl (fun b11 => ?_)
      refine BH rfl ⟨?_, ?_⟩
      · exact (Po rfl (AU rfl Cm .m8 (AQ.id BF.fl.len BF.fl.one) rfl) rfl rfl (Po rfl (AD rfl) rfl rfl (Po rfl (AU rfl Cm (.tail _ .m8) (AQ.id BF.fl.len BF.fl.one) rfl) rfl rfl (Po rfl (AD rfl) rfl rfl Ac))))
      refine Ab 8 rfl (by kernel_rfl) ?_
      refine AO (AJ (AQ.id BG.fl.len BG.fl.one) rfl rfl rfl ET rfl .h) ?_
      refine A7 rfl ⟨?_, ?_⟩
      · exact (Pk (Pk (Pk (Pk Ac))))
      refine Ab 9 rfl (by kernel_rfl) ?_
      refine AO (AJ (AQ.id BG.fl.len BG.fl.one) rfl rfl rfl ET rfl (.t (.t (.t (.t .h))))) ?_
      refine A7 rfl ⟨?_, ?_⟩
      · exact (Pk (Pk (Pk (Pk Ac))))
      refine Az (by kernel_rfl) ?_
      refine AB (.t9 0 1 2 7 8 9 10 12 13) ?_
      refine Bx (.c .h (.c (.t (.t (.t .h))) (.c .h (.c .h (.c .h (.c .h (.c .h (.c .h (.c .h (.c .h .n)))))))))) ?_
      refine B3 ?_
      refine FW (y16) (y17) (y18) (y36) (y37) (y38) (b11) (b10) ?_ (.t9 12 13 0 1 2 7 8 9 10) (.refl _)
      · exact ⟨y19, y39⟩
     ·
      refine A6 rfl FK rfl (fun b12 => ?_)
      refine BH rfl ⟨?_, ?_⟩
      · exact (Po rfl (AU rfl Cm .m8 (AQ.id BF.fl.len BF.fl.one) rfl) rfl rfl (Po rfl (AD rfl) rfl rfl (Po rfl (AU rfl Cm (.tail _ .m8) (AQ.id BF.fl.len BF.fl.one) rfl) rfl rfl (Po rfl (AD rfl) rfl rfl Ac))))
      refine Ab 5 rfl (by kernel_rfl) ?_
      refine BB rfl JQ (.c rfl (.c rfl .n)) (.c (.t (.t (.t (.t (.t .h))))) (.c (.t (.t (.t (.t (.t .h))))) (.c (.t (.t (.t (.t (.t .h))))) .n))) (CN y9 V2 ls2 ev2 y hI14.f2.live hyb) (fun w hS => ⟨gl0.pull (by simp) hS (.c (.t (.t (.t (.t (.t .h))))) (.c (.t (.t (.t (.t (.t .h))))) (.c (.t (.t (.t (.t (.t .h))))) .n))), gl1.pull (by simp) hS (.c (.t (.t (.t (.t (.t .h))))) (.c (.t (.t (.t (.t (.t .h))))) (.c (.t (.t (.t (.t (.t .h))))) .n))), gl2.pull (by simp) hS (.c (.t (.t (.t (.t (.t .h))))) (.c (.t (.t (.t (.t (.t .h))))) (.c (.t (.t (.t (.t (.t .h))))) .n))), gl3.pull (by simp) hS (.c (.t (.t (.t (.t (.t .h))))) (.c (.t (.t (.t (.t (.t .h))))) (.c (.t (.t (.t (.t (.t .h))))) .n)))⟩) (fun v40 B hv => ?_)
      obtain ⟨y41, y42, y43, rfl, y44, rfl⟩ := hv
      refine BH rfl ⟨?_, ?_⟩
      · exact (Pk (Pk (Pk (Pk Ac))))
      refine Ab 8 rfl (by kernel_rfl) ?_
      refine AO (AJ (AQ.id BG.fl.len BG.fl.one) rfl rfl rfl ET rfl (.t (.t (.t .h)))) ?_
      refine A7 rfl ⟨?_, ?_⟩
      · exact (Pk (Pk (Pk (Pk Ac))))
      refine Ab 9 rfl (by kernel_rfl) ?_
      refine AO (AJ (AQ.id BG.fl.len BG.fl.one) rfl rfl rfl ET rfl (.t (.t (.t (.t .h))))) ?_
      refine A7 rfl ⟨?_, ?_⟩
      · exact (Pk (Pk (Pk (Pk Ac))))
      refine Az (by kernel_rfl) ?_
      refine AB (.t9 0 1 2 7 8 9 10 12 13) ?_
      refine Bx (.c (.t (.t (.t .h))) (.c (.t (.t (.t .h))) (.c .h (.c .h (.c .h (.c .h (.c .h (.c .h (.c .h (.c .h .n)))))))))) ?_
      refine B3 ?_
      refine FW (y16) (y17) (y18) (y41) (y42) (y43) (b12) (b10) ?_ (.t9 12 13 0 1 2 7 8 9 10) (.refl _)
      · exact ⟨y19, y44⟩
   ·
    refine A6 rfl FK rfl (fun b13 => ?_)
    refine BH rfl ⟨?_, ?_⟩
    · exact (Po rfl (AU rfl Cm .m7 (AQ.id BF.fl.len BF.fl.one) rfl) rfl rfl (Po rfl (AD rfl) rfl rfl (Po rfl (AU rfl Cm .m8 (AQ.id BF.fl.len BF.fl.one) rfl) rfl rfl (Po rfl (AD rfl) rfl rfl Ac))))
    refine EV 2 7 rfl rfl (by kernel_rfl) ?_ ?_
    ·
     refine BB rfl JQ (.c rfl (.c rfl .n)) (.c (.t (.t (.t (.t .h)))) (.c (.t (.t (.t (.t .h)))) (.c (.t (.t (.t (.t .h)))) .n))) (CN y2 V1 ls1 ev1 (l.getD k.toNat default) hI14.f1.live (hu _ (Fm (d := default) (xs := l) (i := k.toNat) (by omega)))) (fun w hS => ⟨gl0.pull (by simp) hS (.c (.t (.t (.t (.t .h)))) (.c (.t (.t (.t (.t .h)))) (.c (.t (.t (.t (.t .h)))) .n))), gl1.pull (by simp) hS (.c (.t (.t (.t (.t .h)))) (.c (.t (.t (.t (.t .h)))) (.c (.t (.t (.t (.t .h)))) .n))), gl2.pull (by simp) hS (.c (.t (.t (.t (.t .h)))) (.c (.t (.t (.t (.t .h)))) (.c (.t (.t (.t (.t .h)))) .n))), gl3.pull (by simp) hS (.c (.t (.t (.t (.t .h)))) (.c (.t (.t (.t (.t .h)))) (.c (.t (.t (.t (.t .h)))) .n)))⟩) (fun v45 B hv => ?_)
     obtain ⟨y46, y47, y48, rfl, y49, rfl⟩ := hv
     refine BH rfl ⟨?_, ?_⟩
     · exact (Po rfl (AU rfl Cm .m7 (AQ.id BF.fl.len BF.fl.one) rfl) rfl rfl (Po rfl (AD rfl) rfl rfl (Pk (Pk Ac))))
     refine EV 5 7 rfl rfl (by kernel_rfl) ?_ ?_
     ·
      refine BB rfl JQ (.c rfl (.c rfl .n)) (.c (.t (.t (.t (.t .h)))) (.c (.t (.t (.t (.t .h)))) (.c (.t (.t (.t (.t .h)))) .n))) (CN y9 V2 ls2 ev2 y hI14.f2.live hyb) (fun w hS => ⟨gl0.pull (by simp) hS (.c (.t (.t (.t (.t .h)))) (.c (.t (.t (.t (.t .h)))) (.c (.t (.t (.t (.t .h)))) .n))), gl1.pull (by simp) hS (.c (.t (.t (.t (.t .h)))) (.c (.t (.t (.t (.t .h)))) (.c (.t (.t (.t (.t .h)))) .n))), gl2.pull (by simp) hS (.c (.t (.t (.t (.t .h)))) (.c (.t (.t (.t (.t .h)))) (.c (.t (.t (.t (.t .h)))) .n))), gl3.pull (by simp) hS (.c (.t (.t (.t (.t .h)))) (.c (.t (.t (.t (.t .h)))) (.c (.t (.t (.t (.t .h)))) .n)))⟩) (fun v50 B hv => ?_)
      obtain ⟨y51, y52, y53, rfl, y54, rfl⟩ := hv
      refine BH rfl ⟨?_, ?_⟩
      · exact (Pk (Pk (Pk (Pk Ac))))
      refine Ab 7 rfl (by kernel_rfl) ?_
      refine A6 rfl FK rfl (fun b14 => ?_)
      refine BH rfl ⟨?_, ?_⟩
      · exact (Po rfl (AU rfl Cm .m8 (AQ.id BF.fl.len BF.fl.one) rfl) rfl rfl (Po rfl (AD rfl) rfl rfl (Po rfl (AU rfl Cm (.tail _ .m8) (AQ.id BF.fl.len BF.fl.one) rfl) rfl rfl (Po rfl (AD rfl) rfl rfl Ac))))
      refine Ab 8 rfl (by kernel_rfl) ?_
      refine AO (AJ (AQ.id BG.fl.len BG.fl.one) rfl rfl rfl ET rfl (.t (.t (.t (.t (.t (.t (.t .h)))))))) ?_
      refine A7 rfl ⟨?_, ?_⟩
      · exact (Pk (Pk (Pk (Pk Ac))))
      refine Ab 9 rfl (by kernel_rfl) ?_
      refine AO (AJ (AQ.id BG.fl.len BG.fl.one) rfl rfl rfl ET rfl .h) ?_
      refine A7 rfl ⟨?_, ?_⟩
      · exact (Pk (Pk (Pk (Pk Ac))))
      refine Az (by kernel_rfl) ?_
      refine AB (.t9 0 1 2 7 8 9 10 12 13) ?_
      refine Bx (.c (.t (.t (.t (.t (.t (.t (.t .h))))))) (.c .h (.c .h (.c .h (.c .h (.c .h (.c .h (.c .h (.c .h (.c .h .n)))))))))) ?_
      refine B3 ?_
      refine FW (y46) (y47) (y48) (y51) (y52) (y53) (b13) (b14) ?_ (.t9 12 13 0 1 2 7 8 9 10) (.refl _)
      · exact ⟨y49, y54⟩
     ·
      refine A6 rfl FK rfl (fun b15 => ?_)
      refine BH rfl ⟨?_, ?_⟩
      · exact (Po rfl (AU rfl Cm .m8 (AQ.id BF.fl.len BF.fl.one) rfl) rfl rfl (Po rfl (AD rfl) rfl rfl (Po rfl (AU rfl Cm (.tail _ .m8) (AQ.id BF.fl.len BF.fl.one) rfl) rfl rfl (Po rfl (AD rfl) rfl rfl Ac))))
      refine Ab 5 rfl (by kernel_rfl) ?_
      refine BB rfl JQ (.c rfl (.c rfl .n)) (.c (.t (.t (.t (.t (.t .h))))) (.c (.t (.t (.t (.t (.t .h))))) (.c (.t (.t (.t (.t (.t .h))))) .n))) (CN y9 V2 ls2 ev2 y hI14.f2.live hyb) (fun w hS => ⟨gl0.pull (by simp) hS (.c (.t (.t (.t (.t (.t .h))))) (.c (.t (.t (.t (.t (.t .h))))) (.c (.t (.t (.t (.t (.t .h))))) .n))), gl1.pull (by simp) hS (.c (.t (.t (.t (.t (.t .h))))) (.c (.t (.t (.t (.t (.t .h))))) (.c (.t (.t (.t (.t (.t .h))))) .n))), gl2.pull (by simp) hS (.c (.t (.t (.t (.t (.t .h))))) (.c (.t (.t (.t (.t (.t .h))))) (.c (.t (.t (.t (.t (.t .h))))) .n))), gl3.pull (by simp) hS (.c (.t (.t (.t (.t (.t .h))))) (.c (.t (.t (.t (.t (.t .h))))) (.c (.t (.t (.t (.t (.t .h))))) .n)))⟩) (fun v55 B hv => ?_)
      obtain ⟨y56, y57, y58, rfl, y59, rfl⟩ := hv
      refine BH rfl ⟨?_, ?_⟩
      · exact (Pk (Pk (Pk (Pk Ac))))
      refine Ab 8 rfl (by kernel_rfl) ?_
      refine AO (AJ (AQ.id BG.fl.len BG.fl.one) rfl rfl rfl ET rfl (.t (.t (.t (.t (.t (.t (.t .h)))))))) ?_
      refine A7 rfl ⟨?_, ?_⟩
      · exact (Pk (Pk (Pk (Pk Ac))))
      refine Ab 9 rfl (by kernel_rfl) ?_
      refine AO (AJ (AQ.id BG.fl.len BG.fl.one) rfl rfl rfl ET rfl (.t (.t (.t .h)))) ?_
      refine A7 rfl ⟨?_, ?_⟩
      · exact (Pk (Pk (Pk (Pk Ac))))
      refine Az (by kernel_rfl) ?_
      refine AB (.t9 0 1 2 7 8 9 10 12 13) ?_
      refine Bx (.c (.t (.t (.t (.t (.t (.t (.t .h))))))) (.c (.t (.t (.t .h))) (.c .h (.c .h (.c .h (.c .h (.c .h (.c .h (.c .h (.c .h .n)))))))))) ?_
      refine B3 ?_
      refine FW (y46) (y47) (y48) (y56) (y57) (y58) (b13) (b15) ?_ (.t9 12 13 0 1 2 7 8 9 10) (.refl _)
      · exact ⟨y49, y59⟩
    ·
     refine A6 rfl FK rfl (fun b16 => ?_)
     refine BH rfl ⟨?_, ?_⟩
     · exact (Po rfl (AU rfl Cm .m8 (AQ.id BF.fl.len BF.fl.one) rfl) rfl rfl (Po rfl (AD rfl) rfl rfl (Po rfl (AU rfl Cm (.tail _ .m8) (AQ.id BF.fl.len BF.fl.one) rfl) rfl rfl (Po rfl (AD rfl) rfl rfl Ac))))
     refine Ab 2 rfl (by kernel_rfl) ?_
     refine BB rfl JQ (.c rfl (.c rfl .n)) (.c (.t (.t (.t (.t (.t .h))))) (.c (.t (.t (.t (.t (.t .h))))) (.c (.t (.t (.t (.t (.t .h))))) .n))) (CN y2 V1 ls1 ev1 (l.getD k.toNat default) hI14.f1.live (hu _ (Fm (d := default) (xs := l) (i := k.toNat) (by omega)))) (fun w hS => ⟨gl0.pull (by simp) hS (.c (.t (.t (.t (.t (.t .h))))) (.c (.t (.t (.t (.t (.t .h))))) (.c (.t (.t (.t (.t (.t .h))))) .n))), gl1.pull (by simp) hS (.c (.t (.t (.t (.t (.t .h))))) (.c (.t (.t (.t (.t (.t .h))))) (.c (.t (.t (.t (.t (.t .h))))) .n))), gl2.pull (by simp) hS (.c (.t (.t (.t (.t (.t .h))))) (.c (.t (.t (.t (.t (.t .h))))) (.c (.t (.t (.t (.t (.t .h))))) .n))), gl3.pull (by simp) hS (.c (.t (.t (.t (.t (.t .h))))) (.c (.t (.t (.t (.t (.t .h))))) (.c (.t (.t (.t (.t (.t .h))))) .n)))⟩) (fun v60 B hv => ?_)
     obtain ⟨y61, y62, y63, rfl, y64, rfl⟩ := hv
     refine BH rfl ⟨?_, ?_⟩
     · exact (Po rfl (AU rfl Cm .m8 (AQ.id BF.fl.len BF.fl.one) rfl) rfl rfl (Po rfl (AD rfl) rfl rfl (Pk (Pk Ac))))
     refine Ab 5 rfl (by kernel_rfl) ?_
     refine BB rfl JQ (.c rfl (.c rfl .n)) (.c (.t (.t (.t (.t (.t .h))))) (.c (.t (.t (.t (.t (.t .h))))) (.c (.t (.t (.t (.t (.t .h))))) .n))) (CN y9 V2 ls2 ev2 y hI14.f2.live hyb) (fun w hS => ⟨gl0.pull (by simp) hS (.c (.t (.t (.t (.t (.t .h))))) (.c (.t (.t (.t (.t (.t .h))))) (.c (.t (.t (.t (.t (.t .h))))) .n))), gl1.pull (by simp) hS (.c (.t (.t (.t (.t (.t .h))))) (.c (.t (.t (.t (.t (.t .h))))) (.c (.t (.t (.t (.t (.t .h))))) .n))), gl2.pull (by simp) hS (.c (.t (.t (.t (.t (.t .h))))) (.c (.t (.t (.t (.t (.t .h))))) (.c (.t (.t (.t (.t (.t .h))))) .n))), gl3.pull (by simp) hS (.c (.t (.t (.t (.t (.t .h))))) (.c (.t (.t (.t (.t (.t .h))))) (.c (.t (.t (.t (.t (.t .h))))) .n)))⟩) (fun v65 B hv => ?_)
     obtain ⟨y66, y67, y68, rfl, y69, rfl⟩ := hv
     refine BH rfl ⟨?_, ?_⟩
     · exact (Pk (Pk (Pk (Pk Ac))))
     refine Ab 8 rfl (by kernel_rfl) ?_
     refine AO (AJ (AQ.id BG.fl.len BG.fl.one) rfl rfl rfl ET rfl (.t (.t (.t (.t (.t (.t (.t .h)))))))) ?_
     refine A7 rfl ⟨?_, ?_⟩
     · exact (Pk (Pk (Pk (Pk Ac))))
     refine Ab 9 rfl (by kernel_rfl) ?_
     refine AO (AJ (AQ.id BG.fl.len BG.fl.one) rfl rfl rfl ET rfl (.t (.t (.t (.t (.t (.t .h))))))) ?_
     refine A7 rfl ⟨?_, ?_⟩
     · exact (Pk (Pk (Pk (Pk Ac))))
     refine Az (by kernel_rfl) ?_
     refine AB (.t9 0 1 2 7 8 9 10 12 13) ?_
     refine Bx (.c (.t (.t (.t (.t (.t (.t (.t .h))))))) (.c (.t (.t (.t (.t (.t (.t .h)))))) (.c .h (.c .h (.c .h (.c .h (.c .h (.c .h (.c .h (.c .h .n)))))))))) ?_
     refine B3 ?_
     refine FW (y61) (y62) (y63) (y66) (y67) (y68) (b13) (b16) ?_ (.t9 12 13 0 1 2 7 8 9 10) (.refl _)
     · exact ⟨y64, y69⟩
   ·
    refine A6 rfl FK rfl (fun b17 => ?_)
    refine BH rfl ⟨?_, ?_⟩
    · exact (Po rfl (AU rfl Cm .m7 (AQ.id BF.fl.len BF.fl.one) rfl) rfl rfl (Po rfl (AD rfl) rfl rfl (Po rfl (AU rfl Cm .m8 (AQ.id BF.fl.len BF.fl.one) rfl) rfl rfl (Po rfl (AD rfl) rfl rfl Ac))))
    refine EV 2 6 rfl rfl (by kernel_rfl) ?_ ?_
    ·
     refine BB rfl JQ (.c rfl (.c rfl .n)) (.c (.t (.t (.t (.t .h)))) (.c (.t (.t (.t (.t .h)))) (.c (.t (.t (.t (.t .h)))) .n))) (CN y2 V1 ls1 ev1 (l.getD k.toNat default) hI14.f1.live (hu _ (Fm (d := default) (xs := l) (i := k.toNat) (by omega)))) (fun w hS => ⟨gl0.pull (by simp) hS (.c (.t (.t (.t (.t .h)))) (.c (.t (.t (.t (.t .h)))) (.c (.t (.t (.t (.t .h)))) .n))), gl1.pull (by simp) hS (.c (.t (.t (.t (.t .h)))) (.c (.t (.t (.t (.t .h)))) (.c (.t (.t (.t (.t .h)))) .n))), gl2.pull (by simp) hS (.c (.t (.t (.t (.t .h)))) (.c (.t (.t (.t (.t .h)))) (.c (.t (.t (.t (.t .h)))) .n))), gl3.pull (by simp) hS (.c (.t (.t (.t (.t .h)))) (.c (.t (.t (.t (.t .h)))) (.c (.t (.t (.t (.t .h)))) .n)))⟩) (fun v70 B hv => ?_)
     obtain ⟨y71, y72, y73, rfl, y74, rfl⟩ := hv
     refine BH rfl ⟨?_, ?_⟩
     · exact (Po rfl (AU rfl Cm .m7 (AQ.id BF.fl.len BF.fl.one) rfl) rfl rfl (Po rfl (AD rfl) rfl rfl (Pk (Pk Ac))))
     refine EV 5 6 rfl rfl (by kernel_rfl) ?_ ?_
     ·
      refine BB rfl JQ (.c rfl (.c rfl .n)) (.c (.t (.t (.t (.t .h)))) (.c (.t (.t (.t (.t .h)))) (.c (.t (.t (.t (.t .h)))) .n))) (CN y9 V2 ls2 ev2 y hI14.f2.live hyb) (fun w hS => ⟨gl0.pull (by simp) hS (.c (.t (.t (.t (.t .h)))) (.c (.t (.t (.t (.t .h)))) (.c (.t (.t (.t (.t .h)))) .n))), gl1.pull (by simp) hS (.c (.t (.t (.t (.t .h)))) (.c (.t (.t (.t (.t .h)))) (.c (.t (.t (.t (.t .h)))) .n))), gl2.pull (by simp) hS (.c (.t (.t (.t (.t .h)))) (.c (.t (.t (.t (.t .h)))) (.c (.t (.t (.t (.t .h)))) .n))), gl3.pull (by simp) hS (.c (.t (.t (.t (.t .h)))) (.c (.t (.t (.t (.t .h)))) (.c (.t (.t (.t (.t .h)))) .n)))⟩) (fun v75 B hv => ?_)
      obtain ⟨y76, y77, y78, rfl, y79, rfl⟩ := hv
      refine BH rfl ⟨?_, ?_⟩
      · exact (Pk (Pk (Pk (Pk Ac))))
      refine Ab 6 rfl (by kernel_rfl) ?_
      refine A6 rfl FK rfl (fun b18 => ?_)
      refine BH rfl ⟨?_, ?_⟩
      · exact (Po rfl (AU rfl Cm .m8 (AQ.id BF.fl.len BF.fl.one) rfl) rfl rfl (Po rfl (AD rfl) rfl rfl (Po rfl (AU rfl Cm (.tail _ .m8) (AQ.id BF.fl.len BF.fl.one) rfl) rfl rfl (Po rfl (AD rfl) rfl rfl Ac))))
      refine Ab 8 rfl (by kernel_rfl) ?_
      refine AO (AJ (AQ.id BG.fl.len BG.fl.one) rfl rfl rfl ET rfl .h) ?_
      refine A7 rfl ⟨?_, ?_⟩
      · exact (Pk (Pk (Pk (Pk Ac))))
      refine Ab 9 rfl (by kernel_rfl) ?_
      refine AO (AJ (AQ.id BG.fl.len BG.fl.one) rfl rfl rfl ET rfl (.t (.t (.t (.t (.t (.t (.t .h)))))))) ?_
      refine A7 rfl ⟨?_, ?_⟩
      · exact (Pk (Pk (Pk (Pk Ac))))
      refine Az (by kernel_rfl) ?_
      refine AB (.t9 0 1 2 7 8 9 10 12 13) ?_
      refine Bx (.c .h (.c (.t (.t (.t (.t (.t (.t .h)))))) (.c .h (.c .h (.c .h (.c .h (.c .h (.c .h (.c .h (.c .h .n)))))))))) ?_
      refine B3 ?_
      refine FW (y71) (y72) (y73) (y76) (y77) (y78) (b18) (b17) ?_ (.t9 12 13 0 1 2 7 8 9 10) (.refl _)
      · exact ⟨y74, y79⟩
     ·
      refine A6 rfl FK rfl (fun b19 => ?_)
      refine BH rfl ⟨?_, ?_⟩
      · exact (Po rfl (AU rfl Cm .m8 (AQ.id BF.fl.len BF.fl.one) rfl) rfl rfl (Po rfl (AD rfl) rfl rfl (Po rfl (AU rfl Cm (.tail _ .m8) (AQ.id BF.fl.len BF.fl.one) rfl) rfl rfl (Po rfl (AD rfl) rfl rfl Ac))))
      refine Ab 5 rfl (by kernel_rfl) ?_
      refine BB rfl JQ (.c rfl (.c rfl .n)) (.c (.t (.t (.t (.t (.t .h))))) (.c (.t (.t (.t (.t (.t .h))))) (.c (.t (.t (.t (.t (.t .h))))) .n))) (CN y9 V2 ls2 ev2 y hI14.f2.live hyb) (fun w hS => ⟨gl0.pull (by simp) hS (.c (.t (.t (.t (.t (.t .h))))) (.c (.t (.t (.t (.t (.t .h))))) (.c (.t (.t (.t (.t (.t .h))))) .n))), gl1.pull (by simp) hS (.c (.t (.t (.t (.t (.t .h))))) (.c (.t (.t (.t (.t (.t .h))))) (.c (.t (.t (.t (.t (.t .h))))) .n))), gl2.pull (by simp) hS (.c (.t (.t (.t (.t (.t .h))))) (.c (.t (.t (.t (.t (.t .h))))) (.c (.t (.t (.t (.t (.t .h))))) .n))), gl3.pull (by simp) hS (.c (.t (.t (.t (.t (.t .h))))) (.c (.t (.t (.t (.t (.t .h))))) (.c (.t (.t (.t (.t (.t .h))))) .n)))⟩) (fun v80 B hv => ?_)
      obtain ⟨y81, y82, y83, rfl, y84, rfl⟩ := hv
      refine BH rfl ⟨?_, ?_⟩
      · exact (Pk (Pk (Pk (Pk Ac))))
      refine Ab 8 rfl (by kernel_rfl) ?_
      refine AO (AJ (AQ.id BG.fl.len BG.fl.one) rfl rfl rfl ET rfl (.t (.t (.t .h)))) ?_
      refine A7 rfl ⟨?_, ?_⟩
      · exact (Pk (Pk (Pk (Pk Ac))))
      refine Ab 9 rfl (by kernel_rfl) ?_
      refine AO (AJ (AQ.id BG.fl.len BG.fl.one) rfl rfl rfl ET rfl (.t (.t (.t (.t (.t (.t (.t .h)))))))) ?_
      refine A7 rfl ⟨?_, ?_⟩
      · exact (Pk (Pk (Pk (Pk Ac))))
      refine Az (by kernel_rfl) ?_
      refine AB (.t9 0 1 2 7 8 9 10 12 13) ?_
      refine Bx (.c (.t (.t (.t .h))) (.c (.t (.t (.t (.t (.t (.t .h)))))) (.c .h (.c .h (.c .h (.c .h (.c .h (.c .h (.c .h (.c .h .n)))))))))) ?_
      refine B3 ?_
      refine FW (y71) (y72) (y73) (y81) (y82) (y83) (b19) (b17) ?_ (.t9 12 13 0 1 2 7 8 9 10) (.refl _)
      · exact ⟨y74, y84⟩
    ·
     refine A6 rfl FK rfl (fun b20 => ?_)
     refine BH rfl ⟨?_, ?_⟩
     · exact (Po rfl (AU rfl Cm .m8 (AQ.id BF.fl.len BF.fl.one) rfl) rfl rfl (Po rfl (AD rfl) rfl rfl (Po rfl (AU rfl Cm (.tail _ .m8) (AQ.id BF.fl.len BF.fl.one) rfl) rfl rfl (Po rfl (AD rfl) rfl rfl Ac))))
     refine Ab 2 rfl (by kernel_rfl) ?_
     refine BB rfl JQ (.c rfl (.c rfl .n)) (.c (.t (.t (.t (.t (.t .h))))) (.c (.t (.t (.t (.t (.t .h))))) (.c (.t (.t (.t (.t (.t .h))))) .n))) (CN y2 V1 ls1 ev1 (l.getD k.toNat default) hI14.f1.live (hu _ (Fm (d := default) (xs := l) (i := k.toNat) (by omega)))) (fun w hS => ⟨gl0.pull (by simp) hS (.c (.t (.t (.t (.t (.t .h))))) (.c (.t (.t (.t (.t (.t .h))))) (.c (.t (.t (.t (.t (.t .h))))) .n))), gl1.pull (by simp) hS (.c (.t (.t (.t (.t (.t .h))))) (.c (.t (.t (.t (.t (.t .h))))) (.c (.t (.t (.t (.t (.t .h))))) .n))), gl2.pull (by simp) hS (.c (.t (.t (.t (.t (.t .h))))) (.c (.t (.t (.t (.t (.t .h))))) (.c (.t (.t (.t (.t (.t .h))))) .n))), gl3.pull (by simp) hS (.c (.t (.t (.t (.t (.t .h))))) (.c (.t (.t (.t (.t (.t .h))))) (.c (.t (.t (.t (.t (.t .h))))) .n)))⟩) (fun v85 B hv => ?_)
     obtain ⟨y86, y87, y88, rfl, y89, rfl⟩ := hv
     refine BH rfl ⟨?_, ?_⟩
     · exact (Po rfl (AU rfl Cm .m8 (AQ.id BF.fl.len BF.fl.one) rfl) rfl rfl (Po rfl (AD rfl) rfl rfl (Pk (Pk Ac))))
     refine Ab 5 rfl (by kernel_rfl) ?_
     refine BB rfl JQ (.c rfl (.c rfl .n)) (.c (.t (.t (.t (.t (.t .h))))) (.c (.t (.t (.t (.t (.t .h))))) (.c (.t (.t (.t (.t (.t .h))))) .n))) (CN y9 V2 ls2 ev2 y hI14.f2.live hyb) (fun w hS => ⟨gl0.pull (by simp) hS (.c (.t (.t (.t (.t (.t .h))))) (.c (.t (.t (.t (.t (.t .h))))) (.c (.t (.t (.t (.t (.t .h))))) .n))), gl1.pull (by simp) hS (.c (.t (.t (.t (.t (.t .h))))) (.c (.t (.t (.t (.t (.t .h))))) (.c (.t (.t (.t (.t (.t .h))))) .n))), gl2.pull (by simp) hS (.c (.t (.t (.t (.t (.t .h))))) (.c (.t (.t (.t (.t (.t .h))))) (.c (.t (.t (.t (.t (.t .h))))) .n))), gl3.pull (by simp) hS (.c (.t (.t (.t (.t (.t .h))))) (.c (.t (.t (.t (.t (.t .h))))) (.c (.t (.t (.t (.t (.t .h))))) .n)))⟩) (fun v90 B hv => ?_)
     obtain ⟨y91, y92, y93, rfl, y94, rfl⟩ := hv
     refine BH rfl ⟨?_, ?_⟩
     · exact (Pk (Pk (Pk (Pk Ac))))
     refine Ab 8 rfl (by kernel_rfl) ?_
     refine AO (AJ (AQ.id BG.fl.len BG.fl.one) rfl rfl rfl ET rfl (.t (.t (.t (.t (.t (.t .h))))))) ?_
     refine A7 rfl ⟨?_, ?_⟩
     · exact (Pk (Pk (Pk (Pk Ac))))
     refine Ab 9 rfl (by kernel_rfl) ?_
     refine AO (AJ (AQ.id BG.fl.len BG.fl.one) rfl rfl rfl ET rfl (.t (.t (.t (.t (.t (.t (.t .h)))))))) ?_
     refine A7 rfl ⟨?_, ?_⟩
     · exact (Pk (Pk (Pk (Pk Ac))))
     refine Az (by kernel_rfl) ?_
     refine AB (.t9 0 1 2 7 8 9 10 12 13) ?_
     refine Bx (.c (.t (.t (.t (.t (.t (.t .h)))))) (.c (.t (.t (.t (.t (.t (.t .h)))))) (.c .h (.c .h (.c .h (.c .h (.c .h (.c .h (.c .h (.c .h .n)))))))))) ?_
     refine B3 ?_
     refine FW (y86) (y87) (y88) (y91) (y92) (y93) (b20) (b17) ?_ (.t9 12 13 0 1 2 7 8 9 10) (.refl _)
     · exact ⟨y89, y94⟩
  obtain ⟨hE1, hE2⟩ := hC
  refine Gs (Gm rfl (Gm rfl ?_))
  refine Ah rfl aa (.c rfl (.c rfl .n)) (.c (.t (.t (.t (.t (.t .h))))) .n) (IT y2 V3 (max 0 (min z 3)) hz) (fun v95 B hv => ?_)
  obtain ⟨rfl, rfl⟩ := hv
  refine Gm rfl (Gt (AM rfl rfl) (Gt (AM rfl rfl) (Ga rfl (Ga rfl (Gn (.t10 0 1 2 7 8 9 10 12 13 14) (Gs (Gm rfl ?_)))))))
  refine Gm rfl ?_
  refine Ah rfl aa (.c rfl (.c rfl .n)) (.c (.t (.t (.t .h))) .n) (IT y9 V4 (max 0 (min z 3)) hz) (fun v96 B hv => ?_)
  obtain ⟨rfl, rfl⟩ := hv
  refine Gm rfl (Gt (AM rfl rfl) (Gt (AM rfl rfl) (Ga rfl (Ga rfl (Gn (.t11 0 1 2 7 8 9 10 12 13 14 16) (CH (Gm rfl ?_)))))))
  refine Gm rfl ?_
  refine Ah rfl bL (.c rfl (.c rfl .n)) (.c (.t .h) (.c (.t (.t (.t (.t (.t .h))))) .n)) (JM y2 V3 ls3 (max 0 (min z 3)) hz (AH.Live.told (V := V3) (ls := ls3) (ev := ev3) (by rw [hE1]; exact (hI14.f1.act _).live) hz.1 hz.2)) (fun v97 B hv => ?_)
  obtain ⟨y98, rfl, y99, rfl⟩ := hv
  refine Gm rfl (Gm rfl ?_)
  refine Ah rfl bL (.c rfl (.c rfl .n)) (.c (.t (.t (.t .h))) (.c (.t (.t (.t (.t (.t .h))))) .n)) (JM y9 V4 ls4 (max 0 (min z 3)) hz (AH.Live.told (V := V4) (ls := ls4) (ev := ev4) (by rw [hE2]; exact (hI14.f2.act _).live) hz.1 hz.2)) (fun v101 B hv => ?_)
  obtain ⟨y102, rfl, y103, rfl⟩ := hv
  refine BE rfl bY (.c rfl (.c rfl .n)) (fun w hS => Ff _ _ _ _ (Nat.le_trans (AH.Live.told (V := V3) (ls := ls3) (ev := ev3) (by rw [hE1]; exact (hI14.f1.act _).live) hz.1 hz.2) (by decide)) w ((Kn.own .m5) w hS) ((Kn.own .m2) w hS)) ?_
  refine Gt (BX rfl) (Gm rfl (Bf 87 rfl rfl (fun q => AD rfl) (Bf 87 rfl rfl (fun q => AD rfl) (Bf 87 rfl rfl (fun q => Cb (cF rfl q) (cF rfl q)) ?_))))
  refine Gt (BU rfl rfl (fun h => by rw [h]; rfl)) ?_
  refine Gn (.t10 0 1 2 7 8 9 10 12 13 91) ?_
  refine Gc (fun c3 => ?_) (fun c3 => ?_)
  ·
   refine Gs (Ga rfl (Gn (.t1 6) (Ae (AE (AS (AE (AE ?_)))))))
   refine AS (AE ?_)
   refine AZ rfl (.tmp rfl .n) ?_
   intro w1 hS; refine ⟨?_, hS.Al⟩; rfl
  have c3p := kz c3
  have hN := YF hI14 (by omega) hz.1 hz.2 hE1 hE2 hTy c3
  have hRp := WQ hI14 (by omega) hz.1 hz.2 hTy
  refine Aa ?_
  refine AB (.t9 0 1 2 7 8 9 10 12 13) ?_
  refine AA (Gs (Gm rfl (Gm rfl ?_)))
  refine Ah rfl dQ (.c rfl (.c rfl .n)) (.c (.t (.t (.t .h))) (.c (.t (.t (.t .h))) .n)) (L6 y2 V3 ls3 (max 0 (min z 3)) hz (AH.Live.wait (V := V3) (ls := ls3) (ev := ev3) (by rw [hE1]; exact (hI14.f1.act _).live) hz.1 hz.2)) (fun v105 B hv => ?_)
  obtain ⟨y106, rfl, y107, rfl⟩ := hv
  refine Gm rfl (Gm rfl ?_)
  refine Ah rfl dQ (.c rfl (.c rfl .n)) (.c (.t (.t (.t .h))) (.c (.t (.t (.t .h))) .n)) (L6 y9 V4 ls4 (max 0 (min z 3)) hz (AH.Live.wait (V := V4) (ls := ls4) (ev := ev4) (by rw [hE2]; exact (hI14.f2.act _).live) hz.1 hz.2)) (fun v109 B hv => ?_)
  obtain ⟨y110, rfl, y111, rfl⟩ := hv
  refine BE rfl eH (.c rfl (.c rfl .n)) (fun w hS => L2 _ _ _ _ (Nat.le_trans (AH.Live.wait (V := V3) (ls := ls3) (ev := ev3) (by rw [hE1]; exact (hI14.f1.act _).live) hz.1 hz.2) (by decide)) w ((Kn.own .m5) w hS) ((Kn.own .m2) w hS)) ?_
  refine Gt (BX rfl) (Gm rfl (Bf 100 rfl rfl (fun q => AD rfl) (Bf 100 rfl rfl (fun q => AD rfl) ?_)))
  refine Uw 100 rfl (fun c4 => ?_) (fun c4 => ?_)
  · exact absurd (c4.symm.trans (W9 hN hz.1 hz.2)) (by decide)
  have c4p := kz c4
  refine LP (t := 100) rfl (by first | rfl | exact fC rfl c4) rfl bt (.c (Bc rfl (by rw [c4]; rfl)) (.c (Bc rfl (by rw [c4]; rfl)) .n)) (.c (.t (.t (.t .h))) (.c (.t (.t (.t .h))) .n)) (MB y2 V3 ls3 (max 0 (min z 3)) hz (AH.Live.queue (V := V3) (ls := ls3) (ev := ev3) (by rw [hE1]; exact (hI14.f1.act _).live) hz.1 hz.2)) (fun v113 B hv => ?_)
  obtain ⟨y114, rfl, y115, rfl⟩ := hv
  refine C3 (t := 100) rfl rfl rfl (AD rfl) ?_
  refine C3 (t := 100) rfl rfl rfl (AD rfl) ?_
  refine LP (t := 100) rfl (by first | rfl | exact fC rfl c4) rfl bt (.c rfl (.c rfl .n)) (.c (.t (.t (.t .h))) (.c (.t (.t (.t .h))) .n)) (MB y9 V4 ls4 (max 0 (min z 3)) hz (AH.Live.queue (V := V4) (ls := ls4) (ev := ev4) (by rw [hE2]; exact (hI14.f2.act _).live) hz.1 hz.2)) (fun v117 B hv => ?_)
  obtain ⟨y118, rfl, y119, rfl⟩ := hv
  refine Vg (t := 100) rfl rfl rfl eV (.c rfl (.c rfl .n)) (fun w hS => MG _ _ _ _ (Nat.le_trans (AH.Live.queue (V := V3) (ls := ls3) (ev := ev3) (by rw [hE1]; exact (hI14.f1.act _).live) hz.1 hz.2) (by decide)) w ((Kn.own .m5) w hS) ((Kn.own .m2) w hS)) ?_
  refine C3 (t := 100) rfl rfl rfl (BX rfl) ?_
  refine Gt (C1 rfl rfl) (Gm rfl (Bf 110 rfl rfl (fun q => Aj N0 rfl) (Bf 110 rfl rfl (fun q => AG (cF rfl q) A5 (.tail _ (.tail _ (.tail _ (.tail _ (.tail _ (.tail _ (.tail _ .m8))))))) BF.l1 rfl rfl) (Bf 110 rfl rfl (fun q => AD rfl) (Bf 110 rfl rfl (fun q => Ai (cF rfl q) (cF rfl q)) (Bf 110 rfl rfl (fun q => AD (cF rfl q)) ?_))))))
  refine Ct (t := 115) rfl rfl rfl (fun qc q => Aj LV rfl) ?_
  refine Ct (t := 115) rfl rfl rfl (fun qc q => AG (Bc rfl (by rw [qc, q]; rfl)) A5 (.tail _ (.tail _ (.tail _ (.tail _ (.tail _ (.tail _ (.tail _ .m8))))))) BF.l0 rfl rfl) ?_
  refine Ct (t := 115) rfl rfl rfl (fun qc q => Ai (Bc rfl (by rw [qc, q]; rfl)) rfl) ?_
  refine Bf 110 rfl rfl (fun q => BU (cF rfl q) rfl (fun h => by rw [q, h]; rfl)) ?_
  refine Bf 110 rfl rfl (fun q => AD (cF rfl q)) ?_
  refine C8 (t := 120) rfl rfl rfl (fun qc q => AU rfl IQ (.tail _ (.tail _ .m8)) (AQ.id BG.fl.len BG.fl.one) rfl) ?_
  refine C8 (t := 120) rfl rfl rfl (fun qc q => AU rfl IQ (.tail _ (.tail _ (.tail _ .m8))) (AQ.id BG.fl.len BG.fl.one) rfl) ?_
  refine C8 (t := 120) rfl rfl rfl (fun qc q => TT dy (by decide) (by kernel_rfl) (Bc rfl (by rw [qc, q]; rfl)) (Bc rfl (by rw [qc, q]; rfl))) ?_
  refine Bf 110 rfl rfl (fun q => BM (cF rfl q) rfl (fun h => by rw [q, h]; rfl)) ?_
  refine Gt (BU rfl rfl (fun h => by rw [h]; rfl)) ?_
  refine Gn (.t7 0 1 2 7 8 9 125) ?_
  refine EK rfl (Yz (YC hN hz.1 hz.2) hRp) ?_
  refine Aa ?_
  refine AB (.t6 0 1 2 7 8 9) ?_
  refine AW (AA (AK (Gm rfl ?_)))
  refine Gt (Ay rfl rfl (IntWalk.i64_in _ (by first | omega | exact hz.1 | exact hz.2))) ?_
  refine Ga rfl ?_
  refine AT (AB (.t6 0 1 2 7 8 9) ?_)
  refine Bx (.c .h (.c .h (.c (.t (.t (.t (.t (.t (.t (.t (.t (.t (.t .h)))))))))) (.c (.t .h) (.c (.t .h) (.c (.t (.t (.t (.t (.t (.t (.t (.t .h)))))))) .n)))))) ?_
  refine B3 ?_
  refine VX (k + 1) _ _ _ _ _ _ ?_ ?_ (.t6 9 0 1 2 7 8) (.refl _)
  · exact ⟨by omega, by omega, by omega, hN⟩
  · omega
 refine Bl (AY (AY (Am ?_)))
 refine AB (.nil _) ?_
 refine AA (Gs (Ga rfl (AT (AA (Ae ?_)))))
 refine AZ rfl (.tmp rfl .n) ?_
 intro w1 hS; refine ⟨?_, hS.Al⟩; rfl
mutual
def LN {H : Type} : DataW H → List Value
  | .lit (.int k n) => [.int k n]
  | .lit (.string bs) => [.string ⟨bs.toArray⟩]
  | .lit (.bool b) => [.bool b]
  | .agg ps => RC ps
  | _ => []
def RC {H : Type} : List (DataW H) → List Value
  | [] => []
  | d :: r => LN d ++ RC r
end
def Q5 {H : Type} : DataW H → List Value
  | .iface _ (.ptr (.agg ps)) => RC ps
  | _ => []
noncomputable def low : Nat := (World.holding Tryz.prog default ⟨#[], #[], []⟩).heap.size
noncomputable def Mr (os : Os) : World := { World.holding Tryz.prog os ⟨#[.cells (Q5 (Rows.laid_strconv_ErrRange : DataW Unit)).toArray 252, .cells (Q5 (Rows.laid_strconv_ErrSyntax : DataW Unit)).toArray 252], #[], []⟩ with heap := (((((((((World.holding Tryz.prog os ⟨#[.cells (Q5 (Rows.laid_strconv_ErrRange : DataW Unit)).toArray 252, .cells (Q5 (Rows.laid_strconv_ErrSyntax : DataW Unit)).toArray 252], #[], []⟩).heap.modify 8 fun o => match o with | .cells _ t frozen => .cells #[.iface 250 (.pointer (some ⟨low + 0, 0, none⟩))] t frozen | o => o).modify 7 fun o => match o with | .cells _ t frozen => .cells #[.iface 250 (.pointer (some ⟨low + 1, 0, none⟩))] t frozen | o => o).modify 3 fun o => match o with | .cells _ t frozen => .cells (LN (Rows.laid_math_bits_deBruijn32tab : DataW Unit)).toArray t frozen | o => o).modify 4 fun o => match o with | .cells _ t frozen => .cells (LN (Rows.laid_math_bits_deBruijn64tab : DataW Unit)).toArray t frozen | o => o).modify 2 fun o => match o with | .cells _ t frozen => .cells (LN (Rows.laid_internal_strconv_uint64pow10 : DataW Unit)).toArray t frozen | o => o).modify 6 fun o => match o with | .cells _ t frozen => .cells (LN (Rows.laid_unicode_utf8_acceptRanges : DataW Unit)).toArray t frozen | o => o).modify 0 fun o => match o with | .cells _ t frozen => .cells (LN (Rows.laid_inglenook_words_verbs : DataW Unit)).toArray t frozen | o => o).modify 5 fun o => match o with | .cells _ t frozen => .cells (LN (Rows.laid_unicode_utf8_first : DataW Unit)).toArray t frozen | o => o) }
set_option maxRecDepth 100000 in
theorem XQ (os : Os) : laidMet Tryz.prog Rows.topSilentRow.laid ((Mr os).forCall (fun _ _ => 0) ⟨#[], #[.slice none 0 0, .slice none 0 0, .int .i64 0], []⟩).memory :=
  laidMet_of_run' 8 (by kernel_rfl) (by kernel_rfl)
set_option maxRecDepth 100000 in
theorem reads (os : Os) {H : Type} (enc : TypeId × Value → H) : ∃ places, DataW.whole enc Tryz.prog ((Mr os).forCall (fun _ _ => 0) ⟨#[], #[.slice none 0 0, .slice none 0 0, .int .i64 0], []⟩).memory Tryz.f9.params.toList Rows.topSilentSpec.vars false (#[.slice none 0 0, .slice none 0 0, .int .i64 0] : Array Value).toList 8 = some ([.nil, .nil, .lit (.int .i64 0)], [], places) := ⟨[], by kernel_rfl⟩
set_option maxRecDepth 100000 in
theorem MV (os : Os) (started : os.Started) (H : Type) (enc : TypeId × Value → H) (F : Stop.Interp) :
    ReturnsInHanded {} Tryz.checked os 9 .any ((OpenSpec.ofChange Rows.topSilentSpec).preRow enc Tryz.prog Tryz.f9 Rows.topSilentRow.domain false Rows.topSilentRow.laid) (((OpenSpec.ofChange Rows.topSilentSpec).at F).post enc Tryz.prog Tryz.f9 false true false false) := by
  obtain ⟨places, hx⟩ := reads os enc
  refine returnsInHanded_of_row (C := Tryz.checked) (s := (OpenSpec.ofChange Rows.topSilentSpec)) own started (by kernel_rfl) Tryz.func9
    (witness_row_at (enc := enc) (C := Tryz.checked) false (Mr os) #[.slice none 0 0, .slice none 0 0, .int .i64 0] rfl (by kernel_rfl) (by kernel_rfl) (by kernel_rfl)
      (OpenSpec.preRow_of_cond 8 hx (by kernel_rfl) (fun k hk => by cases hk) (by kernel_rfl) (XQ os))) ?_
  intro W base args ds gs before hval hW _ hcond hsz hL _ _
  refine X3 (B := 4) laidOut (by kernel_rfl) Tryz.underlying4 (by kernel_rfl) rfl (fun ds h => by rw [Tryz.params9] at h; match ds, h with | [d1, d2, d3], _ => rfl) hW ?_
  obtain ⟨p, q, hA, hV, _, _, _⟩ := hW
  rw [Tryz.params9] at hA
  obtain ⟨v0, vs0, d0, ds0, p0, q0, hv0, rfl, rfl, hd0, hA⟩ := trodAll_cons hA
  obtain ⟨v1, vs1, d1, ds1, p1, q1, hv1, rfl, rfl, hd1, hA⟩ := trodAll_cons hA
  obtain ⟨v2, vs2, d2, ds2, p2, q2, hv2, rfl, rfl, hd2, hA⟩ := trodAll_cons hA
  obtain ⟨hvn, rfl, rfl⟩ := trodAll_nil hA
  obtain rfl : args = #[v0, v1, v2] := by cases args; simp_all
  obtain ⟨f, rfl, w0⟩ := VC Tryz.underlying22 (hval 0 _ _ rfl rfl) (by kernel_rfl) (by decide) BF.fl cq hd0
  obtain ⟨g, rfl, w1⟩ := VC Tryz.underlying22 (hval 1 _ _ rfl rfl) (by kernel_rfl) (by decide) BF.fl cq hd1
  obtain ⟨z, rfl, rfl, rfl, w2⟩ := open_int Tryz.underlying3 (hval 2 _ _ rfl rfl) hd2
  have w2 := bounds_i64 w2
  obtain ⟨_, l, r0, hl0, k0, hm0, hw0⟩ := w0
  obtain ⟨_, lm, r1, hl1, k1, hm1, hw1⟩ := w1
  exact LH _ _ _ _ _ (by exact Pa Tryz.underlying22 Tryz.underlying41 rfl Tryz.underlying9 (by kernel_rfl) (by kernel_rfl) hd0 r0 (Qd hsz (j := 0) rfl rfl)) (by exact Pa Tryz.underlying22 Tryz.underlying41 rfl Tryz.underlying9 (by kernel_rfl) (by kernel_rfl) hd1 r1 (Qd hsz (j := 1) rfl rfl)) W r0 r1 (Zc hL E1 (by kernel_rfl) (by kernel_rfl) Tryz.underlying205 Tryz.underlying173 (by kernel_rfl) (by kernel_rfl)) (Zr hL GW (by kernel_rfl) (by kernel_rfl) Tryz.underlying133 Tryz.underlying9 (by kernel_rfl) (by kernel_rfl)) (fX hL Hl rfl (by kernel_rfl) (by kernel_rfl) Tryz.underlying109) (fX hL H0 rfl (by kernel_rfl) (by kernel_rfl) Tryz.underlying109)
theorem Oy : Rows.TopSilentSaid :=
  OpenClaim.holds_of_cond 9 Tryz.f9 rfl rfl rfl rfl rfl rfl rfl ⟨rfl, rfl, rfl, rfl, rfl⟩ rfl rfl rfl rfl rfl (by kernel_rfl) Tryz.func9 (by kernel_rfl)
    (of_decide_eq_true (by kernel_rfl)) (by unfold Func.isWrapper; first | (rw [if_pos (by decide +kernel)]; kernel_rfl) | (rw [if_neg (by decide +kernel)]; exact ⟨rfl, rfl⟩))
    (fun os started H enc _ F => by rw [OpenClaim.pre_eq_preRow]; exact MV os started H enc F)
theorem VT (f : FuncId) (fn : Func) (hf : Tryz.pinned.checked.prog.funcNamed "inglenook/inglenooktop.TopSilent" = some f) (hfn : Tryz.pinned.checked.prog.funcs[f]? = some fn) :
    true = Tryz.pinned.checked.prog.looks [] ∧ ∀ (j : Nat) t, fn.params[j]? = some t → Tryz.pinned.checked.prog.wantsStandIn t = false := by
  obtain rfl : f = 9 := Option.some.inj ((show Tryz.prog.funcNamed "inglenook/inglenooktop.TopSilent" = some 9 by kernel_rfl).symm.trans hf) |>.symm
  obtain rfl : fn = Tryz.f9 := (Option.some.inj (Tryz.func9.symm.trans hfn)).symm
  refine ⟨by kernel_rfl, fun j t ht => ?_⟩
  rw [Tryz.params9] at ht
  have hm : t ∈ [22, 22, 3] := by simpa using Array.mem_of_getElem? ht
  have hall : ([22, 22, 3].all fun u => !Tryz.prog.wantsStandIn u) = true := by kernel_rfl
  exact (show Tryz.prog.wantsStandIn t = false by simpa using List.all_eq_true.1 hall t hm)
theorem topSilent_holds : Rows.TopSilentCardSaid :=
  Claim7.holds_tied_plain_at .later [] _ _ _ _ Oy (fun _ h => by cases h) (by kernel_rfl) (fun _ h => by cases h) topSilent_row_tie rfl ⟨rfl, rfl⟩ (by kernel_rfl) rfl VT (by kernel_rfl)
end Go.Proofs.YtoidpggbbfncpaaGreatDoor
