/- For every input the law TopEnds returns true. No condition. -/
import Derived.Test.YtoidpggbbfncpaaGreatDoorCards
import Derived.Test.YtoidpggbbfncpaaGreatDoorTie
import Derived.Deep.DeepHandedRow
import Derived.Test.YtoidpggbbfncpaaGreatDoorRows
import Derived.Test.YtoidpggbbfncpaaGreatDoorTopEndsWalks
import Derived.Test.YtoidpggbbfncpaaGreatDoorTopEndsWalks2
import Derived.Test.YtoidpggbbfncpaaGreatDoorTopEndsWalks3
import Derived.Test.YtoidpggbbfncpaaGreatDoorTopEndsWalks4
import Derived.Test.YtoidpggbbfncpaaGreatDoorTopEndsWalks5
import Derived.Test.YtoidpggbbfncpaaGreatDoorTopEndsWalks6
import Derived.Test.YtoidpggbbfncpaaGreatDoorTopEndsEc3
import Derived.Test.YtoidpggbbfncpaaGreatDoorTopEndsRa1
import Derived.Test.YtoidpggbbfncpaaGreatDoorTopEndsRb1
import Derived.Test.YtoidpggbbfncpaaGreatDoorTopEndsRc1
set_option linter.unusedSimpArgs false
set_option linter.unusedVariables false
set_option maxRecDepth 100000
set_option maxHeartbeats 1000000
namespace Go.Proofs.YtoidpggbbfncpaaGreatDoor
open Go Go.Ing Go.RowKit Go.ChangeShapes Go.WideShapes Go.ChangeAt
theorem own : ownKnob Tryz.prog.godebug = none := by kernel_rfl
theorem laidOut : laidOutB Tryz.prog = true := by kernel_rfl
theorem Et : (Rows.laid_internal_strconv_uint64pow10 : DataW Unit) = Lib.tabData .u64 Lib.pow10Tab := by kernel_rfl
theorem EZ : ("internal/strconv.uint64pow10", (Lib.tabData .u64 Lib.pow10Tab : DataW Unit)) ∈ Rows.topEndsRow.laid := Et ▸ (.tail _ (.tail _ (.head _)))
theorem F1 : (Rows.laid_inglenook_words_verbs : DataW Unit) = K9 AH.GB := by kernel_rfl
theorem Fk : ("inglenook/words.verbs", (K9 AH.GB : DataW Unit)) ∈ Rows.topEndsRow.laid := F1 ▸ (.tail _ (.tail _ (.tail _ (.tail _ (.tail _ (.tail _ (.head _)))))))
theorem G2 : ("strconv.ErrSyntax", (Rows.laid_strconv_ErrSyntax : DataW Unit)) ∈ Rows.topEndsRow.laid := .tail _ (.tail _ (.tail _ (.tail _ (.tail _ (.head _)))))
theorem HC : ("strconv.ErrRange", (Rows.laid_strconv_ErrRange : DataW Unit)) ∈ Rows.topEndsRow.laid := .tail _ (.tail _ (.tail _ (.tail _ (.head _))))
theorem cI {H : Type} {enc : TypeId × Value → H} {w : World} : Dc H enc Tryz.prog w (Ax) F0 3 := Yg Tryz.underlying3
theorem cl {H : Type} {enc : TypeId × Value → H} {w : World} : Dc H enc Tryz.prog w (A4) Jw 9 := UW Tryz.underlying9
theorem aH {H : Type} {enc : TypeId × Value → H} {w : World} : Dc H enc Tryz.prog w (Bq.enc) Bq.wf 41 := Bq.dc Tryz.underlying41 (by kernel_rfl) rfl (by kernel_rfl) cI rfl (by kernel_rfl) cI rfl (by kernel_rfl) cI rfl (by kernel_rfl) cl
theorem LZ {t0 : Nat} (f : Hd) (l : List Bq) (hu : ∀ a ∈ l, a.bytes.length ≤ 140737488351232) (a : Bq) (hv : a.bytes.length ≤ 140737488351232) (w : World) (r0 : Rd w f t0 4 (l.flatMap Bq.enc)) (gl0 : GV 2 FV w) (gl1 : GV 0 AH.C4 w) (gl2 : GG 7 w) (gl3 : GG 8 w) : EF Tryz.prog 12 #[f.val, .agg a.enc.toArray] w fun v w' => v = .bool true ∧ B3 w w' := by
 have hfl := r0.J1 Bq.fl (by decide)
 refine Aj [] [] Tryz.func12 rfl rfl rfl (St.start w []) ?_
 refine Gs ?_
 refine Bu rfl rfl rfl (fun b1 => ?_)
 refine Ga rfl (Gn (.t2 0 3) (Gs (Gm rfl ?_)))
 refine BD rfl Z6 (.c rfl (.c rfl .n)) .n (J0 f l hu) (fun w hS => ⟨Rd.pull r0 hS .n, gl0.pull (by simp) hS .n, gl1.pull (by simp) hS .n, gl2.pull (by simp) hS .n, gl3.pull (by simp) hS .n⟩) (fun v1 B hv => ?_)
 obtain ⟨y2, y3, y4, y5, rfl, y6, rfl⟩ := hv
 refine Gm rfl (Gt (AM rfl rfl) (Gt (AM rfl rfl) (Ga rfl (Ga rfl (Gn (.t4 0 3 5 6) (Gs (Gm rfl ?_)))))))
 refine BD rfl Z6 (.c rfl (.c rfl .n)) .n (J0 f l hu) (fun w hS => ⟨Rd.pull r0 hS .n, gl0.pull (by simp) hS .n, gl1.pull (by simp) hS .n, gl2.pull (by simp) hS .n, gl3.pull (by simp) hS .n⟩) (fun v8 B hv => ?_)
 obtain ⟨y9, y10, y11, y12, rfl, y13, rfl⟩ := hv
 refine Gm rfl (Gt (AM rfl rfl) (Gt (AM rfl rfl) (Ga rfl (Ga rfl (Gn (.t6 0 3 5 6 7 8) (CA (Gm rfl ?_)))))))
 refine Gt (BO rfl) (Gm rfl (BW 22 rfl rfl (fun q => AE rfl) (BW 22 rfl rfl (fun q => BO (cF rfl q)) ?_)))
 refine Gt (BR rfl rfl (fun h => by rw [h]; rfl)) ?_
 refine Gn (.t5 0 3 5 7 25) ?_
 refine DX rfl rfl ?_
 refine Aa ?_
 refine AB (.t4 0 3 5 7) ?_
 refine AA (CA (Gm rfl (Gt (Aq rfl Tryz.underlying22 rfl) (Gt (Jf rfl rfl) (Ga rfl (Gn (.t4 3 5 7 9) (Ae ?_)))))))
 refine Bj (.t4 9 3 5 7) ?_
 refine BU (.t (.t (.t (.t (.t .h))))) ?_
 refine BU (.t (.t (.t (.t (.t .h))))) ?_
 refine BU (.t (.t (.t (.t (.t .h))))) ?_
 refine BU (.t (.t (.t (.t (.t .h))))) ?_
 refine BU (.t (.t (.t (.t (.t .h))))) ?_
 refine BU (.t (.t (.t (.t (.t .h))))) ?_
 refine M3 (fun (k : Int) (V1 : AJ) (ls1 : Vector BE 4) (ev1 : List Ing.Event) (V2 : AJ) (ls2 : Vector BE 4) (ev2 : List Ing.Event) (X : AL) => 0 ≤ k ∧ k ≤ 400 ∧ A3 V1 ls1 ev1 = X ∧ A3 V2 ls2 ev2 = X ∧ X.Ce = k ∧ X.Live) (fun (k : Int) (V1 : AJ) (ls1 : Vector BE 4) (ev1 : List Ing.Event) (V2 : AJ) (ls2 : Vector BE 4) (ev2 : List Ing.Event) (X : AL) => (400 - k).toNat) (fun (k : Int) (V1 : AJ) (ls1 : Vector BE 4) (ev1 : List Ing.Event) (V2 : AJ) (ls2 : Vector BE 4) (ev2 : List Ing.Event) (X : AL) => [(9, .int .i64 k)]) (fun (k : Int) (V1 : AJ) (ls1 : Vector BE 4) (ev1 : List Ing.Event) (V2 : AJ) (ls2 : Vector BE 4) (ev2 : List Ing.Event) (X : AL) => [Ac.box y9 101 (AJ.enc V2), Ac.DY (B6 9 (AJ.Ap V2) ls2), Ac.own (AJ.last V2) 56 16 (ev2.flatMap Ing.Event.enc), Ac.box y2 101 (AJ.enc V1), Ac.DY (B6 9 (AJ.Ap V1) ls1), Ac.own (AJ.last V1) 56 16 (ev1.flatMap Ing.Event.enc)]) (min (f.len : Int) 150) (y3) (y4) (y5) (y10) (y11) (y12) (AL.Ml l) ?_ rfl rfl (fun k V1 ls1 ev1 V2 ls2 ev2 X hI1 => ?_)
 · exact ⟨by omega, by omega, y6, y13, by rw [AL.RP, hfl], AL.Qh l⟩
 obtain ⟨hI11, hI12, hI13, hI14, hI15, hI16⟩ := hI1
 refine CA (Gm rfl (Gt (A5 rfl rfl) (Gn (.t5 3 5 7 9 30) ?_)))
 refine Gc (fun c1 => ?_) (fun c1 => ?_)
 ·
  have c1p := kz c1
  refine Aa ?_
  refine AB (.t4 3 5 7 9) ?_
  refine AA (Ao (Ae (Gs (Gm rfl (Gt (A9 WT Wa rfl .nil) ?_)))))
  refine BD rfl R7 (.c rfl (.c rfl .n)) (.c (.t (.t (.t .h))) (.c (.t (.t (.t .h))) (.c (.t (.t (.t .h))) .n))) (E9 y2 V1 ls1 ev1 AL.zero (by rw [hI13]; exact hI16) (by decide)) (fun w hS => ⟨gl0.pull (by simp) hS (.c (.t (.t (.t .h))) (.c (.t (.t (.t .h))) (.c (.t (.t (.t .h))) .n))), gl1.pull (by simp) hS (.c (.t (.t (.t .h))) (.c (.t (.t (.t .h))) (.c (.t (.t (.t .h))) .n))), gl2.pull (by simp) hS (.c (.t (.t (.t .h))) (.c (.t (.t (.t .h))) (.c (.t (.t (.t .h))) .n))), gl3.pull (by simp) hS (.c (.t (.t (.t .h))) (.c (.t (.t (.t .h))) (.c (.t (.t (.t .h))) .n)))⟩) (fun v15 B hv => ?_)
  obtain ⟨y16, y17, y18, rfl, y19, rfl⟩ := hv
  refine Gt (QW Be.l0 Tryz.underlying44 rfl Qw rfl rfl) (Gt (CK rfl rfl) (Gm rfl (BW 38 rfl rfl (fun q => AE rfl) (BW 38 rfl rfl (fun q => A9 WT Wa rfl .nil) ?_))))
  refine Kf 38 rfl (fun c2 => ?_) (fun c2 => ?_)
  · exact absurd c2 (by rw [hI13, AL.JH (by omega)]; simp)
  have c2p := kz c2
  refine SZ (t := 38) rfl (by first | rfl | exact YU rfl c2) rfl R7 (.c (BV rfl (by rw [c2]; rfl)) (.c (BV rfl (by rw [c2]; rfl)) .n)) (.c (.t (.t (.t .h))) (.c (.t (.t (.t .h))) (.c (.t (.t (.t .h))) .n))) (E9 y9 V2 ls2 ev2 AL.zero (by rw [hI14]; exact hI16) (by decide)) (fun w hS => ⟨gl0.pull (by simp) hS (.c (.t (.t (.t .h))) (.c (.t (.t (.t .h))) (.c (.t (.t (.t .h))) .n))), gl1.pull (by simp) hS (.c (.t (.t (.t .h))) (.c (.t (.t (.t .h))) (.c (.t (.t (.t .h))) .n))), gl2.pull (by simp) hS (.c (.t (.t (.t .h))) (.c (.t (.t (.t .h))) (.c (.t (.t (.t .h))) .n))), gl3.pull (by simp) hS (.c (.t (.t (.t .h))) (.c (.t (.t (.t .h))) (.c (.t (.t (.t .h))) .n)))⟩) (fun v20 B hv => ?_)
  obtain ⟨y21, y22, y23, rfl, y24, rfl⟩ := hv
  refine CP (t := 38) rfl rfl rfl (QW Be.l0 Tryz.underlying44 rfl Qw rfl rfl) ?_
  refine CP (t := 38) rfl rfl rfl (CK rfl rfl) ?_
  refine Gt (CV rfl rfl) (Gn (.t5 3 5 7 9 44) ?_)
  refine DX rfl (by rw [hI14, AL.JH (by omega)]; rfl) ?_
  refine Aa ?_
  refine AB (.t4 3 5 7 9) ?_
  refine AT (AA (AI (Gm rfl ?_)))
  refine Gt (Aw rfl rfl (IntWalk.i64_in _ (by omega))) ?_
  refine Ga rfl ?_
  refine AP (AB (.t4 3 5 7 9) ?_)
  refine CE (k + 1) _ _ _ _ _ _ (X.begun) ?_ ?_ (.t4 9 3 5 7) (.refl _)
  · exact ⟨by omega, by omega, by rw [y19, hI13, AL.JH (by omega)], by rw [y24, hI14, AL.JH (by omega)], by rw [AL.Mp]; omega, by have := hI16.act AL.zero; rw [AL.JH (by omega)] at this; exact this⟩
  · omega
 have c1p := kz c1
 obtain rfl : k = 400 := by omega
 refine Ba (AV (AV (Ah ?_)))
 refine AB (.t3 3 5 7) ?_
 refine AA (Gs (Gm rfl (Gt (AZ rfl U7 .m6 (AS.id Bq.fl.len Bq.fl.one) rfl) ?_)))
 refine BD rfl R7 (.c rfl (.c rfl .n)) (.c (.t (.t (.t .h))) (.c (.t (.t (.t .h))) (.c (.t (.t (.t .h))) .n))) (E9 y2 V1 ls1 ev1 a (by rw [hI13]; exact hI16) hv) (fun w hS => ⟨gl0.pull (by simp) hS (.c (.t (.t (.t .h))) (.c (.t (.t (.t .h))) (.c (.t (.t (.t .h))) .n))), gl1.pull (by simp) hS (.c (.t (.t (.t .h))) (.c (.t (.t (.t .h))) (.c (.t (.t (.t .h))) .n))), gl2.pull (by simp) hS (.c (.t (.t (.t .h))) (.c (.t (.t (.t .h))) (.c (.t (.t (.t .h))) .n))), gl3.pull (by simp) hS (.c (.t (.t (.t .h))) (.c (.t (.t (.t .h))) (.c (.t (.t (.t .h))) .n)))⟩) (fun v25 B hv => ?_)
 obtain ⟨y26, y27, y28, rfl, y29, rfl⟩ := hv
 refine Gt (A9 Lr Iz rfl (.cons Be.l0 rfl rfl rfl .nil)) ?_
 refine Gt (M4 bM (by decide) (by kernel_rfl) rfl rfl) ?_
 refine Gm rfl (BZ 50 rfl rfl (fun q => AE rfl) (BZ 50 rfl rfl (fun q => AE rfl) ?_))
 refine Kf 50 rfl (fun c3 => ?_) (fun c3 => ?_)
 ·
  refine Fq (t := 50) rfl (by first | rfl | exact YU rfl c3) rfl bA (.c (BV rfl c3) (.c (BV rfl c3) .n)) (.c (.t (.t (.t .h))) (.c (.t (.t (.t .h))) (.c .h (.c .h .n)))) (Oa y9 V2 ls2 ev2 y2 y26 y27 y28 (by rw [hI14]; exact hI16) (by rw [y29, hI13]; exact hI16.act a)) (fun v30 B hv => ?_)
  obtain ⟨rfl, rfl⟩ := hv
  refine Gt (CY rfl rfl) (Ga rfl (Gn (.t1 4) (Ab ?_)))
  refine AY rfl (.tmp rfl .n) ?_
  intro w1 hS; refine ⟨?_, hS.Am⟩; exact congrArg Value.bool (by rw [y29, hI13, hI14, AL.RG hI15, AL.Uo])
 · exact absurd c3 (by rw [hI13, AL.RG hI15]; rw [show (default : Be).out = [] from rfl]; simp)
mutual
def KE {H : Type} : DataW H → List Value
  | .lit (.int k n) => [.int k n]
  | .lit (.string bs) => [.string ⟨bs.toArray⟩]
  | .lit (.bool b) => [.bool b]
  | .agg ps => Pz ps
  | _ => []
def Pz {H : Type} : List (DataW H) → List Value
  | [] => []
  | d :: r => KE d ++ Pz r
end
def P7 {H : Type} : DataW H → List Value
  | .iface _ (.ptr (.agg ps)) => Pz ps
  | _ => []
noncomputable def low : Nat := (World.holding Tryz.prog default ⟨#[], #[], []⟩).heap.size
noncomputable def LY (os : Os) : World := { World.holding Tryz.prog os ⟨#[.cells (P7 (Rows.laid_strconv_ErrRange : DataW Unit)).toArray 252, .cells (P7 (Rows.laid_strconv_ErrSyntax : DataW Unit)).toArray 252], #[], []⟩ with heap := (((((((((World.holding Tryz.prog os ⟨#[.cells (P7 (Rows.laid_strconv_ErrRange : DataW Unit)).toArray 252, .cells (P7 (Rows.laid_strconv_ErrSyntax : DataW Unit)).toArray 252], #[], []⟩).heap.modify 8 fun o => match o with | .cells _ t frozen => .cells #[.iface 250 (.pointer (some ⟨low + 0, 0, none⟩))] t frozen | o => o).modify 7 fun o => match o with | .cells _ t frozen => .cells #[.iface 250 (.pointer (some ⟨low + 1, 0, none⟩))] t frozen | o => o).modify 3 fun o => match o with | .cells _ t frozen => .cells (KE (Rows.laid_math_bits_deBruijn32tab : DataW Unit)).toArray t frozen | o => o).modify 4 fun o => match o with | .cells _ t frozen => .cells (KE (Rows.laid_math_bits_deBruijn64tab : DataW Unit)).toArray t frozen | o => o).modify 2 fun o => match o with | .cells _ t frozen => .cells (KE (Rows.laid_internal_strconv_uint64pow10 : DataW Unit)).toArray t frozen | o => o).modify 6 fun o => match o with | .cells _ t frozen => .cells (KE (Rows.laid_unicode_utf8_acceptRanges : DataW Unit)).toArray t frozen | o => o).modify 0 fun o => match o with | .cells _ t frozen => .cells (KE (Rows.laid_inglenook_words_verbs : DataW Unit)).toArray t frozen | o => o).modify 5 fun o => match o with | .cells _ t frozen => .cells (KE (Rows.laid_unicode_utf8_first : DataW Unit)).toArray t frozen | o => o) }
set_option maxRecDepth 100000 in
theorem WV (os : Os) : laidMet Tryz.prog Rows.topEndsRow.laid ((LY os).forCall (fun _ _ => 0) ⟨#[], #[.slice none 0 0, .agg (Bq.enc (default : Bq)).toArray], []⟩).memory :=
  laidMet_of_run' 8 (by kernel_rfl) (by kernel_rfl)
set_option maxRecDepth 100000 in
theorem reads (os : Os) {H : Type} (enc : TypeId × Value → H) : ∃ places, DataW.whole enc Tryz.prog ((LY os).forCall (fun _ _ => 0) ⟨#[], #[.slice none 0 0, .agg (Bq.enc (default : Bq)).toArray], []⟩).memory Tryz.f12.params.toList Rows.topEndsSpec.vars false (#[.slice none 0 0, .agg (Bq.enc (default : Bq)).toArray] : Array Value).toList 8 = some ([.nil, .agg [.lit (.int .i64 0), .lit (.int .i64 0), .lit (.int .i64 0), .lit (.string [])]], [], places) := ⟨[], by kernel_rfl⟩
set_option maxRecDepth 100000 in
theorem No (os : Os) (started : os.Started) (H : Type) (enc : TypeId × Value → H) (F : Stop.Interp) :
    ReturnsInHanded {} Tryz.checked os 12 .any ((OpenSpec.ofChange Rows.topEndsSpec).preRow enc Tryz.prog Tryz.f12 Rows.topEndsRow.domain false Rows.topEndsRow.laid) (((OpenSpec.ofChange Rows.topEndsSpec).at F).post enc Tryz.prog Tryz.f12 false true false false) := by
  obtain ⟨places, hx⟩ := reads os enc
  refine returnsInHanded_of_row (C := Tryz.checked) (s := (OpenSpec.ofChange Rows.topEndsSpec)) own started (by kernel_rfl) Tryz.func12
    (witness_row_at (enc := enc) (C := Tryz.checked) false (LY os) #[.slice none 0 0, .agg (Bq.enc (default : Bq)).toArray] rfl (by kernel_rfl) (by kernel_rfl) (by kernel_rfl)
      (OpenSpec.preRow_of_cond 8 hx (by kernel_rfl) (fun k hk => by cases hk) (by kernel_rfl) (WV os))) ?_
  intro W base args ds gs before hval hW _ hcond hsz hL _ _
  refine WJ (B := 4) laidOut (by kernel_rfl) Tryz.underlying4 (by kernel_rfl) rfl (fun ds h => by rw [Tryz.params12] at h; match ds, h with | [d1, d2], _ => rfl) hW ?_
  obtain ⟨p, q, hA, hV, _, _, _⟩ := hW
  rw [Tryz.params12] at hA
  obtain ⟨v0, vs0, d0, ds0, p0, q0, hv0, rfl, rfl, hd0, hA⟩ := trodAll_cons hA
  obtain ⟨v1, vs1, d1, ds1, p1, q1, hv1, rfl, rfl, hd1, hA⟩ := trodAll_cons hA
  obtain ⟨hvn, rfl, rfl⟩ := trodAll_nil hA
  obtain rfl : args = #[v0, v1] := by cases args; simp_all
  obtain ⟨f, rfl, w0⟩ := XQ Tryz.underlying22 (hval 0 _ _ rfl rfl) (by kernel_rfl) (by decide) Bq.fl aH hd0
  obtain ⟨a, rfl, w1⟩ := XE (P := Tryz.prog) (t := 41) (by rw [Tryz.underlying41]) (hval 1 _ _ rfl rfl) aH hd1
  obtain ⟨_, l, r0, hl0, k0, hm0, hw0⟩ := w0
  exact LZ _ _ (by exact R5 Tryz.underlying22 Tryz.underlying41 rfl Tryz.underlying9 (by kernel_rfl) (by kernel_rfl) hd0 r0 (PG hsz (j := 0) rfl rfl)) _ (by exact Us (i := 3) (o := 3) (s := a.bytes) Tryz.underlying41 rfl Tryz.underlying9 (by kernel_rfl) hd1 rfl (PG hsz (j := 1) rfl rfl)) W r0 (XZ hL EZ (by kernel_rfl) (by kernel_rfl) Tryz.underlying205 Tryz.underlying173 (by kernel_rfl) (by kernel_rfl)) (Xs hL Fk (by kernel_rfl) (by kernel_rfl) Tryz.underlying133 Tryz.underlying9 (by kernel_rfl) (by kernel_rfl)) (cP hL G2 rfl (by kernel_rfl) (by kernel_rfl) Tryz.underlying109) (cP hL HC rfl (by kernel_rfl) (by kernel_rfl) Tryz.underlying109)
theorem QS : Rows.TopEndsSaid :=
  OpenClaim.holds_of_cond 12 Tryz.f12 rfl rfl rfl rfl rfl rfl rfl ⟨rfl, rfl, rfl, rfl, rfl⟩ rfl rfl rfl rfl rfl (by kernel_rfl) Tryz.func12 (by kernel_rfl)
    (of_decide_eq_true (by kernel_rfl)) (by unfold Func.isWrapper; first | (rw [if_pos (by decide +kernel)]; kernel_rfl) | (rw [if_neg (by decide +kernel)]; exact ⟨rfl, rfl⟩))
    (fun os started H enc _ F => by rw [OpenClaim.pre_eq_preRow]; exact No os started H enc F)
theorem Ur (f : FuncId) (fn : Func) (hf : Tryz.pinned.checked.prog.funcNamed "inglenook/inglenooktop.TopEnds" = some f) (hfn : Tryz.pinned.checked.prog.funcs[f]? = some fn) :
    true = Tryz.pinned.checked.prog.looks [] ∧ ∀ (j : Nat) t, fn.params[j]? = some t → Tryz.pinned.checked.prog.wantsStandIn t = false := by
  obtain rfl : f = 12 := Option.some.inj ((show Tryz.prog.funcNamed "inglenook/inglenooktop.TopEnds" = some 12 by kernel_rfl).symm.trans hf) |>.symm
  obtain rfl : fn = Tryz.f12 := (Option.some.inj (Tryz.func12.symm.trans hfn)).symm
  refine ⟨by kernel_rfl, fun j t ht => ?_⟩
  rw [Tryz.params12] at ht
  have hm : t ∈ [22, 41] := by simpa using Array.mem_of_getElem? ht
  have hall : ([22, 41].all fun u => !Tryz.prog.wantsStandIn u) = true := by kernel_rfl
  exact (show Tryz.prog.wantsStandIn t = false by simpa using List.all_eq_true.1 hall t hm)
theorem topEnds_holds : Rows.TopEndsCardSaid :=
  Claim7.holds_tied_plain_at .later [] _ _ _ _ QS (fun _ h => by cases h) (by kernel_rfl) (fun _ h => by cases h) topEnds_row_tie rfl ⟨rfl, rfl⟩ (by kernel_rfl) rfl Ur (by kernel_rfl)
end Go.Proofs.YtoidpggbbfncpaaGreatDoor
