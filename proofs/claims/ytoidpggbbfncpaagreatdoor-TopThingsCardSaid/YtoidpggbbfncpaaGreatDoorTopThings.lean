/- For every input the law TopThings returns true. No condition. -/
import Derived.Test.YtoidpggbbfncpaaGreatDoorCards
import Derived.Test.YtoidpggbbfncpaaGreatDoorTie
import Derived.Deep.DeepHandedRow
import Derived.Test.YtoidpggbbfncpaaGreatDoorRows
import Derived.Test.YtoidpggbbfncpaaGreatDoorTopThingsWalks
import Derived.Test.YtoidpggbbfncpaaGreatDoorTopThingsWalks2
import Derived.Test.YtoidpggbbfncpaaGreatDoorTopThingsWalks3
import Derived.Test.YtoidpggbbfncpaaGreatDoorTopThingsWalks4
import Derived.Test.YtoidpggbbfncpaaGreatDoorTopThingsWalks5
import Derived.Test.YtoidpggbbfncpaaGreatDoorTopThingsWalks6
import Derived.Test.YtoidpggbbfncpaaGreatDoorTopThingsEc3
import Derived.Test.YtoidpggbbfncpaaGreatDoorTopThingsRa1
import Derived.Test.YtoidpggbbfncpaaGreatDoorTopThingsRb1
import Derived.Test.YtoidpggbbfncpaaGreatDoorTopThingsRc1
set_option linter.unusedSimpArgs false
set_option linter.unusedVariables false
set_option maxRecDepth 100000
set_option maxHeartbeats 1000000
namespace Go.Proofs.YtoidpggbbfncpaaGreatDoor
open Go Go.Ing Go.RowKit Go.ChangeShapes Go.WideShapes Go.ChangeAt
theorem own : ownKnob Tryz.prog.godebug = none := by kernel_rfl
theorem laidOut : laidOutB Tryz.prog = true := by kernel_rfl
theorem E2 : (Rows.laid_internal_strconv_uint64pow10 : DataW Unit) = Lib.tabData .u64 Lib.pow10Tab := by kernel_rfl
theorem Er : ("internal/strconv.uint64pow10", (Lib.tabData .u64 Lib.pow10Tab : DataW Unit)) ∈ Rows.topThingsRow.laid := E2 ▸ (.tail _ (.tail _ (.head _)))
theorem GR : (Rows.laid_inglenook_words_verbs : DataW Unit) = Lq AG.GS := by kernel_rfl
theorem F9 : ("inglenook/words.verbs", (Lq AG.GS : DataW Unit)) ∈ Rows.topThingsRow.laid := GR ▸ (.tail _ (.tail _ (.tail _ (.tail _ (.tail _ (.tail _ (.head _)))))))
theorem HL : ("strconv.ErrSyntax", (Rows.laid_strconv_ErrSyntax : DataW Unit)) ∈ Rows.topThingsRow.laid := .tail _ (.tail _ (.tail _ (.tail _ (.tail _ (.head _)))))
theorem Hk : ("strconv.ErrRange", (Rows.laid_strconv_ErrRange : DataW Unit)) ∈ Rows.topThingsRow.laid := .tail _ (.tail _ (.tail _ (.tail _ (.head _))))
theorem cc {H : Type} {enc : TypeId × Value → H} {w : World} : Dc H enc Tryz.prog w (Av) GH 3 := Z7 Tryz.underlying3
theorem dp {H : Type} {enc : TypeId × Value → H} {w : World} : Dc H enc Tryz.prog w (A7) KY 9 := U6 Tryz.underlying9
theorem cZ {H : Type} {enc : TypeId × Value → H} {w : World} : Dc H enc Tryz.prog w (Bz.enc) Bz.wf 41 := Bz.dc Tryz.underlying41 (by kernel_rfl) rfl (by kernel_rfl) cc rfl (by kernel_rfl) cc rfl (by kernel_rfl) cc rfl (by kernel_rfl) dp
theorem Kt {t0 : Nat} (f : Hd) (l : List Bz) (hu : ∀ a ∈ l, a.bytes.length ≤ 140737488351232) (w : World) (r0 : Rd w f t0 4 (l.flatMap Bz.enc)) (gl0 : GV 2 Fl w) (gl1 : GV 0 AG.DD w) (gl2 : Gk 7 w) (gl3 : Gk 8 w) : Ef Tryz.prog 3 #[f.val] w fun v w' => v = .bool true ∧ CA w w' := by
 refine Al [] [] Tryz.func3 rfl rfl rfl (St.start w []) ?_
 refine Gs (Ga rfl (Gn (.t1 0) (Gs ?_)))
 refine BA rfl cC .n (fun w hS => Kc w) ?_
 refine BF rfl K1 rfl (fun b1 => ?_)
 refine AT (AK (AU.id AG.fl.len AG.fl.one) rfl rfl rfl Dm rfl .h) ?_
 refine Gn (.t2 0 3) (Gs (Gm rfl (Gt (Ru (.c rfl .n)) ?_)))
 refine BE rfl cT (.c rfl (.c rfl .n)) (.c .h .n) (PH _ f l hu) (fun w hS => ⟨Rd.pull r0 hS (.c .h .n), gl0.pull (by simp) hS (.c .h .n), gl1.pull (by simp) hS (.c .h .n), gl2.pull (by simp) hS (.c .h .n), gl3.pull (by simp) hS (.c .h .n)⟩) (fun v1 B hv => ?_)
 obtain ⟨y2, rfl, rfl⟩ := hv
 refine Gm rfl (Gt (AM rfl rfl) (Gt (AM rfl rfl) (Ga rfl (Ga rfl (Gn (.t1 5) (Gs (Gm rfl ?_)))))))
 refine Ga rfl (Gn (.t1 2) (Ab ?_))
 refine AY rfl (.tmp rfl .n) ?_
 intro w1 hS; refine ⟨?_, hS.Am⟩; rfl
mutual
def Ks {H : Type} : DataW H → List Value
  | .lit (.int k n) => [.int k n]
  | .lit (.string bs) => [.string ⟨bs.toArray⟩]
  | .lit (.bool b) => [.bool b]
  | .agg ps => QL ps
  | _ => []
def QL {H : Type} : List (DataW H) → List Value
  | [] => []
  | d :: r => Ks d ++ QL r
end
def QQ {H : Type} : DataW H → List Value
  | .iface _ (.ptr (.agg ps)) => QL ps
  | _ => []
noncomputable def low : Nat := (World.holding Tryz.prog default ⟨#[], #[], []⟩).heap.size
noncomputable def ML (os : Os) : World := { World.holding Tryz.prog os ⟨#[.cells (QQ (Rows.laid_strconv_ErrRange : DataW Unit)).toArray 252, .cells (QQ (Rows.laid_strconv_ErrSyntax : DataW Unit)).toArray 252], #[], []⟩ with heap := (((((((((World.holding Tryz.prog os ⟨#[.cells (QQ (Rows.laid_strconv_ErrRange : DataW Unit)).toArray 252, .cells (QQ (Rows.laid_strconv_ErrSyntax : DataW Unit)).toArray 252], #[], []⟩).heap.modify 8 fun o => match o with | .cells _ t frozen => .cells #[.iface 250 (.pointer (some ⟨low + 0, 0, none⟩))] t frozen | o => o).modify 7 fun o => match o with | .cells _ t frozen => .cells #[.iface 250 (.pointer (some ⟨low + 1, 0, none⟩))] t frozen | o => o).modify 3 fun o => match o with | .cells _ t frozen => .cells (Ks (Rows.laid_math_bits_deBruijn32tab : DataW Unit)).toArray t frozen | o => o).modify 4 fun o => match o with | .cells _ t frozen => .cells (Ks (Rows.laid_math_bits_deBruijn64tab : DataW Unit)).toArray t frozen | o => o).modify 2 fun o => match o with | .cells _ t frozen => .cells (Ks (Rows.laid_internal_strconv_uint64pow10 : DataW Unit)).toArray t frozen | o => o).modify 6 fun o => match o with | .cells _ t frozen => .cells (Ks (Rows.laid_unicode_utf8_acceptRanges : DataW Unit)).toArray t frozen | o => o).modify 0 fun o => match o with | .cells _ t frozen => .cells (Ks (Rows.laid_inglenook_words_verbs : DataW Unit)).toArray t frozen | o => o).modify 5 fun o => match o with | .cells _ t frozen => .cells (Ks (Rows.laid_unicode_utf8_first : DataW Unit)).toArray t frozen | o => o) }
set_option maxRecDepth 100000 in
theorem WI (os : Os) : laidMet Tryz.prog Rows.topThingsRow.laid ((ML os).forCall (fun _ _ => 0) ⟨#[], #[.slice none 0 0], []⟩).memory :=
  laidMet_of_run' 8 (by kernel_rfl) (by kernel_rfl)
set_option maxRecDepth 100000 in
theorem reads (os : Os) {H : Type} (enc : TypeId × Value → H) : ∃ places, DataW.whole enc Tryz.prog ((ML os).forCall (fun _ _ => 0) ⟨#[], #[.slice none 0 0], []⟩).memory Tryz.f3.params.toList Rows.topThingsSpec.vars false (#[.slice none 0 0] : Array Value).toList 8 = some ([.nil], [], places) := ⟨[], by kernel_rfl⟩
set_option maxRecDepth 100000 in
theorem MJ (os : Os) (started : os.Started) (H : Type) (enc : TypeId × Value → H) (F : Stop.Interp) :
    ReturnsInHanded {} Tryz.checked os 3 .any ((OpenSpec.ofChange Rows.topThingsSpec).preRow enc Tryz.prog Tryz.f3 Rows.topThingsRow.domain false Rows.topThingsRow.laid) (((OpenSpec.ofChange Rows.topThingsSpec).at F).post enc Tryz.prog Tryz.f3 false true false false) := by
  obtain ⟨places, hx⟩ := reads os enc
  refine returnsInHanded_of_row (C := Tryz.checked) (s := (OpenSpec.ofChange Rows.topThingsSpec)) own started (by kernel_rfl) Tryz.func3
    (witness_row_at (enc := enc) (C := Tryz.checked) false (ML os) #[.slice none 0 0] rfl (by kernel_rfl) (by kernel_rfl) (by kernel_rfl)
      (OpenSpec.preRow_of_cond 8 hx (by kernel_rfl) (fun k hk => by cases hk) (by kernel_rfl) (WI os))) ?_
  intro W base args ds gs before hval hW _ hcond hsz hL _ _
  refine Wy (B := 4) laidOut (by kernel_rfl) Tryz.underlying4 (by kernel_rfl) rfl (fun ds h => by rw [Tryz.params3] at h; match ds, h with | [d1], _ => rfl) hW ?_
  obtain ⟨p, q, hA, hV, _, _, _⟩ := hW
  rw [Tryz.params3] at hA
  obtain ⟨v0, vs0, d0, ds0, p0, q0, hv0, rfl, rfl, hd0, hA⟩ := trodAll_cons hA
  obtain ⟨hvn, rfl, rfl⟩ := trodAll_nil hA
  obtain rfl : args = #[v0] := by cases args; simp_all
  obtain ⟨f, rfl, w0⟩ := YB Tryz.underlying22 (hval 0 _ _ rfl rfl) (by kernel_rfl) (by decide) Bz.fl cZ hd0
  obtain ⟨_, l, r0, hl0, k0, hm0, hw0⟩ := w0
  exact Kt _ _ (by exact TO Tryz.underlying22 Tryz.underlying41 rfl Tryz.underlying9 (by kernel_rfl) (by kernel_rfl) hd0 r0 (VG hsz (j := 0) rfl rfl)) W r0 (YE hL Er (by kernel_rfl) (by kernel_rfl) Tryz.underlying205 Tryz.underlying173 (by kernel_rfl) (by kernel_rfl)) (YT hL F9 (by kernel_rfl) (by kernel_rfl) Tryz.underlying133 Tryz.underlying9 (by kernel_rfl) (by kernel_rfl)) (dY hL HL rfl (by kernel_rfl) (by kernel_rfl) Tryz.underlying109) (dY hL Hk rfl (by kernel_rfl) (by kernel_rfl) Tryz.underlying109)
theorem OM : Rows.TopThingsSaid :=
  OpenClaim.holds_of_cond 3 Tryz.f3 rfl rfl rfl rfl rfl rfl rfl ⟨rfl, rfl, rfl, rfl, rfl⟩ rfl rfl rfl rfl rfl (by kernel_rfl) Tryz.func3 (by kernel_rfl)
    (of_decide_eq_true (by kernel_rfl)) (by unfold Func.isWrapper; first | (rw [if_pos (by decide +kernel)]; kernel_rfl) | (rw [if_neg (by decide +kernel)]; exact ⟨rfl, rfl⟩))
    (fun os started H enc _ F => by rw [OpenClaim.pre_eq_preRow]; exact MJ os started H enc F)
theorem Vo (f : FuncId) (fn : Func) (hf : Tryz.pinned.checked.prog.funcNamed "inglenook/inglenooktop.TopThings" = some f) (hfn : Tryz.pinned.checked.prog.funcs[f]? = some fn) :
    true = Tryz.pinned.checked.prog.looks [] ∧ ∀ (j : Nat) t, fn.params[j]? = some t → Tryz.pinned.checked.prog.wantsStandIn t = false := by
  obtain rfl : f = 3 := Option.some.inj ((show Tryz.prog.funcNamed "inglenook/inglenooktop.TopThings" = some 3 by kernel_rfl).symm.trans hf) |>.symm
  obtain rfl : fn = Tryz.f3 := (Option.some.inj (Tryz.func3.symm.trans hfn)).symm
  refine ⟨by kernel_rfl, fun j t ht => ?_⟩
  rw [Tryz.params3] at ht
  have hm : t ∈ [22] := by simpa using Array.mem_of_getElem? ht
  have hall : ([22].all fun u => !Tryz.prog.wantsStandIn u) = true := by kernel_rfl
  exact (show Tryz.prog.wantsStandIn t = false by simpa using List.all_eq_true.1 hall t hm)
theorem topThings_holds : Rows.TopThingsCardSaid :=
  Claim7.holds_tied_plain_at .later [] _ _ _ _ OM (fun _ h => by cases h) (by kernel_rfl) (fun _ h => by cases h) topThings_row_tie rfl ⟨rfl, rfl⟩ (by kernel_rfl) rfl Vo (by kernel_rfl)
end Go.Proofs.YtoidpggbbfncpaaGreatDoor
