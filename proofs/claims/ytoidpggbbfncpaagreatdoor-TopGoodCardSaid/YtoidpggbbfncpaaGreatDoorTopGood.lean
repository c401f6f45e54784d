/- For every input the law TopGood returns true. No condition. -/
import Derived.Test.YtoidpggbbfncpaaGreatDoorCards
import Derived.Test.YtoidpggbbfncpaaGreatDoorTie
import Derived.Deep.DeepHandedRow
import Derived.Test.YtoidpggbbfncpaaGreatDoorRows
import Derived.Test.YtoidpggbbfncpaaGreatDoorTopGoodWalks
import Derived.Test.YtoidpggbbfncpaaGreatDoorTopGoodWalks2
import Derived.Test.YtoidpggbbfncpaaGreatDoorTopGoodWalks3
import Derived.Test.YtoidpggbbfncpaaGreatDoorTopGoodWalks4
import Derived.Test.YtoidpggbbfncpaaGreatDoorTopGoodWalks5
import Derived.Test.YtoidpggbbfncpaaGreatDoorTopGoodWalks6
import Derived.Test.YtoidpggbbfncpaaGreatDoorTopGoodEc3
import Derived.Test.YtoidpggbbfncpaaGreatDoorTopGoodRa1
import Derived.Test.YtoidpggbbfncpaaGreatDoorTopGoodRb1
import Derived.Test.YtoidpggbbfncpaaGreatDoorTopGoodRc1
set_option linter.unusedSimpArgs false
set_option linter.unusedVariables false
set_option maxRecDepth 100000
set_option maxHeartbeats 1000000
namespace Go.Proofs.YtoidpggbbfncpaaGreatDoor
open Go Go.Ing Go.RowKit Go.ChangeShapes Go.WideShapes Go.ChangeAt
theorem own : ownKnob Tryz.prog.godebug = none := by kernel_rfl
theorem laidOut : laidOutB Tryz.prog = true := by kernel_rfl
theorem E1 : (Rows.laid_internal_strconv_uint64pow10 : DataW Unit) = Lib.tabData .u64 Lib.pow10Tab := by kernel_rfl
theorem Ep : ("internal/strconv.uint64pow10", (Lib.tabData .u64 Lib.pow10Tab : DataW Unit)) ∈ Rows.topGoodRow.laid := E1 ▸ (.tail _ (.tail _ (.head _)))
theorem Gp : (Rows.laid_inglenook_words_verbs : DataW Unit) = LY AH.GW := by kernel_rfl
theorem F7 : ("inglenook/words.verbs", (LY AH.GW : DataW Unit)) ∈ Rows.topGoodRow.laid := Gp ▸ (.tail _ (.tail _ (.tail _ (.tail _ (.tail _ (.tail _ (.head _)))))))
theorem HR : ("strconv.ErrSyntax", (Rows.laid_strconv_ErrSyntax : DataW Unit)) ∈ Rows.topGoodRow.laid := .tail _ (.tail _ (.tail _ (.tail _ (.tail _ (.head _)))))
theorem Hn : ("strconv.ErrRange", (Rows.laid_strconv_ErrRange : DataW Unit)) ∈ Rows.topGoodRow.laid := .tail _ (.tail _ (.tail _ (.tail _ (.head _))))
theorem cg {H : Type} {enc : TypeId × Value → H} {w : World} : Dc H enc Tryz.prog w (Ay) GK 3 := Zc Tryz.underlying3
theorem eG {H : Type} {enc : TypeId × Value → H} {w : World} : Dc H enc Tryz.prog w (A7) Kh 9 := Vr Tryz.underlying9
theorem dm {H : Type} {enc : TypeId × Value → H} {w : World} : Dc H enc Tryz.prog w (B0.enc) B0.wf 41 := B0.dc Tryz.underlying41 (by kernel_rfl) rfl (by kernel_rfl) cg rfl (by kernel_rfl) cg rfl (by kernel_rfl) cg rfl (by kernel_rfl) eG
theorem MT {t0 : Nat} (f : Hd) (l : List B0) (hu : ∀ a ∈ l, a.bytes.length ≤ 140737488351232) (w : World) (r0 : Rd w f t0 4 (l.flatMap B0.enc)) (gl0 : GV 2 Fo w) (gl1 : GV 0 AH.DG w) (gl2 : Gu 7 w) (gl3 : Gu 8 w) : Eh Tryz.prog 11 #[f.val] w fun v w' => v = .bool true ∧ CA w w' := by
 refine Ak [] [] Tryz.func11 rfl rfl rfl (St.start w []) ?_
 refine Gs (Ga rfl (Gn (.t1 0) (Gs (Gm rfl ?_))))
 refine BF rfl dC (.c rfl (.c rfl .n)) .n (PG f l hu) (fun w hS => ⟨Rd.pull r0 hS .n, gl0.pull (by simp) hS .n, gl1.pull (by simp) hS .n, gl2.pull (by simp) hS .n, gl3.pull (by simp) hS .n⟩) (fun v1 B hv => ?_)
 obtain ⟨y2, rfl, rfl⟩ := hv
 refine Gm rfl (Gt (AN rfl rfl) (Gt (AN rfl rfl) (Ga rfl (Ga rfl (Gn (.t1 4) (Gs (Gm rfl ?_)))))))
 refine Ga rfl (Gn (.t1 2) (Ab ?_))
 refine AZ rfl (.tmp rfl .n) ?_
 intro w1 hS; refine ⟨?_, hS.Am⟩; rfl
mutual
def Km {H : Type} : DataW H → List Value
  | .lit (.int k n) => [.int k n]
  | .lit (.string bs) => [.string ⟨bs.toArray⟩]
  | .lit (.bool b) => [.bool b]
  | .agg ps => RN ps
  | _ => []
def RN {H : Type} : List (DataW H) → List Value
  | [] => []
  | d :: r => Km d ++ RN r
end
def Qc {H : Type} : DataW H → List Value
  | .iface _ (.ptr (.agg ps)) => RN ps
  | _ => []
noncomputable def low : Nat := (World.holding Tryz.prog default ⟨#[], #[], []⟩).heap.size
noncomputable def MW (os : Os) : World := { World.holding Tryz.prog os ⟨#[.cells (Qc (Rows.laid_strconv_ErrRange : DataW Unit)).toArray 252, .cells (Qc (Rows.laid_strconv_ErrSyntax : DataW Unit)).toArray 252], #[], []⟩ with heap := (((((((((World.holding Tryz.prog os ⟨#[.cells (Qc (Rows.laid_strconv_ErrRange : DataW Unit)).toArray 252, .cells (Qc (Rows.laid_strconv_ErrSyntax : DataW Unit)).toArray 252], #[], []⟩).heap.modify 8 fun o => match o with | .cells _ t frozen => .cells #[.iface 250 (.pointer (some ⟨low + 0, 0, none⟩))] t frozen | o => o).modify 7 fun o => match o with | .cells _ t frozen => .cells #[.iface 250 (.pointer (some ⟨low + 1, 0, none⟩))] t frozen | o => o).modify 3 fun o => match o with | .cells _ t frozen => .cells (Km (Rows.laid_math_bits_deBruijn32tab : DataW Unit)).toArray t frozen | o => o).modify 4 fun o => match o with | .cells _ t frozen => .cells (Km (Rows.laid_math_bits_deBruijn64tab : DataW Unit)).toArray t frozen | o => o).modify 2 fun o => match o with | .cells _ t frozen => .cells (Km (Rows.laid_internal_strconv_uint64pow10 : DataW Unit)).toArray t frozen | o => o).modify 6 fun o => match o with | .cells _ t frozen => .cells (Km (Rows.laid_unicode_utf8_acceptRanges : DataW Unit)).toArray t frozen | o => o).modify 0 fun o => match o with | .cells _ t frozen => .cells (Km (Rows.laid_inglenook_words_verbs : DataW Unit)).toArray t frozen | o => o).modify 5 fun o => match o with | .cells _ t frozen => .cells (Km (Rows.laid_unicode_utf8_first : DataW Unit)).toArray t frozen | o => o) }
set_option maxRecDepth 100000 in
theorem XQ (os : Os) : laidMet Tryz.prog Rows.topGoodRow.laid ((MW os).forCall (fun _ _ => 0) ⟨#[], #[.slice none 0 0], []⟩).memory :=
  laidMet_of_run' 8 (by kernel_rfl) (by kernel_rfl)
set_option maxRecDepth 100000 in
theorem reads (os : Os) {H : Type} (enc : TypeId × Value → H) : ∃ places, DataW.whole enc Tryz.prog ((MW os).forCall (fun _ _ => 0) ⟨#[], #[.slice none 0 0], []⟩).memory Tryz.f11.params.toList Rows.topGoodSpec.vars false (#[.slice none 0 0] : Array Value).toList 8 = some ([.nil], [], places) := ⟨[], by kernel_rfl⟩
set_option maxRecDepth 100000 in
theorem Oz (os : Os) (started : os.Started) (H : Type) (enc : TypeId × Value → H) (F : Stop.Interp) :
    ReturnsInHanded {} Tryz.checked os 11 .any ((OpenSpec.ofChange Rows.topGoodSpec).preRow enc Tryz.prog Tryz.f11 Rows.topGoodRow.domain false Rows.topGoodRow.laid) (((OpenSpec.ofChange Rows.topGoodSpec).at F).post enc Tryz.prog Tryz.f11 false true false false) := by
  obtain ⟨places, hx⟩ := reads os enc
  refine returnsInHanded_of_row (C := Tryz.checked) (s := (OpenSpec.ofChange Rows.topGoodSpec)) own started (by kernel_rfl) Tryz.func11
    (witness_row_at (enc := enc) (C := Tryz.checked) false (MW os) #[.slice none 0 0] rfl (by kernel_rfl) (by kernel_rfl) (by kernel_rfl)
      (OpenSpec.preRow_of_cond 8 hx (by kernel_rfl) (fun k hk => by cases hk) (by kernel_rfl) (XQ os))) ?_
  intro W base args ds gs before hval hW _ hcond hsz hL _ _
  refine XJ (B := 4) laidOut (by kernel_rfl) Tryz.underlying4 (by kernel_rfl) rfl (fun ds h => by rw [Tryz.params11] at h; match ds, h with | [d1], _ => rfl) hW ?_
  obtain ⟨p, q, hA, hV, _, _, _⟩ := hW
  rw [Tryz.params11] at hA
  obtain ⟨v0, vs0, d0, ds0, p0, q0, hv0, rfl, rfl, hd0, hA⟩ := trodAll_cons hA
  obtain ⟨hvn, rfl, rfl⟩ := trodAll_nil hA
  obtain rfl : args = #[v0] := by cases args; simp_all
  obtain ⟨f, rfl, w0⟩ := Yt Tryz.underlying22 (hval 0 _ _ rfl rfl) (by kernel_rfl) (by decide) B0.fl dm hd0
  obtain ⟨_, l, r0, hl0, k0, hm0, hw0⟩ := w0
  exact MT _ _ (by exact TY Tryz.underlying22 Tryz.underlying41 rfl Tryz.underlying9 (by kernel_rfl) (by kernel_rfl) hd0 r0 (Vd hsz (j := 0) rfl rfl)) W r0 (Yp hL Ep (by kernel_rfl) (by kernel_rfl) Tryz.underlying205 Tryz.underlying173 (by kernel_rfl) (by kernel_rfl)) (YA hL F7 (by kernel_rfl) (by kernel_rfl) Tryz.underlying133 Tryz.underlying9 (by kernel_rfl) (by kernel_rfl)) (dn hL HR rfl (by kernel_rfl) (by kernel_rfl) Tryz.underlying109) (dn hL Hn rfl (by kernel_rfl) (by kernel_rfl) Tryz.underlying109)
theorem QP : Rows.TopGoodSaid :=
  OpenClaim.holds_of_cond 11 Tryz.f11 rfl rfl rfl rfl rfl rfl rfl ⟨rfl, rfl, rfl, rfl, rfl⟩ rfl rfl rfl rfl rfl (by kernel_rfl) Tryz.func11 (by kernel_rfl)
    (of_decide_eq_true (by kernel_rfl)) (by unfold Func.isWrapper; first | (rw [if_pos (by decide +kernel)]; kernel_rfl) | (rw [if_neg (by decide +kernel)]; exact ⟨rfl, rfl⟩))
    (fun os started H enc _ F => by rw [OpenClaim.pre_eq_preRow]; exact Oz os started H enc F)
theorem Vh (f : FuncId) (fn : Func) (hf : Tryz.pinned.checked.prog.funcNamed "inglenook/inglenooktop.TopGood" = some f) (hfn : Tryz.pinned.checked.prog.funcs[f]? = some fn) :
    true = Tryz.pinned.checked.prog.looks [] ∧ ∀ (j : Nat) t, fn.params[j]? = some t → Tryz.pinned.checked.prog.wantsStandIn t = false := by
  obtain rfl : f = 11 := Option.some.inj ((show Tryz.prog.funcNamed "inglenook/inglenooktop.TopGood" = some 11 by kernel_rfl).symm.trans hf) |>.symm
  obtain rfl : fn = Tryz.f11 := (Option.some.inj (Tryz.func11.symm.trans hfn)).symm
  refine ⟨by kernel_rfl, fun j t ht => ?_⟩
  rw [Tryz.params11] at ht
  have hm : t ∈ [22] := by simpa using Array.mem_of_getElem? ht
  have hall : ([22].all fun u => !Tryz.prog.wantsStandIn u) = true := by kernel_rfl
  exact (show Tryz.prog.wantsStandIn t = false by simpa using List.all_eq_true.1 hall t hm)
theorem topGood_holds : Rows.TopGoodCardSaid :=
  Claim7.holds_tied_plain_at .later [] _ _ _ _ QP (fun _ h => by cases h) (by kernel_rfl) (fun _ h => by cases h) topGood_row_tie rfl ⟨rfl, rfl⟩ (by kernel_rfl) rfl Vh (by kernel_rfl)
end Go.Proofs.YtoidpggbbfncpaaGreatDoor
