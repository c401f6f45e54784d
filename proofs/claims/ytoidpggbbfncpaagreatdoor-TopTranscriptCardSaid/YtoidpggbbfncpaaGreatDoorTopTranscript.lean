/- For every input the law TopTranscript returns true. No condition. -/
import Derived.Test.YtoidpggbbfncpaaGreatDoorCards
import Derived.Test.YtoidpggbbfncpaaGreatDoorTie
import Derived.Deep.DeepHandedRow
import Derived.Test.YtoidpggbbfncpaaGreatDoorRows
import Derived.Test.YtoidpggbbfncpaaGreatDoorTopTranscriptWalks
import Derived.Test.YtoidpggbbfncpaaGreatDoorTopTranscriptWalks2
import Derived.Test.YtoidpggbbfncpaaGreatDoorTopTranscriptWalks3
import Derived.Test.YtoidpggbbfncpaaGreatDoorTopTranscriptWalks4
import Derived.Test.YtoidpggbbfncpaaGreatDoorTopTranscriptWalks5
import Derived.Test.YtoidpggbbfncpaaGreatDoorTopTranscriptWalks6
import Derived.Test.YtoidpggbbfncpaaGreatDoorTopTranscriptEc3
import Derived.Test.YtoidpggbbfncpaaGreatDoorTopTranscriptRa1
import Derived.Test.YtoidpggbbfncpaaGreatDoorTopTranscriptRb1
import Derived.Test.YtoidpggbbfncpaaGreatDoorTopTranscriptRc1
set_option linter.unusedSimpArgs false
set_option linter.unusedVariables false
set_option maxRecDepth 100000
set_option maxHeartbeats 1000000
namespace Go.Proofs.YtoidpggbbfncpaaGreatDoor
open Go Go.Ing Go.RowKit Go.ChangeShapes Go.WideShapes Go.ChangeAt
theorem own : ownKnob Tryz.prog.godebug = none := by kernel_rfl
theorem laidOut : laidOutB Tryz.prog = true := by kernel_rfl
theorem FN : (Rows.laid_internal_strconv_uint64pow10 : DataW Unit) = Lib.tabData .u64 Lib.pow10Tab := by kernel_rfl
theorem FD : ("internal/strconv.uint64pow10", (Lib.tabData .u64 Lib.pow10Tab : DataW Unit)) ∈ Rows.topTranscriptRow.laid := FN ▸ (.tail _ (.tail _ (.head _)))
theorem HJ : (Rows.laid_inglenook_words_verbs : DataW Unit) = MY AH.HF := by kernel_rfl
theorem Gx : ("inglenook/words.verbs", (MY AH.HF : DataW Unit)) ∈ Rows.topTranscriptRow.laid := HJ ▸ (.tail _ (.tail _ (.tail _ (.tail _ (.tail _ (.tail _ (.head _)))))))
theorem IB : ("strconv.ErrSyntax", (Rows.laid_strconv_ErrSyntax : DataW Unit)) ∈ Rows.topTranscriptRow.laid := .tail _ (.tail _ (.tail _ (.tail _ (.tail _ (.head _)))))
theorem IP : ("strconv.ErrRange", (Rows.laid_strconv_ErrRange : DataW Unit)) ∈ Rows.topTranscriptRow.laid := .tail _ (.tail _ (.tail _ (.tail _ (.head _))))
theorem im {H : Type} {enc : TypeId × Value → H} {w : World} : Dc H enc Tryz.prog w (Az) G0 3 := df Tryz.underlying3
theorem j2 {H : Type} {enc : TypeId × Value → H} {w : World} : Dc H enc Tryz.prog w (A6) LP 9 := Xr Tryz.underlying9
theorem jY {H : Type} {enc : TypeId × Value → H} {w : World} : Dc H enc Tryz.prog w (Br.enc) Br.wf 41 := Br.dc Tryz.underlying41 (by kernel_rfl) rfl (by kernel_rfl) im rfl (by kernel_rfl) im rfl (by kernel_rfl) im rfl (by kernel_rfl) j2
theorem Jk {t0 : Nat} (f : Hd) (l : List Br) (hu : ∀ a ∈ l, a.bytes.length ≤ 140737488351232) (w : World) (r0 : Rd w f t0 4 (l.flatMap Br.enc)) (gl0 : GV 2 GJ w) (gl1 : GV 0 AH.DU w) (gl2 : HP 7 w) (gl3 : HP 8 w) (gl4 : GI 1 w) : Ev Tryz.prog 5 #[f.val] w fun v w' => v = .bool true ∧ CH w w' := by
 refine Ap [] [] Tryz.func5 J J J (St.start w []) ?_
 refine Gs (Ga J (Gn (.t1 0) (Gs ?_)))
 refine BJ J jT J (fun b1 => ?_)
 refine AR (AA (Gs ?_))
 refine BJ J jU J (fun b2 => ?_)
 refine AR (AA (Aq ?_))
 refine eZ 9 ?_
 refine AJ (Gm J (Gt (Ue (.c J (.c J .n))) ?_))
 refine BL J jk (.c J (.c J .n)) (.c (.t (.t .h)) (.c .h (.c .h .n))) (Qt _ _ f l hu) (fun w hS => ⟨Rd.pull r0 hS (.c (.t (.t .h)) (.c .h (.c .h .n))), gl0.pull (by simp) hS (.c (.t (.t .h)) (.c .h (.c .h .n))), gl1.pull (by simp) hS (.c (.t (.t .h)) (.c .h (.c .h .n))), gl2.pull (by simp) hS (.c (.t (.t .h)) (.c .h (.c .h .n))), gl3.pull (by simp) hS (.c (.t (.t .h)) (.c .h (.c .h .n))), gl4.pull (by simp) hS (.c (.t (.t .h)) (.c .h (.c .h .n)))⟩) (fun v1 B hv => ?_)
 obtain ⟨y2, rfl, rfl⟩ := hv
 refine Gm J (Gt (AM J J) (Gt (AM J J) (Ga J (Ga J (Gn (.t1 6) (Gs (Gm J ?_)))))))
 refine Ga J (Gn (.t1 2) (Ac ?_))
 refine AY J (.tmp J .n) ?_
 intro w1 hS; refine ⟨?_, hS.Ao⟩; rfl
mutual
def L5 {H : Type} : DataW H → List Value
  | .lit (.int k n) => [.int k n]
  | .lit (.string bs) => [.string ⟨bs.toArray⟩]
  | .lit (.bool b) => [.bool b]
  | .agg ps => Ro ps
  | _ => []
def Ro {H : Type} : List (DataW H) → List Value
  | [] => []
  | d :: r => L5 d ++ Ro r
end
def Sa {H : Type} : DataW H → List Value
  | .iface _ (.ptr (.agg ps)) => Ro ps
  | _ => []
noncomputable def low : Nat := (World.holding Tryz.prog default ⟨#[], #[], []⟩).heap.size
noncomputable def M9 (os : Os) : World := { World.holding Tryz.prog os ⟨#[.cells (Sa (Rows.laid_strconv_ErrRange : DataW Unit)).toArray 252, .cells (Sa (Rows.laid_strconv_ErrSyntax : DataW Unit)).toArray 252], #[], []⟩ with heap := (((((((((World.holding Tryz.prog os ⟨#[.cells (Sa (Rows.laid_strconv_ErrRange : DataW Unit)).toArray 252, .cells (Sa (Rows.laid_strconv_ErrSyntax : DataW Unit)).toArray 252], #[], []⟩).heap.modify 8 fun o => match o with | .cells _ t frozen => .cells #[.iface 250 (.pointer (some ⟨low + 0, 0, none⟩))] t frozen | o => o).modify 7 fun o => match o with | .cells _ t frozen => .cells #[.iface 250 (.pointer (some ⟨low + 1, 0, none⟩))] t frozen | o => o).modify 3 fun o => match o with | .cells _ t frozen => .cells (L5 (Rows.laid_math_bits_deBruijn32tab : DataW Unit)).toArray t frozen | o => o).modify 4 fun o => match o with | .cells _ t frozen => .cells (L5 (Rows.laid_math_bits_deBruijn64tab : DataW Unit)).toArray t frozen | o => o).modify 2 fun o => match o with | .cells _ t frozen => .cells (L5 (Rows.laid_internal_strconv_uint64pow10 : DataW Unit)).toArray t frozen | o => o).modify 6 fun o => match o with | .cells _ t frozen => .cells (L5 (Rows.laid_unicode_utf8_acceptRanges : DataW Unit)).toArray t frozen | o => o).modify 0 fun o => match o with | .cells _ t frozen => .cells (L5 (Rows.laid_inglenook_words_verbs : DataW Unit)).toArray t frozen | o => o).modify 5 fun o => match o with | .cells _ t frozen => .cells (L5 (Rows.laid_unicode_utf8_first : DataW Unit)).toArray t frozen | o => o) }
set_option maxRecDepth 100000 in
theorem Zy (os : Os) : laidMet Tryz.prog Rows.topTranscriptRow.laid ((M9 os).forCall (fun _ _ => 0) ⟨#[], #[.slice none 0 0], []⟩).memory :=
  laidMet_of_run' 8 (by kernel_rfl) (by kernel_rfl)
set_option maxRecDepth 100000 in
theorem reads (os : Os) {H : Type} (enc : TypeId × Value → H) : ∃ places, DataW.whole enc Tryz.prog ((M9 os).forCall (fun _ _ => 0) ⟨#[], #[.slice none 0 0], []⟩).memory Tryz.f5.params.toList Rows.topTranscriptSpec.vars false (#[.slice none 0 0] : Array Value).toList 8 = some ([.nil], [], places) := ⟨[], by kernel_rfl⟩
set_option maxRecDepth 100000 in
theorem Kj (os : Os) (started : os.Started) (H : Type) (enc : TypeId × Value → H) (F : Stop.Interp) :
    ReturnsInHanded {} Tryz.checked os 5 .any ((OpenSpec.ofChange Rows.topTranscriptSpec).preRow enc Tryz.prog Tryz.f5 Rows.topTranscriptRow.domain false Rows.topTranscriptRow.laid) (((OpenSpec.ofChange Rows.topTranscriptSpec).at F).post enc Tryz.prog Tryz.f5 false true false false) := by
  obtain ⟨places, hx⟩ := reads os enc
  refine returnsInHanded_of_row (C := Tryz.checked) (s := (OpenSpec.ofChange Rows.topTranscriptSpec)) own started (by kernel_rfl) Tryz.func5
    (witness_row_at (enc := enc) (C := Tryz.checked) false (M9 os) #[.slice none 0 0] rfl (by kernel_rfl) (by kernel_rfl) (by kernel_rfl)
      (OpenSpec.preRow_of_cond 8 hx (by kernel_rfl) (fun k hk => by cases hk) (by kernel_rfl) (Zy os))) ?_
  intro W base args ds gs before hval hW _ hcond hsz hL hSh _
  refine aA (B := 4) laidOut (by kernel_rfl) Tryz.underlying4 (by kernel_rfl) J (fun ds h => by rw [Tryz.params5] at h; match ds, h with | [d1], _ => rfl) hW ?_
  obtain ⟨p, q, hA, hV, _, _, _⟩ := hW
  rw [Tryz.params5] at hA
  obtain ⟨v0, vs0, d0, ds0, p0, q0, hv0, rfl, rfl, hd0, hA⟩ := trodAll_cons hA
  obtain ⟨hvn, rfl, rfl⟩ := trodAll_nil hA
  obtain rfl : args = #[v0] := by cases args; simp_all
  obtain ⟨f, rfl, w0⟩ := cm Tryz.underlying22 (hval 0 _ _ rfl rfl) (by kernel_rfl) (by decide) Br.fl jY hd0
  obtain ⟨_, l, r0, hl0, k0, hm0, hw0⟩ := w0
  exact Jk _ _ (by exact Vu Tryz.underlying22 Tryz.underlying41 rfl Tryz.underlying9 (by kernel_rfl) (by kernel_rfl) hd0 r0 (Xn hsz (j := 0) rfl rfl)) W r0 (cW hL FD (by kernel_rfl) (by kernel_rfl) Tryz.underlying205 Tryz.underlying173 (by kernel_rfl) (by kernel_rfl)) (bu hL Gx (by kernel_rfl) (by kernel_rfl) Tryz.underlying133 Tryz.underlying9 (by kernel_rfl) (by kernel_rfl)) (jx hL IB J (by kernel_rfl) (by kernel_rfl) Tryz.underlying109) (jx hL IP J (by kernel_rfl) (by kernel_rfl) Tryz.underlying109) (Tp (t := 3) (zero := #[.int .i64 0]) (v := 0) hSh (of_decide_eq_true (by kernel_rfl)) (by kernel_rfl) J (cell_of_shapedOpen_int (t := 3) (zero := #[.int .i64 0]) hSh (of_decide_eq_true (by kernel_rfl)) (by kernel_rfl) J (by kernel_rfl) (by kernel_rfl) Tryz.underlying3))
theorem Lr : Rows.TopTranscriptSaid :=
  OpenClaim.holds_of_cond 5 Tryz.f5 rfl rfl rfl rfl rfl rfl rfl ⟨rfl, rfl, rfl, rfl, rfl⟩ rfl rfl rfl rfl rfl (by kernel_rfl) Tryz.func5 (by kernel_rfl)
    (of_decide_eq_true (by kernel_rfl)) (by unfold Func.isWrapper; first | (rw [if_pos (by decide +kernel)]; kernel_rfl) | (rw [if_neg (by decide +kernel)]; exact ⟨rfl, rfl⟩))
    (fun os started H enc _ F => by rw [OpenClaim.pre_eq_preRow]; exact Kj os started H enc F)
theorem Xw (f : FuncId) (fn : Func) (hf : Tryz.pinned.checked.prog.funcNamed "inglenook/inglenooktop.TopTranscript" = some f) (hfn : Tryz.pinned.checked.prog.funcs[f]? = some fn) :
    true = Tryz.pinned.checked.prog.looks [] ∧ ∀ (j : Nat) t, fn.params[j]? = some t → Tryz.pinned.checked.prog.wantsStandIn t = false := by
  obtain rfl : f = 5 := Option.some.inj ((show Tryz.prog.funcNamed "inglenook/inglenooktop.TopTranscript" = some 5 by kernel_rfl).symm.trans hf) |>.symm
  obtain rfl : fn = Tryz.f5 := (Option.some.inj (Tryz.func5.symm.trans hfn)).symm
  refine ⟨by kernel_rfl, fun j t ht => ?_⟩
  rw [Tryz.params5] at ht
  have hm : t ∈ [22] := by simpa using Array.mem_of_getElem? ht
  have hall : ([22].all fun u => !Tryz.prog.wantsStandIn u) = true := by kernel_rfl
  exact (show Tryz.prog.wantsStandIn t = false by simpa using List.all_eq_true.1 hall t hm)
theorem topTranscript_holds : Rows.TopTranscriptCardSaid :=
  Claim7.holds_tied_plain_at .later [] _ _ _ _ Lr (fun _ h => by cases h) (by kernel_rfl) (fun _ h => by cases h) topTranscript_row_tie rfl ⟨rfl, rfl⟩ (by kernel_rfl) rfl Xw (by kernel_rfl)
end Go.Proofs.YtoidpggbbfncpaaGreatDoor
