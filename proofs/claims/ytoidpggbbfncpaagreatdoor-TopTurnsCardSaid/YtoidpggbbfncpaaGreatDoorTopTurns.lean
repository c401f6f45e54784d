/- For every input the law TopTurns returns true. No condition. -/
import Derived.Test.YtoidpggbbfncpaaGreatDoorCards
import Derived.Test.YtoidpggbbfncpaaGreatDoorTie
import Derived.Deep.DeepHandedRow
import Derived.Test.YtoidpggbbfncpaaGreatDoorRows
import Derived.Test.YtoidpggbbfncpaaGreatDoorTopTurnsWalks
import Derived.Test.YtoidpggbbfncpaaGreatDoorTopTurnsWalks2
import Derived.Test.YtoidpggbbfncpaaGreatDoorTopTurnsWalks3
import Derived.Test.YtoidpggbbfncpaaGreatDoorTopTurnsWalks4
import Derived.Test.YtoidpggbbfncpaaGreatDoorTopTurnsWalks5
import Derived.Test.YtoidpggbbfncpaaGreatDoorTopTurnsWalks6
import Derived.Test.YtoidpggbbfncpaaGreatDoorTopTurnsEc3
import Derived.Test.YtoidpggbbfncpaaGreatDoorTopTurnsRa1
import Derived.Test.YtoidpggbbfncpaaGreatDoorTopTurnsRb1
import Derived.Test.YtoidpggbbfncpaaGreatDoorTopTurnsRc1
set_option linter.unusedSimpArgs false
set_option linter.unusedVariables false
set_option maxRecDepth 100000
set_option maxHeartbeats 1000000
namespace Go.Proofs.YtoidpggbbfncpaaGreatDoor
open Go Go.Ing Go.RowKit Go.ChangeShapes Go.WideShapes Go.ChangeAt
theorem own : ownKnob Tryz.prog.godebug = none := by kernel_rfl
theorem laidOut : laidOutB Tryz.prog = true := by kernel_rfl
theorem E6 : (Rows.laid_internal_strconv_uint64pow10 : DataW Unit) = Lib.tabData .u64 Lib.pow10Tab := by kernel_rfl
theorem Ex : ("internal/strconv.uint64pow10", (Lib.tabData .u64 Lib.pow10Tab : DataW Unit)) ∈ Rows.topTurnsRow.laid := E6 ▸ (.tail _ (.tail _ (.head _)))
theorem Gg : (Rows.laid_inglenook_words_verbs : DataW Unit) = L2 AH.Gh := by kernel_rfl
theorem GD : ("inglenook/words.verbs", (L2 AH.Gh : DataW Unit)) ∈ Rows.topTurnsRow.laid := Gg ▸ (.tail _ (.tail _ (.tail _ (.tail _ (.tail _ (.tail _ (.head _)))))))
theorem HQ : ("strconv.ErrSyntax", (Rows.laid_strconv_ErrSyntax : DataW Unit)) ∈ Rows.topTurnsRow.laid := .tail _ (.tail _ (.tail _ (.tail _ (.tail _ (.head _)))))
theorem Hh : ("strconv.ErrRange", (Rows.laid_strconv_ErrRange : DataW Unit)) ∈ Rows.topTurnsRow.laid := .tail _ (.tail _ (.tail _ (.tail _ (.head _))))
theorem dD {H : Type} {enc : TypeId × Value → H} {w : World} : Dc H enc Tryz.prog w (Au) GR 3 := Z8 Tryz.underlying3
theorem eE {H : Type} {enc : TypeId × Value → H} {w : World} : Dc H enc Tryz.prog w (A7) KZ 9 := VV Tryz.underlying9
theorem cy {H : Type} {enc : TypeId × Value → H} {w : World} : Dc H enc Tryz.prog w (Bu.enc) Bu.wf 41 := Bu.dc Tryz.underlying41 (by kernel_rfl) rfl (by kernel_rfl) dD rfl (by kernel_rfl) dD rfl (by kernel_rfl) dD rfl (by kernel_rfl) eE
theorem Lr {t0 : Nat} (f : Hd) (l : List Bu) (hu : ∀ a ∈ l, a.bytes.length ≤ 140737488351232) (w : World) (r0 : Rd w f t0 4 (l.flatMap Bu.enc)) (gl0 : GV 2 Fu w) (gl1 : GV 0 AH.DG w) (gl2 : Gl 7 w) (gl3 : Gl 8 w) : Ei Tryz.prog 6 #[f.val] w fun v w' => v = .bool true ∧ CB w w' := by
 refine Al [] [] Tryz.func6 rfl rfl rfl (St.start w []) ?_
 refine Gs (Ga rfl (Gn (.t1 0) (Gs ?_)))
 refine BH rfl cf rfl (fun b1 => ?_)
 refine AQ (AA (Gs (Gm rfl (Gt (SH (.c rfl .n)) ?_))))
 refine BF rfl cY (.c rfl (.c rfl .n)) (.c .h .n) (PV _ f l hu) (fun w hS => ⟨Rd.pull r0 hS (.c .h .n), gl0.pull (by simp) hS (.c .h .n), gl1.pull (by simp) hS (.c .h .n), gl2.pull (by simp) hS (.c .h .n), gl3.pull (by simp) hS (.c .h .n)⟩) (fun v1 B hv => ?_)
 obtain ⟨y2, rfl, rfl⟩ := hv
 refine Gm rfl (Gt (AM rfl rfl) (Gt (AM rfl rfl) (Ga rfl (Ga rfl (Gn (.t1 5) (Gs (Gm rfl ?_)))))))
 refine Ga rfl (Gn (.t1 2) (Ab ?_))
 refine AY rfl (.tmp rfl .n) ?_
 intro w1 hS; refine ⟨?_, hS.Am⟩; rfl
mutual
def Kf {H : Type} : DataW H → List Value
  | .lit (.int k n) => [.int k n]
  | .lit (.string bs) => [.string ⟨bs.toArray⟩]
  | .lit (.bool b) => [.bool b]
  | .agg ps => Qm ps
  | _ => []
def Qm {H : Type} : List (DataW H) → List Value
  | [] => []
  | d :: r => Kf d ++ Qm r
end
def RK {H : Type} : DataW H → List Value
  | .iface _ (.ptr (.agg ps)) => Qm ps
  | _ => []
noncomputable def low : Nat := (World.holding Tryz.prog default ⟨#[], #[], []⟩).heap.size
noncomputable def MP (os : Os) : World := { World.holding Tryz.prog os ⟨#[.cells (RK (Rows.laid_strconv_ErrRange : DataW Unit)).toArray 252, .cells (RK (Rows.laid_strconv_ErrSyntax : DataW Unit)).toArray 252], #[], []⟩ with heap := (((((((((World.holding Tryz.prog os ⟨#[.cells (RK (Rows.laid_strconv_ErrRange : DataW Unit)).toArray 252, .cells (RK (Rows.laid_strconv_ErrSyntax : DataW Unit)).toArray 252], #[], []⟩).heap.modify 8 fun o => match o with | .cells _ t frozen => .cells #[.iface 250 (.pointer (some ⟨low + 0, 0, none⟩))] t frozen | o => o).modify 7 fun o => match o with | .cells _ t frozen => .cells #[.iface 250 (.pointer (some ⟨low + 1, 0, none⟩))] t frozen | o => o).modify 3 fun o => match o with | .cells _ t frozen => .cells (Kf (Rows.laid_math_bits_deBruijn32tab : DataW Unit)).toArray t frozen | o => o).modify 4 fun o => match o with | .cells _ t frozen => .cells (Kf (Rows.laid_math_bits_deBruijn64tab : DataW Unit)).toArray t frozen | o => o).modify 2 fun o => match o with | .cells _ t frozen => .cells (Kf (Rows.laid_internal_strconv_uint64pow10 : DataW Unit)).toArray t frozen | o => o).modify 6 fun o => match o with | .cells _ t frozen => .cells (Kf (Rows.laid_unicode_utf8_acceptRanges : DataW Unit)).toArray t frozen | o => o).modify 0 fun o => match o with | .cells _ t frozen => .cells (Kf (Rows.laid_inglenook_words_verbs : DataW Unit)).toArray t frozen | o => o).modify 5 fun o => match o with | .cells _ t frozen => .cells (Kf (Rows.laid_unicode_utf8_first : DataW Unit)).toArray t frozen | o => o) }
set_option maxRecDepth 100000 in
theorem W2 (os : Os) : laidMet Tryz.prog Rows.topTurnsRow.laid ((MP os).forCall (fun _ _ => 0) ⟨#[], #[.slice none 0 0], []⟩).memory :=
  laidMet_of_run' 8 (by kernel_rfl) (by kernel_rfl)
set_option maxRecDepth 100000 in
theorem reads (os : Os) {H : Type} (enc : TypeId × Value → H) : ∃ places, DataW.whole enc Tryz.prog ((MP os).forCall (fun _ _ => 0) ⟨#[], #[.slice none 0 0], []⟩).memory Tryz.f6.params.toList Rows.topTurnsSpec.vars false (#[.slice none 0 0] : Array Value).toList 8 = some ([.nil], [], places) := ⟨[], by kernel_rfl⟩
set_option maxRecDepth 100000 in
theorem Mx (os : Os) (started : os.Started) (H : Type) (enc : TypeId × Value → H) (F : Stop.Interp) :
    ReturnsInHanded {} Tryz.checked os 6 .any ((OpenSpec.ofChange Rows.topTurnsSpec).preRow enc Tryz.prog Tryz.f6 Rows.topTurnsRow.domain false Rows.topTurnsRow.laid) (((OpenSpec.ofChange Rows.topTurnsSpec).at F).post enc Tryz.prog Tryz.f6 false true false false) := by
  obtain ⟨places, hx⟩ := reads os enc
  refine returnsInHanded_of_row (C := Tryz.checked) (s := (OpenSpec.ofChange Rows.topTurnsSpec)) own started (by kernel_rfl) Tryz.func6
    (witness_row_at (enc := enc) (C := Tryz.checked) false (MP os) #[.slice none 0 0] rfl (by kernel_rfl) (by kernel_rfl) (by kernel_rfl)
      (OpenSpec.preRow_of_cond 8 hx (by kernel_rfl) (fun k hk => by cases hk) (by kernel_rfl) (W2 os))) ?_
  intro W base args ds gs before hval hW _ hcond hsz hL _ _
  refine Xn (B := 4) laidOut (by kernel_rfl) Tryz.underlying4 (by kernel_rfl) rfl (fun ds h => by rw [Tryz.params6] at h; match ds, h with | [d1], _ => rfl) hW ?_
  obtain ⟨p, q, hA, hV, _, _, _⟩ := hW
  rw [Tryz.params6] at hA
  obtain ⟨v0, vs0, d0, ds0, p0, q0, hv0, rfl, rfl, hd0, hA⟩ := trodAll_cons hA
  obtain ⟨hvn, rfl, rfl⟩ := trodAll_nil hA
  obtain rfl : args = #[v0] := by cases args; simp_all
  obtain ⟨f, rfl, w0⟩ := YW Tryz.underlying22 (hval 0 _ _ rfl rfl) (by kernel_rfl) (by decide) Bu.fl cy hd0
  obtain ⟨_, l, r0, hl0, k0, hm0, hw0⟩ := w0
  exact Lr _ _ (by exact TZ Tryz.underlying22 Tryz.underlying41 rfl Tryz.underlying9 (by kernel_rfl) (by kernel_rfl) hd0 r0 (VW hsz (j := 0) rfl rfl)) W r0 (X4 hL Ex (by kernel_rfl) (by kernel_rfl) Tryz.underlying205 Tryz.underlying173 (by kernel_rfl) (by kernel_rfl)) (X7 hL GD (by kernel_rfl) (by kernel_rfl) Tryz.underlying133 Tryz.underlying9 (by kernel_rfl) (by kernel_rfl)) (dm hL HQ rfl (by kernel_rfl) (by kernel_rfl) Tryz.underlying109) (dm hL Hh rfl (by kernel_rfl) (by kernel_rfl) Tryz.underlying109)
theorem PR : Rows.TopTurnsSaid :=
  OpenClaim.holds_of_cond 6 Tryz.f6 rfl rfl rfl rfl rfl rfl rfl ⟨rfl, rfl, rfl, rfl, rfl⟩ rfl rfl rfl rfl rfl (by kernel_rfl) Tryz.func6 (by kernel_rfl)
    (of_decide_eq_true (by kernel_rfl)) (by unfold Func.isWrapper; first | (rw [if_pos (by decide +kernel)]; kernel_rfl) | (rw [if_neg (by decide +kernel)]; exact ⟨rfl, rfl⟩))
    (fun os started H enc _ F => by rw [OpenClaim.pre_eq_preRow]; exact Mx os started H enc F)
theorem U1 (f : FuncId) (fn : Func) (hf : Tryz.pinned.checked.prog.funcNamed "inglenook/inglenooktop.TopTurns" = some f) (hfn : Tryz.pinned.checked.prog.funcs[f]? = some fn) :
    true = Tryz.pinned.checked.prog.looks [] ∧ ∀ (j : Nat) t, fn.params[j]? = some t → Tryz.pinned.checked.prog.wantsStandIn t = false := by
  obtain rfl : f = 6 := Option.some.inj ((show Tryz.prog.funcNamed "inglenook/inglenooktop.TopTurns" = some 6 by kernel_rfl).symm.trans hf) |>.symm
  obtain rfl : fn = Tryz.f6 := (Option.some.inj (Tryz.func6.symm.trans hfn)).symm
  refine ⟨by kernel_rfl, fun j t ht => ?_⟩
  rw [Tryz.params6] at ht
  have hm : t ∈ [22] := by simpa using Array.mem_of_getElem? ht
  have hall : ([22].all fun u => !Tryz.prog.wantsStandIn u) = true := by kernel_rfl
  exact (show Tryz.prog.wantsStandIn t = false by simpa using List.all_eq_true.1 hall t hm)
theorem topTurns_holds : Rows.TopTurnsCardSaid :=
  Claim7.holds_tied_plain_at .later [] _ _ _ _ PR (fun _ h => by cases h) (by kernel_rfl) (fun _ h => by cases h) topTurns_row_tie rfl ⟨rfl, rfl⟩ (by kernel_rfl) rfl U1 (by kernel_rfl)
end Go.Proofs.YtoidpggbbfncpaaGreatDoor
